import PyProof.Rows.All
import Wide.All
import OpenK.AllK
import Wide.FinOn
import KE.KTupSum
import HandS.ForMost
import HandS.ForExc
import HandS.Wide
import HandS.Zip
import HandS.Conv
import HandS.IsInst
import HandS.Style
import HandS.TupAny
import HandS.SortInts
import HandS.ExcIs
import KE.GoesEnum
import HandS.More
import PyProof.CompFree
import KE.KDictZip
import KE.KUnpack
import KE.KRevSl
import PySem.Challenge.RW_dullglass_k43_curves
set_option Elab.async false
set_option linter.all false
set_option maxRecDepth 100000
set_option maxHeartbeats 4000000
namespace Dg
open PySem PySem.Spec PyProof.Rows L2

/-! ### data, owned trees -/
inductive D where
  | non | bl (b : Bool) | int (i : Int) | str (x : Str) | lst (l : List D) | tup (l : List D) | scr (l : List Int) | cell (n : Nat) | exc (x : Str) | ob (x : Str) (ns : List Str) (l : List D)
inductive T where
  | v (d : D) | ol (ts : List T) | ot (ts : List T)
mutual
@[simp] def T.d : T → D
  | .v d => d
  | .ol ts => .lst (T.dA ts)
  | .ot ts => .tup (T.dA ts)
@[simp] def T.dA : List T → List D
  | [] => []
  | t :: ts => t.d :: T.dA ts
end
mutual
@[simp] def D.flat : D → Bool
  | .lst _ => false
  | .tup l => D.flatA l
  | .non => true
  | .bl _ => true
  | .int _ => true
  | .str _ => true
  | .scr _ => true
  | .cell _ => true
  | .exc _ => true
  | .ob _ _ _ => false
@[simp] def D.flatA : List D → Bool
  | [] => true
  | d :: ds => d.flat && D.flatA ds
end
theorem T.dA_map : ∀ ts : List T, T.dA ts = ts.map T.d
  | [] => rfl
  | t :: ts => by unfold T.dA; rw [T.dA_map ts]; rfl
theorem T.dA_v : ∀ ds : List D, T.dA (ds.map T.v) = ds
  | [] => rfl
  | d :: ds => by show T.d (T.v d) :: T.dA (ds.map T.v) = d :: ds; rw [T.dA_v ds]; unfold T.d; rfl
theorem D.flatA_all : ∀ ds : List D, D.flatA ds = ds.all D.flat
  | [] => rfl
  | d :: ds => by unfold D.flatA; rw [D.flatA_all ds]; rfl

/-- a list of ints that nobody can write: locked, or the written part's -/
def Lk (K : PySem.W.Frag) (F : Hp) (a : Addr) (ns : List Int) : Prop :=
  (∃ o, F a = some (.frz o (.lst (ns.map V.int)))) ∨
    ∃ (o : Obj) (its : Array Value) (n : Nat), K.lookup a = some o ∧ o.cls = .type "list" ∧ o.dict = none ∧ o.data = .seq its n ∧ its.size ≤ sizeLine ∧ Vals (ns.map V.int) its.toList
theorem Lk.seq {K : PySem.W.Frag} {F : Hp} {a : Addr} {ns : List Int} (h : Lk K F a ns) : SqL K F a (ns.map V.int) := by
  rcases h with ⟨o, h⟩ | h
  · exact .inl (.inr ⟨o, h⟩)
  · exact .inr h
/-- an exception of the class at C, caught -/
def excO (a C : Addr) : HO := .ext fun h => ∃ oe, h.get? a = some oe ∧ Zc (.ref C) none oe ∧ ∃ vs, oe.data = .fields vs
mutual
inductive Dd (K : PySem.W.Frag) (ca : List Addr) (F : Hp) : V → D → Prop
  | non : Dd K ca F .non .non
  | bl (b : Bool) : Dd K ca F (.bl b) (.bl b)
  | int (i : Int) : Dd K ca F (.int i) (.int i)
  | str (x : Str) : Dd K ca F (.str x) (.str x)
  | lst {a : Addr} {xs : List V} {ds : List D} : F a = some (.lst xs) → DdA K ca F xs ds → Dd K ca F (.ref a) (.lst ds)
  | tup {a : Addr} {xs : List V} {ds : List D} : SqT K F a xs → DdA K ca F xs ds → Dd K ca F (.ref a) (.tup ds)
  | scr {a : Addr} {ns : List Int} : Lk K F a ns → Dd K ca F (.ref a) (.scr ns)
  | cell {a : Addr} {n : Nat} : ca[n]? = some a → Dd K ca F (.ref a) (.cell n)
  | exc {a C : Addr} {x : Str} : F a = some (excO a C) → PySem.W.nsIn K mainGlobals x = some (some (.ref C)) → Dd K ca F (.ref a) (.exc x)
  | ob {a C dx : Addr} {x : Str} {fs : List (Str × V)} {ns : List Str} {ds : List D} : F a = some (.ins C dx fs) → PySem.W.nsIn K mainGlobals x = some (some (.ref C)) → fs.map (·.1) = ns → DdA K ca F (fs.map (·.2)) ds → Dd K ca F (.ref a) (.ob x ns ds)
inductive DdA (K : PySem.W.Frag) (ca : List Addr) (F : Hp) : List V → List D → Prop
  | nil : DdA K ca F [] []
  | cons {v : V} {vs : List V} {d : D} {ds : List D} : Dd K ca F v d → DdA K ca F vs ds → DdA K ca F (v :: vs) (d :: ds)
end
section
variable {K : PySem.W.Frag} {ca : List Addr} {F F' H H' : Hp}
theorem Same.tup {a : Addr} {xs : List V} (e : Same F F') (h : SqT K F a xs) : SqT K F' a xs := by
  rcases h with (h | ⟨o, h⟩) | h
  · exact .inl (.inl (e _ _ h))
  · exact .inl (.inr ⟨o, e _ _ h⟩)
  · exact .inr h
theorem Same.lk {a : Addr} {ns : List Int} (e : Same F F') (h : Lk K F a ns) : Lk K F' a ns := by
  rcases h with ⟨o, h⟩ | h
  · exact .inl ⟨o, e _ _ h⟩
  · exact .inr h
mutual
theorem Dd.mono (e : Same F F') : ∀ (d : D) (v : V), Dd K ca F v d → Dd K ca F' v d
  | .non, _, h => by cases h; exact .non
  | .bl _, _, h => by cases h; exact .bl _
  | .int _, _, h => by cases h; exact .int _
  | .str _, _, h => by cases h; exact .str _
  | .lst ds, _, h => by
    cases h with
    | lst h1 h2 => exact .lst (e _ _ h1) (DdA.mono e ds _ h2)
  | .tup ds, _, h => by
    cases h with
    | tup h1 h2 => exact .tup (Same.tup e h1) (DdA.mono e ds _ h2)
  | .scr _, _, h => by
    cases h with
    | scr h1 => exact .scr (Same.lk e h1)
  | .cell _, _, h => by
    cases h with
    | cell h1 => exact .cell h1
  | .exc _, _, h => by
    cases h with
    | exc h1 h2 => exact .exc (e _ _ h1) h2
  | .ob _ _ ds, _, h => by
    cases h with
    | ob h1 h2 h3 h4 => exact .ob (e _ _ h1) h2 h3 (DdA.mono e ds _ h4)
theorem DdA.mono (e : Same F F') : ∀ (ds : List D) (vs : List V), DdA K ca F vs ds → DdA K ca F' vs ds
  | [], _, h => by cases h; exact .nil
  | d :: ds, _, h => by
    cases h with
    | cons h1 h2 => exact .cons (Dd.mono e d _ h1) (DdA.mono e ds _ h2)
end
theorem DdA.length : ∀ {vs : List V} {ds : List D}, DdA K ca F vs ds → vs.length = ds.length
  | _, _, .nil => rfl
  | _, _, .cons _ h => by simp [DdA.length h]
theorem DdA.get : ∀ {vs : List V} {ds : List D} {i : Nat} {d : D}, DdA K ca F vs ds → ds[i]? = some d → ∃ v, vs[i]? = some v ∧ Dd K ca F v d
  | _, _, _, _, .nil, e => by simp at e
  | _, _, 0, _, .cons r _, e => by simp at e; subst e; exact ⟨_, rfl, r⟩
  | _, _, i + 1, d, .cons _ t, e => by
    obtain ⟨v, h1, h2⟩ := DdA.get (i := i) (d := d) t (by simpa using e)
    exact ⟨v, by simpa using h1, h2⟩
theorem DdA.getV : ∀ {vs : List V} {ds : List D} {i : Nat} {v : V}, DdA K ca F vs ds → vs[i]? = some v → ∃ d, ds[i]? = some d ∧ Dd K ca F v d
  | _, _, _, _, .nil, e => by simp at e
  | _, _, 0, _, .cons r _, e => by simp at e; subst e; exact ⟨_, rfl, r⟩
  | _, _, i + 1, v, .cons _ t, e => by
    obtain ⟨d, h1, h2⟩ := DdA.getV (i := i) (v := v) t (by simpa using e)
    exact ⟨d, by simpa using h1, h2⟩
theorem DdA.app : ∀ {vs ws : List V} {ds es : List D}, DdA K ca F vs ds → DdA K ca F ws es → DdA K ca F (vs ++ ws) (ds ++ es)
  | _, _, _, _, .nil, s => s
  | _, _, _, _, .cons r t, s => .cons r (DdA.app t s)
theorem DdA.take : ∀ {vs : List V} {ds : List D} (n : Nat), DdA K ca F vs ds → DdA K ca F (vs.take n) (ds.take n)
  | _, _, 0, _ => .nil
  | _, _, _ + 1, .nil => .nil
  | _, _, n + 1, .cons r t => .cons r (DdA.take n t)
theorem DdA.drop : ∀ {vs : List V} {ds : List D} (n : Nat), DdA K ca F vs ds → DdA K ca F (vs.drop n) (ds.drop n)
  | _, _, 0, r => r
  | _, _, _ + 1, .nil => .nil
  | _, _, n + 1, .cons _ t => DdA.drop n t
theorem DdA.ints : ∀ ns : List Int, DdA K ca F (ns.map V.int) (ns.map D.int)
  | [] => .nil
  | n :: ns => .cons (.int n) (DdA.ints ns)
theorem DdA.ints_of : ∀ {ns : List Int} {vs : List V}, DdA K ca F vs (ns.map D.int) → vs = ns.map V.int
  | [], _, h => by cases h; rfl
  | n :: ns, _, h => by
    cases h with
    | cons h1 h2 => cases h1; rw [DdA.ints_of h2]; rfl
theorem DdA.map {α : Type} {f : α → V} {g : α → D} (h : ∀ a, Dd K ca F (f a) (g a)) : ∀ l : List α, DdA K ca F (l.map f) (l.map g)
  | [] => .nil
  | a :: l => .cons (h a) (DdA.map h l)

/-! ### the heap with some addresses as they stand -/
def Bh (F H : Hp) (as : List Addr) : Hp := fun a => if a ∈ as then H a else F a
theorem Bh_nil : Bh F H [] = F := by funext a; simp [Bh]
theorem Bh_in {as : List Addr} {a : Addr} (h : a ∈ as) : Bh F H as a = H a := if_pos h
theorem Bh_out {as : List Addr} {a : Addr} (h : a ∉ as) : Bh F H as a = F a := if_neg h
theorem Bh_same {as : List Addr} (h : ∀ a ∈ as, F a = none) : Same F (Bh F H as) := fun a o e => by
  by_cases m : a ∈ as
  · rw [h a m] at e; cases e
  · rw [Bh_out m]; exact e
theorem Bh_sub {as : List Addr} (h : Same F H) : Same (Bh F H as) H := fun a o e => by
  by_cases m : a ∈ as
  · rw [Bh_in m] at e; exact e
  · rw [Bh_out m] at e; exact h a o e
theorem Bh_mono {as : List Addr} (s : Same F F') (k : ∀ a ∈ as, H' a = H a) : Same (Bh F H as) (Bh F' H' as) := fun a o e => by
  by_cases m : a ∈ as
  · rw [Bh_in m] at e ⊢; rw [k a m]; exact e
  · rw [Bh_out m] at e ⊢; exact s a o e
theorem Bh_more {as bs : List Addr} (hs : ∀ a ∈ as, a ∈ bs) (h : ∀ a ∈ bs, F a = none) : Same (Bh F H as) (Bh F H bs) := fun a o e => by
  by_cases m : a ∈ as
  · rw [Bh_in m] at e; rw [Bh_in (hs a m)]; exact e
  · rw [Bh_out m] at e
    by_cases m' : a ∈ bs
    · rw [h a m'] at e; cases e
    · rw [Bh_out m']; exact e
/-- what is flat does not lean on lists that may be written -/
theorem flat_tup {as : List Addr} {a : Addr} {xs : List V} (hl : ∀ a ∈ as, ∃ xs, H a = some (.lst xs)) (h : SqT K (Bh F H as) a xs) : SqT K F a xs := by
  rcases h with (h | ⟨o, h⟩) | h
  · by_cases m : a ∈ as
    · obtain ⟨ys, e⟩ := hl a m
      rw [Bh_in m, e] at h; cases h
    · rw [Bh_out m] at h; exact .inl (.inl h)
  · by_cases m : a ∈ as
    · obtain ⟨ys, e⟩ := hl a m
      rw [Bh_in m, e] at h; cases h
    · rw [Bh_out m] at h; exact .inl (.inr ⟨o, h⟩)
  · exact .inr h
theorem flat_lk {as : List Addr} {a : Addr} {ns : List Int} (hl : ∀ a ∈ as, ∃ xs, H a = some (.lst xs)) (h : Lk K (Bh F H as) a ns) : Lk K F a ns := by
  rcases h with ⟨o, h⟩ | h
  · by_cases m : a ∈ as
    · obtain ⟨ys, e⟩ := hl a m
      rw [Bh_in m, e] at h; cases h
    · rw [Bh_out m] at h; exact .inl ⟨o, h⟩
  · exact .inr h
mutual
theorem Dd.unB {as : List Addr} (hl : ∀ a ∈ as, ∃ xs, H a = some (.lst xs)) : ∀ (d : D) (v : V), d.flat = true → Dd K ca (Bh F H as) v d → Dd K ca F v d
  | .non, _, _, h => by cases h; exact .non
  | .bl _, _, _, h => by cases h; exact .bl _
  | .int _, _, _, h => by cases h; exact .int _
  | .str _, _, _, h => by cases h; exact .str _
  | .lst ds, _, f, h => by simp [D.flat] at f
  | .tup ds, _, f, h => by
    cases h with
    | tup h1 h2 => exact .tup (flat_tup hl h1) (DdA.unB hl ds _ (by simpa [D.flat] using f) h2)
  | .scr _, _, _, h => by
    cases h with
    | scr h1 => exact .scr (flat_lk hl h1)
  | .cell _, _, _, h => by
    cases h with
    | cell h1 => exact .cell h1
  | .exc _, _, _, h => by
    cases h with
    | @exc a C _ h1 h2 =>
      by_cases m : a ∈ as
      · obtain ⟨ys, e⟩ := hl a m
        rw [Bh_in m, e] at h1; cases h1
      · rw [Bh_out m] at h1; exact .exc h1 h2
  | .ob _ _ _, _, f, h => by simp [D.flat] at f
theorem DdA.unB {as : List Addr} (hl : ∀ a ∈ as, ∃ xs, H a = some (.lst xs)) : ∀ (ds : List D) (vs : List V), D.flatA ds = true → DdA K ca (Bh F H as) vs ds → DdA K ca F vs ds
  | [], _, _, h => by cases h; exact .nil
  | d :: ds, _, f, h => by
    have f' : d.flat = true ∧ D.flatA ds = true := by simpa [D.flatA] using f
    cases h with
    | cons h1 h2 => exact .cons (Dd.unB hl d _ f'.1 h1) (DdA.unB hl ds _ f'.2 h2)
end

/-! ### owned -/
mutual
inductive Own (K : PySem.W.Frag) (ca : List Addr) (F H : Hp) : V → T → List Addr → Prop
  | v {x : V} {d : D} : Dd K ca F x d → Own K ca F H x (.v d) []
  | l {a : Addr} {xs : List V} {ts : List T} {as : List Addr} : F a = none → H a = some (.lst xs) → OwnA K ca F H xs ts as → Own K ca F H (.ref a) (.ol ts) (a :: as)
  | t {a : Addr} {xs : List V} {ts : List T} {as : List Addr} : F a = some (.tup xs) → OwnA K ca F H xs ts as → Own K ca F H (.ref a) (.ot ts) as
inductive OwnA (K : PySem.W.Frag) (ca : List Addr) (F H : Hp) : List V → List T → List Addr → Prop
  | nil : OwnA K ca F H [] [] []
  | cons {x : V} {xs : List V} {t : T} {ts : List T} {as bs : List Addr} : Own K ca F H x t as → OwnA K ca F H xs ts bs → OwnA K ca F H (x :: xs) (t :: ts) (as ++ bs)
end
mutual
theorem Own.fr (s : Same F F') : ∀ (t : T) (x : V) (as : List Addr), (∀ a ∈ as, H' a = H a ∧ F' a = none) → Own K ca F H x t as → Own K ca F' H' x t as
  | .v d, _, _, _, h => by
    cases h with
    | v h1 => exact .v (Dd.mono s d _ h1)
  | .ol ts, _, _, k, h => by
    cases h with
    | l h1 h2 h3 =>
      have q := k _ List.mem_cons_self
      exact .l q.2 (q.1.trans h2) (OwnA.fr s ts _ _ (fun a m => k a (List.mem_cons_of_mem _ m)) h3)
  | .ot ts, _, _, k, h => by
    cases h with
    | t h1 h2 => exact .t (s _ _ h1) (OwnA.fr s ts _ _ k h2)
theorem OwnA.fr (s : Same F F') : ∀ (ts : List T) (xs : List V) (as : List Addr), (∀ a ∈ as, H' a = H a ∧ F' a = none) → OwnA K ca F H xs ts as → OwnA K ca F' H' xs ts as
  | [], _, _, _, h => by cases h; exact .nil
  | t :: ts, _, _, k, h => by
    cases h with
    | cons h1 h2 => exact .cons (Own.fr s t _ _ (fun a m => k a (List.mem_append_left _ m)) h1) (OwnA.fr s ts _ _ (fun a m => k a (List.mem_append_right _ m)) h2)
end
mutual
theorem Own.ok : ∀ (t : T) (x : V) (as : List Addr), Own K ca F H x t as → ∀ a ∈ as, F a = none ∧ ∃ xs, H a = some (.lst xs)
  | .v d, _, _, h => by
    cases h with
    | v h1 => intro a m; cases m
  | .ol ts, _, _, h => by
    cases h with
    | l h1 h2 h3 =>
      intro a m
      rcases List.mem_cons.mp m with rfl | m
      · exact ⟨h1, _, h2⟩
      · exact OwnA.ok ts _ _ h3 a m
  | .ot ts, _, _, h => by
    cases h with
    | t h1 h2 => exact OwnA.ok ts _ _ h2
theorem OwnA.ok : ∀ (ts : List T) (xs : List V) (as : List Addr), OwnA K ca F H xs ts as → ∀ a ∈ as, F a = none ∧ ∃ xs, H a = some (.lst xs)
  | [], _, _, h => by cases h; intro a m; cases m
  | t :: ts, _, _, h => by
    cases h with
    | cons h1 h2 =>
      intro a m
      rcases List.mem_append.mp m with m | m
      · exact Own.ok t _ _ h1 a m
      · exact OwnA.ok ts _ _ h2 a m
end
/-! .. as data in the heap with its own lists -/
mutual
theorem Own.dd {bs : List Addr} (hb : ∀ a ∈ bs, F a = none) : ∀ (t : T) (x : V) (as : List Addr), (∀ a ∈ as, a ∈ bs) → Own K ca F H x t as → Dd K ca (Bh F H bs) x t.d
  | .v d, _, _, _, h => by
    cases h with
    | v h1 => exact Dd.mono (Bh_same hb) d _ h1
  | .ol ts, _, _, k, h => by
    cases h with
    | l h1 h2 h3 =>
      refine .lst ?_ (OwnA.dd hb ts _ _ (fun a m => k a (List.mem_cons_of_mem _ m)) h3)
      rw [Bh_in (k _ List.mem_cons_self)]; exact h2
  | .ot ts, _, _, k, h => by
    cases h with
    | t h1 h2 => exact .tup (.inl (.inl (Bh_same hb _ _ h1))) (OwnA.dd hb ts _ _ k h2)
theorem OwnA.dd {bs : List Addr} (hb : ∀ a ∈ bs, F a = none) : ∀ (ts : List T) (xs : List V) (as : List Addr), (∀ a ∈ as, a ∈ bs) → OwnA K ca F H xs ts as → DdA K ca (Bh F H bs) xs (T.dA ts)
  | [], _, _, _, h => by cases h; exact .nil
  | t :: ts, _, _, k, h => by
    cases h with
    | cons h1 h2 => exact .cons (Own.dd hb t _ _ (fun a m => k a (List.mem_append_left _ m)) h1) (OwnA.dd hb ts _ _ (fun a m => k a (List.mem_append_right _ m)) h2)
end
theorem OwnA.length : ∀ {xs : List V} {ts : List T} {as : List Addr}, OwnA K ca F H xs ts as → xs.length = ts.length
  | _, _, _, .nil => rfl
  | _, _, _, .cons _ h => by simp [OwnA.length h]
theorem OwnA.vs : ∀ {xs : List V} {ds : List D}, DdA K ca F xs ds → OwnA K ca F H xs (ds.map T.v) []
  | _, _, .nil => .nil
  | _, _, .cons h1 h2 => OwnA.cons (as := []) (bs := []) (.v h1) (OwnA.vs h2)
theorem OwnA.app : ∀ {xs ys : List V} {ts us : List T} {as bs : List Addr}, OwnA K ca F H xs ts as → OwnA K ca F H ys us bs → OwnA K ca F H (xs ++ ys) (ts ++ us) (as ++ bs)
  | _, _, _, _, _, _, .nil, s => s
  | _, _, _, _, _, _, .cons h1 h2, s => by rw [List.append_assoc]; exact .cons h1 (OwnA.app h2 s)
end
end Dg

set_option Elab.async false
set_option linter.all false
set_option maxRecDepth 100000
set_option maxHeartbeats 4000000
namespace Dg
open PySem PySem.Spec PyProof.Rows L2

/-! ### what a mirror gives -/
abbrev Cs := List (List D)
inductive R (α : Type) where
  | ok (a : α) (c : Cs) | err (x : Str) (c : Cs) | stuck
@[simp] def R.bind {α β : Type} (r : R α) (f : α → Cs → R β) : R β := match r with
  | .ok a c => f a c
  | .err x c => .err x c
  | .stuck => .stuck
theorem R.bind_ok {α β : Type} (a : α) (c : Cs) (f : α → Cs → R β) : (R.ok a c).bind f = f a c := rfl
theorem R.bind_err {α β : Type} (x : Str) (c : Cs) (f : α → Cs → R β) : (R.err x c : R α).bind f = .err x c := rfl
theorem R.bind_stuck {α β : Type} (f : α → Cs → R β) : (R.stuck : R α).bind f = .stuck := rfl
/-- an answer without effects, or none -/
@[simp] def R.of {α : Type} (o : Option α) (c : Cs) : R α := match o with
  | some a => .ok a c
  | none => .stuck
abbrev En := List (Option T)
abbrev ME := En → Cs → R D
abbrev MO := En → Cs → R T

/-! ### the state -/
inductive Sl (K : PySem.W.Frag) (ca : List Addr) (F H : Hp) : L2.St → En → List Addr → Prop
  | nil : Sl K ca F H [] [] []
  | no {o : Option V} {σ : L2.St} {e : En} {ws : List Addr} : Sl K ca F H σ e ws → Sl K ca F H (o :: σ) (none :: e) ws
  | so {x : V} {t : T} {σ : L2.St} {e : En} {as ws : List Addr} : Own K ca F H x t as → Sl K ca F H σ e ws → Sl K ca F H (some x :: σ) (some t :: e) (as ++ ws)
def Ce (K : PySem.W.Frag) (ca : List Addr) (F H : Hp) (cs : Cs) : Prop := ca.length = cs.length ∧
  ∀ (n : Nat) (a : Addr) (ds : List D), ca[n]? = some a → cs[n]? = some ds → F a = none ∧ ∃ xs, H a = some (.lst xs) ∧ DdA K ca F xs ds ∧ D.flatA ds = true
structure Stt (K : PySem.W.Frag) (ca : List Addr) (F H : Hp) (σ : L2.St) (e : En) (ws : List Addr) (cs : Cs) : Prop where
  same : Same F H
  sl : Sl K ca F H σ e ws
  nd : (ws ++ ca).Nodup
  ce : Ce K ca F H cs
structure Nxt (ca : List Addr) (F H F' H' : Hp) : Prop where
  f : Same F F'
  s : Same F' H'
  n : ∀ a, F' a ≠ none → F a ≠ none ∨ H a = none
  k : ∀ a o, a ∉ ca → H a = some o → H' a = some o
  th : ∀ a, H a ≠ none → H' a ≠ none
section
variable {K : PySem.W.Frag} {ca : List Addr} {F F' F'' H H' H'' : Hp} {σ : L2.St} {e : En} {ws : List Addr} {cs cs' : Cs}
theorem Nxt.refl (s : Same F H) : Nxt ca F H F H := ⟨Same.refl F, s, fun a h => .inl h, fun _ _ _ h => h, fun _ h => h⟩
theorem Nxt.trans (x : Nxt ca F H F' H') (y : Nxt ca F' H' F'' H'') : Nxt ca F H F'' H'' :=
  ⟨x.f.trans y.f, y.s, fun a h => by
    rcases y.n a h with z | z
    · exact x.n a z
    · refine .inr ?_
      cases q : H a with
      | none => rfl
      | some o => exact absurd z (x.th a (by rw [q]; simp)), fun a o h q => y.k a o h (x.k a o h q), fun a h => y.th a (x.th a h)⟩
/-- a new object, held for good -/
theorem Nxt.new {p : Addr} {o : HO} (s : Same F H) (hp : H p = none) : Nxt ca F H (upd F p o) (upd H p o) := by
  have hf : F p = none := s.free hp
  refine ⟨fun a u e => ?_, fun a u e => ?_, fun a h => ?_, fun a u _ e => ?_, fun a h => ?_⟩
  · rw [upd_ne (ne_of_none e hf)]; exact e
  · by_cases m : a = p
    · subst m; rw [upd_same] at e ⊢; exact e
    · rw [upd_ne m] at e ⊢; exact s a u e
  · by_cases m : a = p
    · exact .inr (by rw [m]; exact hp)
    · rw [upd_ne m] at h; exact .inl h
  · rw [upd_ne (ne_of_none e hp)]; exact e
  · by_cases m : a = p
    · rw [m] at h; exact absurd hp h
    · rw [upd_ne m]; exact h
/-- a new object, not held -/
theorem Nxt.own {p : Addr} {o : HO} (s : Same F H) (hp : H p = none) : Nxt ca F H F (upd H p o) := by
  refine ⟨Same.refl F, fun a u e => ?_, fun a h => .inl h, fun a u _ e => ?_, fun a h => ?_⟩
  · have q := s a u e
    rw [upd_ne (ne_of_none q hp)]; exact q
  · rw [upd_ne (ne_of_none e hp)]; exact e
  · by_cases m : a = p
    · rw [m] at h; exact absurd hp h
    · rw [upd_ne m]; exact h
/-- own lists are held for good from here on -/
theorem Nxt.hold {as : List Addr} (s : Same F H) (k : ∀ a ∈ as, F a = none) (z : Nxt ca F'' H'' F H) (fr : ∀ a ∈ as, H'' a = none) : Nxt ca F'' H'' (Bh F H as) H :=
  ⟨z.f.trans (Bh_same k), Bh_sub s, fun a h => by
    by_cases m : a ∈ as
    · exact .inr (fr a m)
    · rw [Bh_out m] at h; exact z.n a h, z.k, z.th⟩
theorem Sl.ok : ∀ {σ : L2.St} {e : En} {ws : List Addr}, Sl K ca F H σ e ws → ∀ a ∈ ws, F a = none ∧ ∃ xs, H a = some (.lst xs)
  | _, _, _, .nil => fun a m => by cases m
  | _, _, _, .no h => Sl.ok h
  | _, _, _, .so h1 h2 => fun a m => by
    rcases List.mem_append.mp m with m | m
    · exact Own.ok _ _ _ h1 a m
    · exact Sl.ok h2 a m
theorem Sl.fr (s : Same F F') : ∀ {σ : L2.St} {e : En} {ws : List Addr}, Sl K ca F H σ e ws → (∀ a ∈ ws, H' a = H a ∧ F' a = none) → Sl K ca F' H' σ e ws
  | _, _, _, .nil, _ => .nil
  | _, _, _, .no h, k => .no (Sl.fr s h k)
  | _, _, _, .so h1 h2, k => .so (Own.fr s _ _ _ (fun a m => k a (List.mem_append_left _ m)) h1) (Sl.fr s h2 fun a m => k a (List.mem_append_right _ m))
theorem Ce.there (c : Ce K ca F H cs) {a : Addr} (h : a ∈ ca) : F a = none ∧ ∃ xs, H a = some (.lst xs) := by
  obtain ⟨n, hn⟩ := List.mem_iff_getElem?.mp h
  have hl : n < ca.length := (List.getElem?_eq_some_iff.mp hn).1
  have hl2 : n < cs.length := by rw [← c.1]; exact hl
  obtain ⟨f, xs, h1, _⟩ := c.2 n a cs[n] hn (List.getElem?_eq_getElem hl2)
  exact ⟨f, xs, h1⟩
/-- what was owned stands behind a step -/
theorem Stt.keeps (st : Stt K ca F H σ e ws cs) (x : Nxt ca F H F' H') : ∀ a ∈ ws, H' a = H a ∧ F' a = none := fun a m => by
  obtain ⟨f, xs, h⟩ := Sl.ok st.sl a m
  have nc : a ∉ ca := fun z => (List.nodup_append.mp st.nd).2.2 a m a z rfl
  refine ⟨by rw [h]; exact x.k a _ nc h, ?_⟩
  cases q : F' a with
  | none => rfl
  | some o =>
    rcases x.n a (by rw [q]; simp) with z | z
    · exact absurd f z
    · rw [h] at z; cases z
theorem Stt.nxt (st : Stt K ca F H σ e ws cs) (x : Nxt ca F H F' H') (c : Ce K ca F' H' cs') : Stt K ca F' H' σ e ws cs' :=
  ⟨x.s, Sl.fr x.f st.sl (st.keeps x), st.nd, c⟩
theorem Stt.bsame (st : Stt K ca F H σ e ws cs) : Same F (Bh F H ws) := Bh_same fun a m => (Sl.ok st.sl a m).1
theorem Stt.bsub (st : Stt K ca F H σ e ws cs) : Same (Bh F H ws) H := Bh_sub st.same
theorem Stt.bmono (st : Stt K ca F H σ e ws cs) (x : Nxt ca F H F' H') : Same (Bh F H ws) (Bh F' H' ws) := Bh_mono x.f fun a m => (st.keeps x a m).1
theorem Ce.new {p : Addr} {o : HO} (c : Ce K ca F H cs) (s : Same F H) (hp : H p = none) : Ce K ca (upd F p o) (upd H p o) cs := ⟨c.1, fun n a ds h1 h2 => by
  obtain ⟨f, xs, h, d, fl⟩ := c.2 n a ds h1 h2
  have ne : a ≠ p := ne_of_none h hp
  exact ⟨by rw [upd_ne ne]; exact f, xs, by rw [upd_ne ne]; exact h, DdA.mono (Nxt.new (ca := ca) s hp).f _ _ d, fl⟩⟩
theorem Ce.own {p : Addr} {o : HO} (c : Ce K ca F H cs) (hp : H p = none) : Ce K ca F (upd H p o) cs := ⟨c.1, fun n a ds h1 h2 => by
  obtain ⟨f, xs, h, d, fl⟩ := c.2 n a ds h1 h2
  have ne : a ≠ p := ne_of_none h hp
  exact ⟨f, xs, by rw [upd_ne ne]; exact h, d, fl⟩⟩
theorem Ce.hold {as : List Addr} (c : Ce K ca F H cs) (k : ∀ a ∈ as, F a = none) (nc : ∀ a ∈ as, a ∉ ca) : Ce K ca (Bh F H as) H cs := ⟨c.1, fun n a ds h1 h2 => by
  obtain ⟨f, xs, h, d, fl⟩ := c.2 n a ds h1 h2
  have m : a ∉ as := fun z => nc a z (List.mem_of_getElem? h1)
  exact ⟨by rw [Bh_out m]; exact f, xs, h, DdA.mono (Bh_same k) _ _ d, fl⟩⟩
theorem Sl.get : ∀ {σ : L2.St} {e : En} {ws : List Addr} {i : Nat} {t : T}, Sl K ca F H σ e ws → e[i]? = some (some t) → ∃ x as, σ[i]? = some (some x) ∧ Own K ca F H x t as ∧ ∀ a ∈ as, a ∈ ws
  | _, _, _, _, _, .nil, h => by simp at h
  | _, _, _, 0, _, .no h, q => by simp at q
  | _, _, _, i + 1, t, .no h, q => by
    obtain ⟨x, as, h1, h2, h3⟩ := Sl.get (i := i) (t := t) h (by simpa using q)
    exact ⟨x, as, by simpa using h1, h2, h3⟩
  | _, _, _, 0, t, .so h1 h2, q => by
    simp at q; subst q
    exact ⟨_, _, rfl, h1, fun a m => List.mem_append_left _ m⟩
  | _, _, _, i + 1, t, .so h1 h2, q => by
    obtain ⟨x, as, g1, g2, g3⟩ := Sl.get (i := i) (t := t) h2 (by simpa using q)
    exact ⟨x, as, by simpa using g1, g2, fun a m => List.mem_append_right _ (g3 a m)⟩
end

/-! ### readings -/
/-- what is wished of a raise of the class called x -/
def Wn (mg : Str → Option Value) (W : WX) (x : Str) (σ : L2.St) (H : Hp) : Prop := ∀ C, mg x = some (.ref C) → W (.ref C) none σ H
section
variable (K : PySem.W.Frag) (mg : Str → Option Value) (W : WX)
def PoP (ca : List Addr) (F H : Hp) (ws : List Addr) (σ : L2.St) (Q : VK) : R D → Prop
  | .ok d cs' => ∀ F' H' v, Nxt ca F H F' H' → Ce K ca F' H' cs' → Dd K ca (Bh F' H' ws) v d → Q v H'
  | .err x cs' => ∀ F' H', Nxt ca F H F' H' → Ce K ca F' H' cs' → Wn mg W x σ H'
  | .stuck => False
def PoO (ca : List Addr) (F H : Hp) (σ : L2.St) (Q : VK) : R T → Prop
  | .ok t cs' => ∀ F' H' v as, Nxt ca F H F' H' → Ce K ca F' H' cs' → Own K ca F' H' v t as → as.Nodup → (∀ a ∈ as, H a = none) → Q v H'
  | .err x cs' => ∀ F' H', Nxt ca F H F' H' → Ce K ca F' H' cs' → Wn mg W x σ H'
  | .stuck => False
def PoPA (ca : List Addr) (F H : Hp) (ws : List Addr) (σ : L2.St) (Q : List V → Hp → Prop) : R (List D) → Prop
  | .ok ds cs' => ∀ F' H' vs, Nxt ca F H F' H' → Ce K ca F' H' cs' → DdA K ca (Bh F' H' ws) vs ds → Q vs H'
  | .err x cs' => ∀ F' H', Nxt ca F H F' H' → Ce K ca F' H' cs' → Wn mg W x σ H'
  | .stuck => False
def PoOA (ca : List Addr) (F H : Hp) (σ : L2.St) (Q : List V → Hp → Prop) : R (List T) → Prop
  | .ok ts cs' => ∀ F' H' vs as, Nxt ca F H F' H' → Ce K ca F' H' cs' → OwnA K ca F' H' vs ts as → as.Nodup → (∀ a ∈ as, H a = none) → Q vs H'
  | .err x cs' => ∀ F' H', Nxt ca F H F' H' → Ce K ca F' H' cs' → Wn mg W x σ H'
  | .stuck => False
def PoT (ca : List Addr) (F H : Hp) (σ : L2.St) (Q : Bool → Hp → Prop) : R Bool → Prop
  | .ok b cs' => ∀ F' H', Nxt ca F H F' H' → Ce K ca F' H' cs' → Q b H'
  | .err x cs' => ∀ F' H', Nxt ca F H F' H' → Ce K ca F' H' cs' → Wn mg W x σ H'
  | .stuck => False
def rdP (f : ME) : TE := fun σ H Q => ∃ ca F e ws cs, Stt K ca F H σ e ws cs ∧ PoP K mg W ca F H ws σ Q (f e cs)
def rdO (f : MO) : TE := fun σ H Q => ∃ ca F e ws cs, Stt K ca F H σ e ws cs ∧ PoO K mg W ca F H σ Q (f e cs)
def rdPA (f : En → Cs → R (List D)) : TA := fun σ H Q => ∃ ca F e ws cs, Stt K ca F H σ e ws cs ∧ PoPA K mg W ca F H ws σ Q (f e cs)
def rdOA (f : En → Cs → R (List T)) : TA := fun σ H Q => ∃ ca F e ws cs, Stt K ca F H σ e ws cs ∧ PoOA K mg W ca F H σ Q (f e cs)
def rdT (f : En → Cs → R Bool) : TT := fun σ H Q => ∃ ca F e ws cs, Stt K ca F H σ e ws cs ∧ PoT K mg W ca F H σ Q (f e cs)
end
theorem _root_.L2.PE.imp {X : Cx} {e : Expr} {t t' : TE} (h : PE X e t) (k : ∀ σ H Q, t' σ H Q → t σ H Q) : PE X e t' := ⟨fun pins s σ H Q I q => h.run pins s σ H Q I (k σ H Q q)⟩
theorem _root_.L2.PA.imp {X : Cx} {e : List Expr} {t t' : TA} (h : PA X e t) (k : ∀ σ H Q, t' σ H Q → t σ H Q) : PA X e t' := ⟨fun pos pins s σ H Q I q => h.run pos pins s σ H Q I (k σ H Q q)⟩
theorem _root_.L2.PT.imp {X : Cx} {e : Expr} {t t' : TT} (h : PT X e t) (k : ∀ σ H Q, t' σ H Q → t σ H Q) : PT X e t' := ⟨fun pins s σ H Q I q => h.run pins s σ H Q I (k σ H Q q)⟩
theorem _root_.L2.PW.imp {X : Cx} {e : Expr} {t t' : TT} (h : PW X e t) (k : ∀ σ H Q, t' σ H Q → t σ H Q) : PW X e t' := ⟨fun wh pins s σ H Q I q => h.run wh pins s σ H Q I (k σ H Q q)⟩
theorem _root_.L2.PS.imp {X : Cx} {e : Stmt} {t t' : TS} (h : PS X e t) (k : ∀ D σ H, t' D σ H → t D σ H) : PS X e t' := ⟨fun pins s σ H D I q => h.run pins s σ H D I (k D σ H q)⟩
theorem _root_.L2.PSs.imp {X : Cx} {e : List Stmt} {t t' : TS} (h : PSs X e t) (k : ∀ D σ H, t' D σ H → t D σ H) : PSs X e t' := ⟨fun pins s σ H D I q => h.run pins s σ H D I (k D σ H q)⟩
section
variable {K : PySem.W.Frag} {mg : Str → Option Value} {W : WX} {ca : List Addr} {F F' H H' : Hp} {σ : L2.St} {e : En} {ws : List Addr} {cs cs' : Cs}
/-- the same further on -/
theorem PoP.step {Q : VK} {r : R D} (h : PoP K mg W ca F H ws σ Q r) (x : Nxt ca F H F' H') : PoP K mg W ca F' H' ws σ Q r := by
  cases r with
  | ok d c => exact fun F2 H2 v y => h F2 H2 v (x.trans y)
  | err z c => exact fun F2 H2 y => h F2 H2 (x.trans y)
  | stuck => exact h
theorem PoPA.step {Q : List V → Hp → Prop} {r : R (List D)} (h : PoPA K mg W ca F H ws σ Q r) (x : Nxt ca F H F' H') : PoPA K mg W ca F' H' ws σ Q r := by
  cases r with
  | ok d c => exact fun F2 H2 v y => h F2 H2 v (x.trans y)
  | err z c => exact fun F2 H2 y => h F2 H2 (x.trans y)
  | stuck => exact h
theorem PoT.step {Q : Bool → Hp → Prop} {r : R Bool} (h : PoT K mg W ca F H σ Q r) (x : Nxt ca F H F' H') : PoT K mg W ca F' H' σ Q r := by
  cases r with
  | ok d c => exact fun F2 H2 y => h F2 H2 (x.trans y)
  | err z c => exact fun F2 H2 y => h F2 H2 (x.trans y)
  | stuck => exact h
theorem nfree (x : Nxt ca F H F' H') {as : List Addr} (h : ∀ a ∈ as, H' a = none) : ∀ a ∈ as, H a = none := fun a m => by
  cases q : H a with
  | none => rfl
  | some o => exact absurd (h a m) (x.th a (by rw [q]; simp))
theorem PoO.step {Q : VK} {r : R T} (h : PoO K mg W ca F H σ Q r) (x : Nxt ca F H F' H') : PoO K mg W ca F' H' σ Q r := by
  cases r with
  | ok d c => exact fun F2 H2 v as y c o n f => h F2 H2 v as (x.trans y) c o n (nfree x f)
  | err z c => exact fun F2 H2 y => h F2 H2 (x.trans y)
  | stuck => exact h
theorem PoOA.step {Q : List V → Hp → Prop} {r : R (List T)} (h : PoOA K mg W ca F H σ Q r) (x : Nxt ca F H F' H') : PoOA K mg W ca F' H' σ Q r := by
  cases r with
  | ok d c => exact fun F2 H2 v as y c o n f => h F2 H2 v as (x.trans y) c o n (nfree x f)
  | err z c => exact fun F2 H2 y => h F2 H2 (x.trans y)
  | stuck => exact h
/-- a pure part, then more: the end of any kind P (shifted by steps, taking raises) -/
structure Kind (K : PySem.W.Frag) (mg : Str → Option Value) (W : WX) (ca : List Addr) (ws : List Addr) (σ : L2.St) {β : Type} (Po : Hp → Hp → R β → Prop) : Prop where
  step : ∀ {F H F' H' r}, Po F H r → Nxt ca F H F' H' → Po F' H' r
  err : ∀ {F H x c}, Po F H (.err x c) → ∀ F' H', Nxt ca F H F' H' → Ce K ca F' H' c → Wn mg W x σ H'
  stuck : ∀ {F H}, Po F H .stuck → False
theorem kindP {Q : VK} : Kind K mg W ca ws σ (fun F H r => PoP K mg W ca F H ws σ Q r) := ⟨fun h x => h.step x, fun h => h, fun h => h⟩
theorem kindO {Q : VK} : Kind K mg W ca ws σ (fun F H r => PoO K mg W ca F H σ Q r) := ⟨fun h x => h.step x, fun h => h, fun h => h⟩
theorem kindPA {Q : List V → Hp → Prop} : Kind K mg W ca ws σ (fun F H r => PoPA K mg W ca F H ws σ Q r) := ⟨fun h x => h.step x, fun h => h, fun h => h⟩
theorem kindOA {Q : List V → Hp → Prop} : Kind K mg W ca ws σ (fun F H r => PoOA K mg W ca F H σ Q r) := ⟨fun h x => h.step x, fun h => h, fun h => h⟩
theorem kindT {Q : Bool → Hp → Prop} : Kind K mg W ca ws σ (fun F H r => PoT K mg W ca F H σ Q r) := ⟨fun h x => h.step x, fun h => h, fun h => h⟩
theorem rdP_bind {β : Type} {Po : Hp → Hp → R β → Prop} (kd : Kind K mg W ca ws σ Po) {f : ME} {k : D → Cs → R β} {G : VK} (st : Stt K ca F H σ e ws cs) (po : Po F H ((f e cs).bind k))
    (h : ∀ x c1 F1 H1 v, f e cs = .ok x c1 → Nxt ca F H F1 H1 → Stt K ca F1 H1 σ e ws c1 → Dd K ca (Bh F1 H1 ws) v x → Po F1 H1 (k x c1) → G v H1) : rdP K mg W f σ H G := by
  refine ⟨ca, F, e, ws, cs, st, ?_⟩
  cases q : f e cs with
  | ok x c1 =>
    rw [q] at po
    exact fun F1 H1 v nx ce dd => h x c1 F1 H1 v q nx (st.nxt nx ce) dd (kd.step po nx)
  | err x c1 =>
    rw [q] at po
    exact fun F1 H1 nx ce => kd.err po F1 H1 nx ce
  | stuck =>
    rw [q] at po
    exact kd.stuck po
theorem rdT_bind {β : Type} {Po : Hp → Hp → R β → Prop} (kd : Kind K mg W ca ws σ Po) {f : En → Cs → R Bool} {k : Bool → Cs → R β} {G : Bool → Hp → Prop} (st : Stt K ca F H σ e ws cs) (po : Po F H ((f e cs).bind k))
    (h : ∀ x c1 F1 H1, f e cs = .ok x c1 → Nxt ca F H F1 H1 → Stt K ca F1 H1 σ e ws c1 → Po F1 H1 (k x c1) → G x H1) : rdT K mg W f σ H G := by
  refine ⟨ca, F, e, ws, cs, st, ?_⟩
  cases q : f e cs with
  | ok x c1 =>
    rw [q] at po
    exact fun F1 H1 nx ce => h x c1 F1 H1 q nx (st.nxt nx ce) (kd.step po nx)
  | err x c1 =>
    rw [q] at po
    exact fun F1 H1 nx ce => kd.err po F1 H1 nx ce
  | stuck =>
    rw [q] at po
    exact kd.stuck po
theorem rdPA_bind {β : Type} {Po : Hp → Hp → R β → Prop} (kd : Kind K mg W ca ws σ Po) {f : En → Cs → R (List D)} {k : List D → Cs → R β} {G : List V → Hp → Prop} (st : Stt K ca F H σ e ws cs) (po : Po F H ((f e cs).bind k))
    (h : ∀ x c1 F1 H1 v, f e cs = .ok x c1 → Nxt ca F H F1 H1 → Stt K ca F1 H1 σ e ws c1 → DdA K ca (Bh F1 H1 ws) v x → Po F1 H1 (k x c1) → G v H1) : rdPA K mg W f σ H G := by
  refine ⟨ca, F, e, ws, cs, st, ?_⟩
  cases q : f e cs with
  | ok x c1 =>
    rw [q] at po
    exact fun F1 H1 v nx ce dd => h x c1 F1 H1 v q nx (st.nxt nx ce) dd (kd.step po nx)
  | err x c1 =>
    rw [q] at po
    exact fun F1 H1 nx ce => kd.err po F1 H1 nx ce
  | stuck =>
    rw [q] at po
    exact kd.stuck po
/-! the same with the end wanted from an elder base on (for what is owned) -/
theorem rdP_from {β : Type} {Po : Hp → Hp → R β → Prop} {F0 H0 : Hp} (kd : Kind K mg W ca ws σ Po) {f : ME} {k : D → Cs → R β} {G : VK} (nx0 : Nxt ca F0 H0 F H) (st : Stt K ca F H σ e ws cs) (po : Po F0 H0 ((f e cs).bind k))
    (h : ∀ x c1 F1 H1 v, f e cs = .ok x c1 → Nxt ca F H F1 H1 → Nxt ca F0 H0 F1 H1 → Stt K ca F1 H1 σ e ws c1 → Dd K ca (Bh F1 H1 ws) v x → Po F0 H0 (k x c1) → G v H1) : rdP K mg W f σ H G := by
  refine ⟨ca, F, e, ws, cs, st, ?_⟩
  cases q : f e cs with
  | ok x c1 =>
    rw [q] at po
    exact fun F1 H1 v nx ce dd => h x c1 F1 H1 v q nx (nx0.trans nx) (st.nxt nx ce) dd po
  | err x c1 =>
    rw [q] at po
    exact fun F1 H1 nx ce => kd.err po F1 H1 (nx0.trans nx) ce
  | stuck =>
    rw [q] at po
    exact kd.stuck po
theorem rdPA_from {β : Type} {Po : Hp → Hp → R β → Prop} {F0 H0 : Hp} (kd : Kind K mg W ca ws σ Po) {f : En → Cs → R (List D)} {k : List D → Cs → R β} {G : List V → Hp → Prop} (nx0 : Nxt ca F0 H0 F H) (st : Stt K ca F H σ e ws cs) (po : Po F0 H0 ((f e cs).bind k))
    (h : ∀ x c1 F1 H1 v, f e cs = .ok x c1 → Nxt ca F H F1 H1 → Nxt ca F0 H0 F1 H1 → Stt K ca F1 H1 σ e ws c1 → DdA K ca (Bh F1 H1 ws) v x → Po F0 H0 (k x c1) → G v H1) : rdPA K mg W f σ H G := by
  refine ⟨ca, F, e, ws, cs, st, ?_⟩
  cases q : f e cs with
  | ok x c1 =>
    rw [q] at po
    exact fun F1 H1 v nx ce dd => h x c1 F1 H1 v q nx (nx0.trans nx) (st.nxt nx ce) dd po
  | err x c1 =>
    rw [q] at po
    exact fun F1 H1 nx ce => kd.err po F1 H1 (nx0.trans nx) ce
  | stuck =>
    rw [q] at po
    exact kd.stuck po
theorem rdO_from {β : Type} {Po : Hp → Hp → R β → Prop} {F0 H0 : Hp} (kd : Kind K mg W ca ws σ Po) {f : MO} {k : T → Cs → R β} {G : VK} (nx0 : Nxt ca F0 H0 F H) (st : Stt K ca F H σ e ws cs) (po : Po F0 H0 ((f e cs).bind k))
    (h : ∀ x c1 F1 H1 v as, f e cs = .ok x c1 → Nxt ca F H F1 H1 → Nxt ca F0 H0 F1 H1 → Stt K ca F1 H1 σ e ws c1 → Own K ca F1 H1 v x as → as.Nodup → (∀ a ∈ as, H a = none) → Po F0 H0 (k x c1) → G v H1) : rdO K mg W f σ H G := by
  refine ⟨ca, F, e, ws, cs, st, ?_⟩
  cases q : f e cs with
  | ok x c1 =>
    rw [q] at po
    exact fun F1 H1 v as nx ce dd n fr => h x c1 F1 H1 v as q nx (nx0.trans nx) (st.nxt nx ce) dd n fr po
  | err x c1 =>
    rw [q] at po
    exact fun F1 H1 nx ce => kd.err po F1 H1 (nx0.trans nx) ce
  | stuck =>
    rw [q] at po
    exact kd.stuck po
theorem rdOA_from {β : Type} {Po : Hp → Hp → R β → Prop} {F0 H0 : Hp} (kd : Kind K mg W ca ws σ Po) {f : En → Cs → R (List T)} {k : List T → Cs → R β} {G : List V → Hp → Prop} (nx0 : Nxt ca F0 H0 F H) (st : Stt K ca F H σ e ws cs) (po : Po F0 H0 ((f e cs).bind k))
    (h : ∀ x c1 F1 H1 v as, f e cs = .ok x c1 → Nxt ca F H F1 H1 → Nxt ca F0 H0 F1 H1 → Stt K ca F1 H1 σ e ws c1 → OwnA K ca F1 H1 v x as → as.Nodup → (∀ a ∈ as, H a = none) → Po F0 H0 (k x c1) → G v H1) : rdOA K mg W f σ H G := by
  refine ⟨ca, F, e, ws, cs, st, ?_⟩
  cases q : f e cs with
  | ok x c1 =>
    rw [q] at po
    exact fun F1 H1 v as nx ce dd n fr => h x c1 F1 H1 v as q nx (nx0.trans nx) (st.nxt nx ce) dd n fr po
  | err x c1 =>
    rw [q] at po
    exact fun F1 H1 nx ce => kd.err po F1 H1 (nx0.trans nx) ce
  | stuck =>
    rw [q] at po
    exact kd.stuck po
/-! ends -/
theorem PoP.ret {Q : VK} {d : D} {c : Cs} {v : V} (st : Stt K ca F H σ e ws c) (po : PoP K mg W ca F H ws σ Q (.ok d c)) (h : Dd K ca (Bh F H ws) v d) : Q v H :=
  po F H v (Nxt.refl st.same) st.ce h
theorem PoP.new {Q : VK} {d : D} {c : Cs} {p : Addr} {o : HO} (st : Stt K ca F H σ e ws c) (po : PoP K mg W ca F H ws σ Q (.ok d c)) (hp : H p = none) (h : Dd K ca (Bh (upd F p o) (upd H p o) ws) (.ref p) d) : Q (.ref p) (upd H p o) :=
  po _ _ _ (Nxt.new st.same hp) (st.ce.new st.same hp) h
theorem PoT.ret {Q : Bool → Hp → Prop} {b : Bool} {c : Cs} (st : Stt K ca F H σ e ws c) (po : PoT K mg W ca F H σ Q (.ok b c)) : Q b H := po F H (Nxt.refl st.same) st.ce
theorem PoP.of {Q : VK} {o : Option D} {c : Cs} (po : PoP K mg W ca F H ws σ Q (R.of o c)) : ∃ d, o = some d ∧ PoP K mg W ca F H ws σ Q (.ok d c) := by
  cases o with
  | none => exact po.elim
  | some d => exact ⟨d, rfl, po⟩
end
end Dg

set_option Elab.async false
set_option linter.all false
set_option maxRecDepth 100000
set_option maxHeartbeats 4000000
namespace Dg
open PySem PySem.Spec PyProof.Rows L2

/-- lists, texts have fewer things than this -/
abbrev LIM : Nat := 1000000
theorem lim_line {n : Nat} (h : n < LIM) : n ≤ sizeLine := by have h' : n < 1000000 := h; rw [sizeLine_eq]; omega
theorem lim_line' {n : Nat} (h : n < LIM) : n < sizeLine := by have h' : n < 1000000 := h; rw [sizeLine_eq]; omega
/-- a whole number of at most six figures; the kernel is not to look into it -/
def inR (k : Int) : Prop := k < 1000000 ∧ -1000000 < k
noncomputable instance instInR (k : Int) : Decidable (inR k) := Classical.propDecidable _
theorem inR_of {k : Int} (h : k < 1000000) (h2 : -1000000 < k) : inR k := ⟨h, h2⟩
/-- the number is small enough for the model's * and // -/
def bigI (i : Int) : Bool := decide (i.natAbs < 2 ^ 8000)
theorem bigI_log {i : Int} (h : bigI i = true) : i.natAbs.log2 < 8000 := by
  have := of_decide_eq_true h
  exact PySem.Flt.log2_lt_of (by decide) this

section
variable {K : PySem.W.Frag} {mg : Str → Option Value} {W : WX} {ca : List Addr} {F F' H H' : Hp} {σ : L2.St} {e : En} {ws : List Addr} {cs cs' : Cs}

/-! ### names, constants -/
@[simp] def mVar (i : Nat) (e : En) (c : Cs) : R D := match e[i]? with
  | some (some t) => .ok t.d c
  | _ => .stuck
@[simp] def mC (d : D) (_ : En) (c : Cs) : R D := .ok d c
theorem rd_var {i : Nat} {Q : VK} (h : rdP K mg W (mVar i) σ H Q) : tVar i σ H Q := by
  obtain ⟨ca, F, e, ws, cs, st, po⟩ := h
  unfold mVar at po
  cases q : e[i]? with
  | none => rw [q] at po; exact po.elim
  | some o =>
    cases o with
    | none => rw [q] at po; exact po.elim
    | some t =>
      rw [q] at po
      obtain ⟨x, as, h1, h2, h3⟩ := Sl.get st.sl q
      exact ⟨x, h1, PoP.ret st po (Own.dd (fun a m => (Sl.ok st.sl a m).1) t x as h3 h2)⟩
theorem dp_var {X : Cx} {W : WX} (i : Nat) {x : Str} {pos : Pos} (h : PE X (.Name x pos) (tVar i)) : PE X (.Name x pos) (rdP X.K X.mg W (mVar i)) := h.imp fun _ _ _ q => rd_var q
theorem rd_c {v : V} {d : D} {Q : VK} (hd : ∀ K ca F, Dd K ca F v d) (h : rdP K mg W (mC d) σ H Q) : tC v σ H Q := by
  obtain ⟨ca, F, e, ws, cs, st, po⟩ := h
  exact PoP.ret st po (hd _ _ _)
theorem dp_int {X : Cx} {W : WX} {i : Int} {j : Nat} {pos : Pos} : PE X (.Constant (.int i) j pos) (rdP X.K X.mg W (mC (.int i))) := pe_int.imp fun _ _ _ q => rd_c (fun _ _ _ => .int i) q
theorem dp_bl {X : Cx} {W : WX} {b : Bool} {j : Nat} {pos : Pos} : PE X (.Constant (.bool b) j pos) (rdP X.K X.mg W (mC (.bl b))) := pe_bl.imp fun _ _ _ q => rd_c (fun _ _ _ => .bl b) q
theorem dp_non {X : Cx} {W : WX} {j : Nat} {pos : Pos} : PE X (.Constant .none j pos) (rdP X.K X.mg W (mC .non)) := pe_non.imp fun _ _ _ q => rd_c (fun _ _ _ => .non) q
theorem dp_str {X : Cx} {W : WX} {x : Str} {j : Nat} {pos : Pos} : PE X (.Constant (.str x) j pos) (rdP X.K X.mg W (mC (.str x))) := pe_str.imp fun _ _ _ q => rd_c (fun _ _ _ => .str x) q
/-- a module's constant int -/
theorem dp_globI {X : Cx} {W : WX} {x : Str} {i : Int} {t : Tok} {pos : Pos} (hg : Gl X x) (hm : X.mg x = some (.int i t)) (hd : (x == ("__debug__" : Str)) = false := by decide) : PE X (.Name x pos) (rdP X.K X.mg W (mC (.int i))) :=
  (pe_glob (v := .int i) hg hm ⟨t, rfl⟩ hd).imp fun _ _ _ q => rd_c (fun _ _ _ => .int i) q
theorem dp_globS {X : Cx} {W : WX} {x : Str} {i : Str} {t : Tok} {pos : Pos} (hg : Gl X x) (hm : X.mg x = some (.str i t)) (hd : (x == ("__debug__" : Str)) = false := by decide) : PE X (.Name x pos) (rdP X.K X.mg W (mC (.str i))) :=
  (pe_glob (v := .str i) hg hm ⟨t, rfl⟩ hd).imp fun _ _ _ q => rd_c (fun _ _ _ => .str i) q

/-! ### two-place operations -/
@[simp] def op2 (o : Cs → D → D → Option D) (f g : ME) (e : En) (c : Cs) : R D := (f e c).bind fun x c => (g e c).bind fun y c => R.of (o c x y) c
def Sem2 (K : PySem.W.Frag) (r : R2) (o : Cs → D → D → Option D) : Prop :=
  ∀ {mg : Str → Option Value} {W : WX} {ca : List Addr} {F H : Hp} {σ : L2.St} {e : En} {ws : List Addr} {c : Cs} {x y : D} {v u : V} {d : D} {Q : VK},
    Stt K ca F H σ e ws c → Dd K ca (Bh F H ws) v x → Dd K ca (Bh F H ws) u y → o c x y = some d → PoP K mg W ca F H ws σ Q (.ok d c) → r v u H Q
theorem rd_op2 {r : R2} {o : Cs → D → D → Option D} (hs : Sem2 K r o) {f g : ME} {Q : VK} (h : rdP K mg W (op2 o f g) σ H Q) : tOp r (rdP K mg W f) (rdP K mg W g) σ H Q := by
  obtain ⟨ca, F, e, ws, cs, st, po⟩ := h
  refine rdP_bind kindP st po fun x c1 F1 H1 v _ nx st1 dx po1 => ?_
  refine rdP_bind kindP st1 po1 fun y c2 F2 H2 u _ nx2 st2 dy po2 => ?_
  obtain ⟨d, hd, po3⟩ := po2.of
  exact hs st2 (Dd.mono (st1.bmono nx2) _ _ dx) dy hd po3
theorem dp_op {X : Cx} {W : WX} {op : Operator} {r : R2} {o : Cs → D → D → Option D} {f g : ME} {a b : Expr} {pos : Pos} (ho : OpR X (binaryOp op) r) (hs : Sem2 X.K r o) (ha : PE X a (rdP X.K X.mg W f)) (hb : PE X b (rdP X.K X.mg W g)) :
    PE X (.BinOp a op b pos) (rdP X.K X.mg W (op2 o f g)) := (pe_op ho ha hb).imp fun _ _ _ q => rd_op2 hs q
theorem dp_cmp {X : Cx} {W : WX} {op : CmpOp} {r : R2} {o : Cs → D → D → Option D} {f g : ME} {a b : Expr} {pos : Pos} (ho : OpR X (compareOp op) r) (hs : Sem2 X.K r o) (ha : PE X a (rdP X.K X.mg W f)) (hb : PE X b (rdP X.K X.mg W g)) (hm : behindInMarks op b = false) :
    PE X (.Compare a [op] [b] pos) (rdP X.K X.mg W (op2 o f g)) := (pe_cmpR ho ha hb hm).imp fun _ _ _ q => rd_op2 hs q
theorem dp_ix {X : Cx} {W : WX} {r : R2} {o : Cs → D → D → Option D} {f g : ME} {a b : Expr} {pos : Pos} (ho : IxR X r) (hs : Sem2 X.K r o) (ha : PE X a (rdP X.K X.mg W f)) (hb : PE X b (rdP X.K X.mg W g)) (hp : PlainIx b) :
    PE X (.Subscript a b pos) (rdP X.K X.mg W (op2 o f g)) := (pe_ix ho ha hb hp).imp fun _ _ _ q => rd_op2 hs q
/-- a test from a value -/
@[simp] def toT (f : ME) (e : En) (c : Cs) : R Bool := (f e c).bind fun x c => match x with
  | .bl b => .ok b c
  | _ => .stuck
theorem rd_toT {f : ME} {Q : Bool → Hp → Prop} (h : rdT K mg W (toT f) σ H Q) : rdP K mg W f σ H fun x H' => ∃ k, x = .bl k ∧ Q k H' := by
  obtain ⟨ca, F, e, ws, cs, st, po⟩ := h
  refine rdP_bind kindT st po fun x c1 F1 H1 v _ nx st1 dx po1 => ?_
  cases x with
  | bl b => cases dx; exact ⟨b, rfl, PoT.ret st1 po1⟩
  | _ => exact po1.elim
theorem dt_val {X : Cx} {W : WX} {f : ME} {a : Expr} (h : PE X a (rdP X.K X.mg W f)) (he : ∀ whole, isTrue a X.env whole = (do let v ← whole; standAt a.pos; holding [v] (truthy v)) := by intro _; rfl) : PT X a (rdT X.K X.mg W (toT f)) :=
  (pt_val h he).imp fun _ _ _ q => rd_toT q
theorem dt_cmp {X : Cx} {W : WX} {op : CmpOp} {r : R2} {o : Cs → D → D → Option D} {f g : ME} {a b : Expr} {pos : Pos} (ho : OpR X (compareOp op) r) (hs : Sem2 X.K r o) (ha : PE X a (rdP X.K X.mg W f)) (hb : PE X b (rdP X.K X.mg W g)) (hm : behindInMarks op b = false) :
    PT X (.Compare a [op] [b] pos) (rdT X.K X.mg W (toT (op2 o f g))) := (pt_cmpR ho ha hb hm).imp fun _ _ _ q => rd_op2 hs (rd_toT q)
/-! ### and, or, not -/
@[simp] def andT (f g : En → Cs → R Bool) (e : En) (c : Cs) : R Bool := (f e c).bind fun b c => if b = true then g e c else .ok false c
@[simp] def orT (f g : En → Cs → R Bool) (e : En) (c : Cs) : R Bool := (f e c).bind fun b c => if b = true then .ok true c else g e c
@[simp] def notT (f : En → Cs → R Bool) (e : En) (c : Cs) : R Bool := (f e c).bind fun b c => .ok (!b) c
theorem rd_andT {f g : En → Cs → R Bool} {Q : Bool → Hp → Prop} (h : rdT K mg W (andT f g) σ H Q) : tAnd (rdT K mg W f) (rdT K mg W g) σ H Q := by
  obtain ⟨ca, F, e, ws, cs, st, po⟩ := h
  refine rdT_bind kindT st po fun b c1 F1 H1 _ nx st1 po1 => ?_
  cases b with
  | true => exact ⟨ca, F1, e, ws, c1, st1, po1⟩
  | false => exact PoT.ret st1 po1
theorem rd_orT {f g : En → Cs → R Bool} {Q : Bool → Hp → Prop} (h : rdT K mg W (orT f g) σ H Q) : tOr (rdT K mg W f) (rdT K mg W g) σ H Q := by
  obtain ⟨ca, F, e, ws, cs, st, po⟩ := h
  refine rdT_bind kindT st po fun b c1 F1 H1 _ nx st1 po1 => ?_
  cases b with
  | true => exact PoT.ret st1 po1
  | false => exact ⟨ca, F1, e, ws, c1, st1, po1⟩
theorem rd_notT {f : En → Cs → R Bool} {Q : Bool → Hp → Prop} (h : rdT K mg W (notT f) σ H Q) : tNot (rdT K mg W f) σ H Q := by
  obtain ⟨ca, F, e, ws, cs, st, po⟩ := h
  exact rdT_bind kindT st po fun b c1 F1 H1 _ nx st1 po1 => PoT.ret st1 po1
theorem dt_not {X : Cx} {W : WX} {f : En → Cs → R Bool} {a : Expr} {pos : Pos} (h : PT X a (rdT X.K X.mg W f)) : PT X (.UnaryOp .Not a pos) (rdT X.K X.mg W (notT f)) := (pt_not h).imp fun _ _ _ q => rd_notT q
theorem dw_and1 {X : Cx} {W : WX} {f : En → Cs → R Bool} {a : Expr} {pos : Pos} (h : PT X a (rdT X.K X.mg W f)) : PW X (.BoolOp .And [a] pos) (rdT X.K X.mg W f) := pw_and1 h
theorem dw_or1 {X : Cx} {W : WX} {f : En → Cs → R Bool} {a : Expr} {pos : Pos} (h : PT X a (rdT X.K X.mg W f)) : PW X (.BoolOp .Or [a] pos) (rdT X.K X.mg W f) := pw_or1 h
theorem dw_and {X : Cx} {W : WX} {f g : En → Cs → R Bool} {a b : Expr} {rest : List Expr} {pos : Pos} (h : PT X a (rdT X.K X.mg W f)) (h2 : PW X (.BoolOp .And (b :: rest) pos) (rdT X.K X.mg W g)) : PW X (.BoolOp .And (a :: b :: rest) pos) (rdT X.K X.mg W (andT f g)) :=
  (pw_and h h2).imp fun _ _ _ q => rd_andT q
theorem dw_or {X : Cx} {W : WX} {f g : En → Cs → R Bool} {a b : Expr} {rest : List Expr} {pos : Pos} (h : PT X a (rdT X.K X.mg W f)) (h2 : PW X (.BoolOp .Or (b :: rest) pos) (rdT X.K X.mg W g)) : PW X (.BoolOp .Or (a :: b :: rest) pos) (rdT X.K X.mg W (orT f g)) :=
  (pw_or h h2).imp fun _ _ _ q => rd_orT q
/-- as values -/
@[simp] def andP (f g : ME) (e : En) (c : Cs) : R D := (f e c).bind fun x c => match x with
  | .bl b => if b = true then g e c else .ok (.bl false) c
  | _ => .stuck
@[simp] def orP (f g : ME) (e : En) (c : Cs) : R D := (f e c).bind fun x c => match x with
  | .bl b => if b = true then .ok (.bl true) c else g e c
  | _ => .stuck
@[simp] def notP (f : ME) (e : En) (c : Cs) : R D := (f e c).bind fun x c => match x with
  | .bl b => .ok (.bl (!b)) c
  | _ => .stuck
theorem rd_andP {f g : ME} {Q : VK} (h : rdP K mg W (andP f g) σ H Q) : tAndV (rdP K mg W f) (rdP K mg W g) σ H Q := by
  obtain ⟨ca, F, e, ws, cs, st, po⟩ := h
  refine rdP_bind kindP st po fun x c1 F1 H1 v _ nx st1 dx po1 => ?_
  cases x with
  | bl b =>
    cases dx
    refine ⟨b, rfl, ?_⟩
    cases b with
    | true => exact ⟨ca, F1, e, ws, c1, st1, po1⟩
    | false => exact PoP.ret st1 po1 (.bl false)
  | _ => exact po1.elim
theorem rd_orP {f g : ME} {Q : VK} (h : rdP K mg W (orP f g) σ H Q) : tOrV (rdP K mg W f) (rdP K mg W g) σ H Q := by
  obtain ⟨ca, F, e, ws, cs, st, po⟩ := h
  refine rdP_bind kindP st po fun x c1 F1 H1 v _ nx st1 dx po1 => ?_
  cases x with
  | bl b =>
    cases dx
    refine ⟨b, rfl, ?_⟩
    cases b with
    | true => exact PoP.ret st1 po1 (.bl true)
    | false => exact ⟨ca, F1, e, ws, c1, st1, po1⟩
  | _ => exact po1.elim
theorem rd_notP {f : ME} {Q : VK} (h : rdP K mg W (notP f) σ H Q) : tNotV (rdP K mg W f) σ H Q := by
  obtain ⟨ca, F, e, ws, cs, st, po⟩ := h
  refine rdP_bind kindP st po fun x c1 F1 H1 v _ nx st1 dx po1 => ?_
  cases x with
  | bl b => cases dx; exact ⟨b, rfl, PoP.ret st1 po1 (.bl _)⟩
  | _ => exact po1.elim
theorem dp_one {X : Cx} {W : WX} {f : ME} {a : Expr} {op : BoolOp} {pos : Pos} (h : PE X a (rdP X.K X.mg W f)) : PE X (.BoolOp op [a] pos) (rdP X.K X.mg W f) := pe_one h
theorem dp_and {X : Cx} {W : WX} {f g : ME} {a b : Expr} {rest : List Expr} {pos : Pos} (h : PE X a (rdP X.K X.mg W f)) (h2 : PE X (.BoolOp .And (b :: rest) pos) (rdP X.K X.mg W g)) : PE X (.BoolOp .And (a :: b :: rest) pos) (rdP X.K X.mg W (andP f g)) :=
  (pe_and h h2).imp fun _ _ _ q => rd_andP q
theorem dp_or {X : Cx} {W : WX} {f g : ME} {a b : Expr} {rest : List Expr} {pos : Pos} (h : PE X a (rdP X.K X.mg W f)) (h2 : PE X (.BoolOp .Or (b :: rest) pos) (rdP X.K X.mg W g)) : PE X (.BoolOp .Or (a :: b :: rest) pos) (rdP X.K X.mg W (orP f g)) :=
  (pe_or h h2).imp fun _ _ _ q => rd_orP q
theorem dp_not {X : Cx} {W : WX} {f : ME} {a : Expr} {pos : Pos} (h : PE X a (rdP X.K X.mg W f)) : PE X (.UnaryOp .Not a pos) (rdP X.K X.mg W (notP f)) := (pe_not h).imp fun _ _ _ q => rd_notP q
/-- a op b op' c -/
@[simp] def chain (o o' : Cs → D → D → Option D) (f g h : ME) (e : En) (c : Cs) : R D := (f e c).bind fun x c => (g e c).bind fun y c => match o c x y with
  | some (.bl b) => if b = true then (h e c).bind fun z c => R.of (o' c y z) c else .ok (.bl false) c
  | _ => .stuck
theorem rd_chain {r r' : R2} {o o' : Cs → D → D → Option D} (hs : Sem2 K r o) (hs' : Sem2 K r' o') {f g h : ME} {Q : VK} (hw : rdP K mg W (chain o o' f g h) σ H Q) : tChain r r' (rdP K mg W f) (rdP K mg W g) (rdP K mg W h) σ H Q := by
  obtain ⟨ca, F, e, ws, cs, st, po⟩ := hw
  refine rdP_bind kindP st po fun x c1 F1 H1 v _ nx st1 dx po1 => ?_
  refine rdP_bind kindP st1 po1 fun y c2 F2 H2 u _ nx2 st2 dy po2 => ?_
  cases q : o c2 x y with
  | none => rw [q] at po2; exact po2.elim
  | some d =>
    rw [q] at po2
    cases d with
    | bl b =>
      refine hs (mg := mg) (W := W) (σ := σ) (e := e) st2 (Dd.mono (st1.bmono nx2) _ _ dx) dy q ?_
      intro F3 H3 z nx3 ce3 dz
      have st3 := st2.nxt nx3 ce3
      cases dz
      refine ⟨b, rfl, ?_⟩
      have po3 := po2.step nx3
      cases b with
      | false => exact PoP.ret st3 po3 (.bl false)
      | true =>
        refine rdP_bind kindP st3 po3 fun z c4 F4 H4 w _ nx4 st4 dz po4 => ?_
        obtain ⟨d, hd, po5⟩ := po4.of
        exact hs' st4 (Dd.mono (st3.bmono nx4) _ _ (Dd.mono (st2.bmono nx3) _ _ dy)) dz hd po5
    | _ => exact po2.elim
theorem dp_chain {X : Cx} {W : WX} {op op' : CmpOp} {r r' : R2} {o o' : Cs → D → D → Option D} {f g h : ME} {a b c : Expr} {pos : Pos} (ho : OpR X (compareOp op) r) (ho' : OpR X (compareOp op') r') (hs : Sem2 X.K r o) (hs' : Sem2 X.K r' o')
    (ha : PE X a (rdP X.K X.mg W f)) (hb : PE X b (rdP X.K X.mg W g)) (hc : PE X c (rdP X.K X.mg W h)) (hm : lastMarks [op, op'] [b, c] = false := by with_unfolding_all rfl) :
    PE X (.Compare a [op, op'] [b, c] pos) (rdP X.K X.mg W (chain o o' f g h)) := (pe_chain ho ho' ha hb hc hm).imp fun _ _ _ q => rd_chain hs hs' q
theorem dt_chain {X : Cx} {W : WX} {op op' : CmpOp} {r r' : R2} {o o' : Cs → D → D → Option D} {f g h : ME} {a b c : Expr} {pos : Pos} (ho : OpR X (compareOp op) r) (ho' : OpR X (compareOp op') r') (hs : Sem2 X.K r o) (hs' : Sem2 X.K r' o')
    (ha : PE X a (rdP X.K X.mg W f)) (hb : PE X b (rdP X.K X.mg W g)) (hc : PE X c (rdP X.K X.mg W h)) (hm : lastMarks [op, op'] [b, c] = false := by with_unfolding_all rfl) :
    PT X (.Compare a [op, op'] [b, c] pos) (rdT X.K X.mg W (toT (chain o o' f g h))) := (pt_chain ho ho' ha hb hc hm).imp fun _ _ _ q => rd_chain hs hs' (rd_toT q)
/-! ### one place -/
@[simp] def op1 (o : D → Option D) (f : ME) (e : En) (c : Cs) : R D := (f e c).bind fun x c => R.of (o x) c
@[simp] def negD : D → Option D
  | .int i => some (.int (-i))
  | _ => none
theorem dp_neg {X : Cx} {W : WX} {f : ME} {a : Expr} {pos : Pos} (ha : PE X a (rdP X.K X.mg W f)) : PE X (.UnaryOp .USub a pos) (rdP X.K X.mg W (op1 negD f)) := (pe_un un_neg ha).imp fun σ H Q h => by
  obtain ⟨ca, F, e, ws, cs, st, po⟩ := h
  refine rdP_bind kindP st po fun x c1 F1 H1 v _ nx st1 dx po1 => ?_
  obtain ⟨d, hd, po2⟩ := po1.of
  cases x with
  | int i => cases dx; cases hd; exact ⟨i, rfl, PoP.ret st1 po2 (.int _)⟩
  | _ => cases hd

/-! ### arithmetic -/
def intOp (p : Int → Int → Bool) (g : Int → Int → Int) : Cs → D → D → Option D := fun _ x y => match x, y with
  | .int i, .int j => if p i j = true then some (.int (g i j)) else none
  | _, _ => none
theorem sem_int {r : R2} {p : Int → Int → Bool} {g : Int → Int → Int} (h : ∀ i j H Q, p i j = true → Q (V.int (g i j)) H → r (.int i) (.int j) H Q) : Sem2 K r (intOp p g) := by
  intro mg W ca F H σ e ws c x y v u d Q st dx dy hd po
  cases x with
  | int i =>
    cases y with
    | int j =>
      cases dx; cases dy
      unfold intOp at hd
      by_cases hp : p i j = true
      · simp only [hp, if_true] at hd
        cases hd
        exact h i j H Q hp (PoP.ret st po (.int _))
      · simp only [hp] at hd; cases hd
    | _ => cases hd
  | _ => cases hd
def okAny (_ _ : Int) : Bool := true
def okMul (i j : Int) : Bool := (bigI i && bigI j) || decide (j.natAbs < 2 ^ 60)
def okDiv (_ j : Int) : Bool := decide (0 < j ∨ j < 0) && bigI j
@[simp] def dvI (i j : Int) : Int := if 0 < j then i / j else i.fdiv j
def okMod (_ j : Int) : Bool := decide (0 < j)
def okPow (i j : Int) : Bool := decide (0 ≤ j ∧ j ≤ 1000 ∧ i.natAbs < 2 ^ 64)
abbrev subD := intOp okAny fun i j => i - j
abbrev mulI := intOp okMul fun i j => i * j
abbrev divD := intOp okDiv dvI
abbrev modD := intOp okMod fun i j => i % j
abbrev powD := intOp okPow fun i j => i ^ j.toNat
theorem sem_sub : Sem2 K (rI0 fun i j => V.int (i - j)) subD := sem_int fun i j H Q _ q => ⟨i, j, rfl, rfl, q⟩
theorem okMul_ok {i j : Int} (h : okMul i j = true) : PySem.IntMulOk i j := by
  unfold okMul at h
  rw [Bool.or_eq_true] at h
  rcases h with h | h
  · rw [Bool.and_eq_true] at h
    have h1 := bigI_log h.1
    have h2 := bigI_log h.2
    exact CMulW.ok (by unfold CMulW; omega)
  · have h := of_decide_eq_true h
    have hl := PySem.Flt.log2_lt_of (by decide) h
    refine PySem.IntMulOk.of_right ?_
    unfold Builtin.Int.intBits
    split <;> omega
theorem op_mulX {X : Cx} : OpR X (binaryOp .Mult) (rI PySem.IntMulOk fun i j => .int (i * j)) := opI fun _ _ _ _ _ _ _ hc q => mul_int q hc
def CDvW (_ j : Int) : Prop := j ≠ 0 ∧ j.natAbs.log2 < 9000
theorem op_dvW {X : Cx} : OpR X (binaryOp .FloorDiv) (rI CDvW fun i j => .int (i.fdiv j)) := opI fun _ _ _ _ _ _ _ hc q => floordiv_int hc.1 q (.inl (PyProof.noPylong_of_log2 hc.2))
theorem okDiv_ok {i j : Int} (h : okDiv i j = true) : CDvW i j := by
  unfold okDiv at h
  rw [Bool.and_eq_true] at h
  exact ⟨by have := of_decide_eq_true h.1; omega, by have := bigI_log h.2; omega⟩
theorem dvI_eq (i j : Int) : dvI i j = i.fdiv j := by
  unfold dvI
  split
  · rw [Int.fdiv_eq_ediv_of_nonneg i (by omega)]
  · rfl
theorem sem_mulI : Sem2 K (rI PySem.IntMulOk fun i j => V.int (i * j)) mulI := sem_int fun i j H Q p q => ⟨i, j, rfl, rfl, okMul_ok p, q⟩
theorem sem_div : Sem2 K (rI CDvW fun i j => V.int (i.fdiv j)) divD := sem_int fun i j H Q p q => ⟨i, j, rfl, rfl, okDiv_ok p, by rw [dvI_eq] at q; exact q⟩
theorem sem_mod : Sem2 K (rI (fun _ j => 0 < j) fun i j => V.int (i % j)) modD := sem_int fun i j H Q p q => ⟨i, j, rfl, rfl, of_decide_eq_true p, q⟩
theorem sem_pow : Sem2 K (rI CPow fun i j => V.int (i ^ j.toNat)) powD := sem_int fun i j H Q p q => by
  have := of_decide_eq_true p
  exact ⟨i, j, rfl, rfl, ⟨this.1, by omega, this.2.2⟩, q⟩
/-! ### order -/
def intCmp (g : Int → Int → Bool) : Cs → D → D → Option D := fun _ x y => match x, y with
  | .int i, .int j => some (.bl (g i j))
  | _, _ => none
theorem sem_cmp {g : Int → Int → Bool} : Sem2 K (rI0 fun i j => V.bl (g i j)) (intCmp g) := by
  intro mg W ca F H σ e ws c x y v u d Q st dx dy hd po
  cases x with
  | int i =>
    cases y with
    | int j => cases dx; cases dy; cases hd; exact ⟨i, j, rfl, rfl, PoP.ret st po (.bl _)⟩
    | _ => cases hd
  | _ => cases hd
abbrev ltD := intCmp fun i j => decide (i < j)
abbrev leD := intCmp fun i j => decide (i ≤ j)
abbrev gtD := intCmp fun i j => decide (j < i)
abbrev geD := intCmp fun i j => decide (j ≤ i)
/-! ### == of data -/
mutual
def D.py : D → Option PyData
  | .non => some .none
  | .bl b => some (.bool b)
  | .int i => some (.int i)
  | .str x => some (.str x)
  | .lst l => (D.pyA l).map .list
  | .tup l => (D.pyA l).map .tuple
  | .scr l => some (.list (l.map .int))
  | .cell _ => none
  | .exc _ => none
  | .ob _ _ _ => none
def D.pyA : List D → Option (List PyData)
  | [] => some []
  | d :: ds => match d.py, D.pyA ds with
    | some p, some ps => some (p :: ps)
    | _, _ => none
end
theorem dpAll_ints : ∀ ns : List Int, DpAll K F (ns.map V.int) (ns.map PyData.int)
  | [] => .nil
  | n :: ns => .cons (.int n) (dpAll_ints ns)
mutual
theorem Dd.dp : ∀ (d : D) (v : V) (p : PyData), Dd K ca F v d → d.py = some p → Dp K F v p
  | .non, _, _, h, e => by cases h; cases e; exact .non
  | .bl _, _, _, h, e => by cases h; cases e; exact .bl _
  | .int _, _, _, h, e => by cases h; cases e; exact .int _
  | .str _, _, _, h, e => by cases h; cases e; exact .str _
  | .lst ds, _, _, h, e => by
    cases h with
    | lst h1 h2 =>
      simp only [D.py, Option.map_eq_some_iff] at e
      obtain ⟨ps, e1, e2⟩ := e
      subst e2
      exact .lst (SqL.of h1) (DdA.dp ds _ ps h2 e1)
  | .tup ds, _, _, h, e => by
    cases h with
    | tup h1 h2 =>
      simp only [D.py, Option.map_eq_some_iff] at e
      obtain ⟨ps, e1, e2⟩ := e
      subst e2
      exact .tup h1 (DdA.dp ds _ ps h2 e1)
  | .scr ns, _, _, h, e => by
    cases h with
    | scr h1 => cases e; exact .lst h1.seq (dpAll_ints ns)
  | .cell _, _, _, h, e => by cases e
theorem DdA.dp : ∀ (ds : List D) (vs : List V) (ps : List PyData), DdA K ca F vs ds → D.pyA ds = some ps → DpAll K F vs ps
  | [], _, _, h, e => by cases h; cases e; exact .nil
  | d :: ds, _, _, h, e => by
    cases h with
    | cons h1 h2 =>
      unfold D.pyA at e
      cases q1 : d.py with
      | none => rw [q1] at e; cases e
      | some p =>
        cases q2 : D.pyA ds with
        | none => rw [q1, q2] at e; cases e
        | some ps => rw [q1, q2] at e; cases e; exact .cons (Dd.dp d _ p h1 q1) (DdA.dp ds _ ps h2 q2)
end
theorem Dp.mono {v : V} {p : PyData} (s : Same F F') (d : D) (h : Dd K ca F v d) (e : d.py = some p) : Dp K F' v p := Dd.dp d v p (Dd.mono s d v h) e
def eqD : Cs → D → D → Option D := fun _ x y => match x.py, y.py with
  | some p, some q => if (SeqAt.shaped p && SeqAt.shaped q) = true then some (.bl (PyData.eqv p q)) else none
  | _, _ => none
def neD : Cs → D → D → Option D := fun _ x y => match x.py, y.py with
  | some p, some q => if (SeqAt.shaped p && SeqAt.shaped q) = true then some (.bl (!PyData.eqv p q)) else none
  | _, _ => none
theorem sem_eq : Sem2 K (rEqD K) eqD := by
  intro mg W ca F H σ e ws c x y v u d Q st dx dy hd po
  unfold eqD at hd
  cases q1 : x.py with
  | none => rw [q1] at hd; cases hd
  | some p =>
    cases q2 : y.py with
    | none => rw [q1, q2] at hd; cases hd
    | some p2 =>
      rw [q1, q2] at hd
      by_cases hs : (SeqAt.shaped p && SeqAt.shaped p2) = true
      · simp only [hs, if_true] at hd
        cases hd
        rw [Bool.and_eq_true] at hs
        exact ⟨p, p2, Dp.mono st.bsub x dx q1, Dp.mono st.bsub y dy q2, hs.1, hs.2, PoP.ret st po (.bl _)⟩
      · simp only [hs] at hd; cases hd
theorem sem_ne : Sem2 K (rNeD K) neD := by
  intro mg W ca F H σ e ws c x y v u d Q st dx dy hd po
  unfold neD at hd
  cases q1 : x.py with
  | none => rw [q1] at hd; cases hd
  | some p =>
    cases q2 : y.py with
    | none => rw [q1, q2] at hd; cases hd
    | some p2 =>
      rw [q1, q2] at hd
      by_cases hs : (SeqAt.shaped p && SeqAt.shaped p2) = true
      · simp only [hs, if_true] at hd
        cases hd
        rw [Bool.and_eq_true] at hs
        exact ⟨p, p2, Dp.mono st.bsub x dx q1, Dp.mono st.bsub y dy q2, hs.1, hs.2, PoP.ret st po (.bl _)⟩
      · simp only [hs] at hd; cases hd
/-- is None, is not None (the right side written) -/
def isNonD : D → Bool
  | .non => true
  | _ => false
@[simp] def isN (_ : Cs) (x y : D) : Option D := match y with
  | .non => some (.bl (isNonD x))
  | _ => none
@[simp] def isNotN (_ : Cs) (x y : D) : Option D := match y with
  | .non => some (.bl (!isNonD x))
  | _ => none
theorem Dd.non_iff {v : V} {d : D} (h : Dd K ca F v d) : decide (v = .non) = isNonD d := by cases h <;> rfl
theorem sem_isN : Sem2 K (fun x y H Q => y = V.non ∧ Q (.bl (decide (x = .non))) H) isN := by
  intro mg W ca F H σ e ws c x y v u d Q st dx dy hd po
  cases y with
  | non => cases dy; cases hd; exact ⟨rfl, by rw [dx.non_iff]; exact PoP.ret st po (.bl _)⟩
  | _ => cases hd
theorem sem_isNotN : Sem2 K (fun x y H Q => y = V.non ∧ Q (.bl (!decide (x = .non))) H) isNotN := by
  intro mg W ca F H σ e ws c x y v u d Q st dx dy hd po
  cases y with
  | non => cases dy; cases hd; exact ⟨rfl, by rw [dx.non_iff]; exact PoP.ret st po (.bl _)⟩
  | _ => cases hd
/-- is True, is not True (bools) -/
@[simp] def isB (_ : Cs) (x y : D) : Option D := match x, y with
  | .bl a, .bl b => some (.bl (decide (a = b)))
  | _, _ => none
@[simp] def isNotB (_ : Cs) (x y : D) : Option D := match x, y with
  | .bl a, .bl b => some (.bl (!decide (a = b)))
  | _, _ => none
theorem sem_isB : Sem2 K rIsB isB := by
  intro mg W ca F H σ e ws c x y v u d Q st dx dy hd po
  cases x with
  | bl a =>
    cases y with
    | bl b => cases dx; cases dy; cases hd; exact ⟨a, b, rfl, rfl, PoP.ret st po (.bl _)⟩
    | _ => cases hd
  | _ => cases hd
theorem sem_isNotB : Sem2 K rNotB isNotB := by
  intro mg W ca F H σ e ws c x y v u d Q st dx dy hd po
  cases x with
  | bl a =>
    cases y with
    | bl b => cases dx; cases dy; cases hd; exact ⟨a, b, rfl, rfl, PoP.ret st po (.bl _)⟩
    | _ => cases hd
  | _ => cases hd
/-! ### subscripts -/
def ixD : Cs → D → D → Option D := fun c x y => match x, y with
  | .lst l, .int i => atI l i
  | .tup l, .int i => atI l i
  | .scr ns, .int i => (atI ns i).map .int
  | .str z, .int i => if z.length < LIM then (atI z.cps.toList i).map fun c => .str ⟨#[c]⟩ else none
  | .cell n, .int i => match c[n]? with
    | some ds => atI ds i
    | none => none
  | _, _ => none
theorem atI_dd {xs : List V} {ds : List D} {i : Int} {d : D} (h : DdA K ca F xs ds) (e : atI ds i = some d) : ∃ v, atI xs i = some v ∧ Dd K ca F v d := by
  unfold atI at e ⊢
  rw [h.length]
  cases q : ixN ds.length i with
  | none => rw [q] at e; cases e
  | some j =>
    rw [q] at e
    exact DdA.get h e
theorem sem_ix : Sem2 K (rIx K) ixD := by
  intro mg W ca F H σ e ws c x y v u d Q st dx dy hd po
  cases y with
  | int i =>
    cases dy
    cases x with
    | lst l =>
      cases dx with
      | lst h1 h2 =>
        obtain ⟨v, h3, h4⟩ := atI_dd h2 hd
        exact .inl ⟨_, _, i, v, rfl, rfl, SqL.of (st.bsub _ _ h1), h3, PoP.ret st po h4⟩
    | tup l =>
      cases dx with
      | tup h1 h2 =>
        obtain ⟨v, h3, h4⟩ := atI_dd h2 hd
        exact .inr (.inl ⟨_, _, i, v, rfl, rfl, Same.tup st.bsub h1, h3, PoP.ret st po h4⟩)
    | scr ns =>
      cases dx with
      | scr h1 =>
        simp only [ixD, Option.map_eq_some_iff] at hd
        obtain ⟨n, h2, rfl⟩ := hd
        have h3 : atI (ns.map V.int) i = some (.int n) := by
          unfold atI at h2 ⊢
          rw [List.length_map]
          cases q : ixN ns.length i with
          | none => rw [q] at h2; cases h2
          | some j =>
            rw [q] at h2
            show (ns.map V.int)[j]? = _
            rw [List.getElem?_map, show ns[j]? = some n from h2]
            rfl
        exact .inl ⟨_, _, i, _, rfl, rfl, (Same.lk st.bsub h1).seq, h3, PoP.ret st po (.int n)⟩
    | str z =>
      cases dx
      simp only [ixD] at hd
      split at hd
      · rename_i hz
        simp only [Option.map_eq_some_iff] at hd
        obtain ⟨n, h2, rfl⟩ := hd
        exact .inr (.inr ⟨z, i, n, rfl, rfl, lim_line hz, h2, PoP.ret st po (.str _)⟩)
      · cases hd
    | cell n =>
      cases dx with
      | cell h1 =>
        simp only [ixD] at hd
        cases q : c[n]? with
        | none => rw [q] at hd; cases hd
        | some ds =>
          rw [q] at hd
          obtain ⟨f, xs, h2, h3, h4⟩ := st.ce.2 n _ ds h1 q
          obtain ⟨v, h5, h6⟩ := atI_dd h3 hd
          exact .inl ⟨_, _, i, v, rfl, rfl, SqL.of h2, h5, PoP.ret st po (Dd.mono st.bsame _ _ h6)⟩
    | _ => cases hd
  | _ => cases x <;> cases hd
end
end Dg

set_option Elab.async false
set_option linter.all false
set_option maxRecDepth 100000
set_option maxHeartbeats 4000000
namespace Dg
open PySem PySem.Spec PyProof.Rows L2
section
variable {K : PySem.W.Frag} {mg : Str → Option Value} {W : WX} {ca : List Addr} {F F' H H' : Hp} {σ : L2.St} {e : En} {ws : List Addr} {cs cs' : Cs}

/-! ### arguments -/
@[simp] def evA : List ME → En → Cs → R (List D)
  | [], _, c => .ok [] c
  | f :: fs, e, c => (f e c).bind fun d c => (evA fs e c).bind fun ds c => .ok (d :: ds) c
@[simp] def evO : List MO → En → Cs → R (List T)
  | [], _, c => .ok [] c
  | f :: fs, e, c => (f e c).bind fun d c => (evO fs e c).bind fun ds c => .ok (d :: ds) c
theorem evA_len : ∀ {fs : List ME} {e : En} {c c' : Cs} {ds : List D}, evA fs e c = .ok ds c' → ds.length = fs.length
  | [], _, _, _, _, h => by cases h; rfl
  | f :: fs, e, c, c', ds, h => by
    unfold evA at h
    cases q : f e c with
    | ok d c1 =>
      rw [q] at h
      cases q2 : evA fs e c1 with
      | ok ds' c2 =>
        rw [R.bind_ok, q2] at h
        cases h
        simp [evA_len q2]
      | err x c2 => rw [R.bind_ok, q2] at h; cases h
      | stuck => rw [R.bind_ok, q2] at h; cases h
    | err x c1 => rw [q] at h; cases h
    | stuck => rw [q] at h; cases h
theorem evO_len : ∀ {fs : List MO} {e : En} {c c' : Cs} {ds : List T}, evO fs e c = .ok ds c' → ds.length = fs.length
  | [], _, _, _, _, h => by cases h; rfl
  | f :: fs, e, c, c', ds, h => by
    unfold evO at h
    cases q : f e c with
    | ok d c1 =>
      rw [q] at h
      cases q2 : evO fs e c1 with
      | ok ds' c2 =>
        rw [R.bind_ok, q2] at h
        cases h
        simp [evO_len q2]
      | err x c2 => rw [R.bind_ok, q2] at h; cases h
      | stuck => rw [R.bind_ok, q2] at h; cases h
    | err x c1 => rw [q] at h; cases h
    | stuck => rw [q] at h; cases h
theorem dpa_nil {X : Cx} {W : WX} : PA X [] (rdPA X.K X.mg W (evA [])) := pa_nil.imp fun σ H Q h => by
  obtain ⟨ca, F, e, ws, cs, st, po⟩ := h
  exact po F H [] (Nxt.refl st.same) st.ce .nil
theorem dpa_cons {X : Cx} {W : WX} {f : ME} {fs : List ME} {e : Expr} {es : List Expr} (h : PE X e (rdP X.K X.mg W f)) (hr : PA X es (rdPA X.K X.mg W (evA fs)))
    (hs : starEach (e :: es) X.env = (false, eval e X.env) :: starEach es X.env := by rfl) : PA X (e :: es) (rdPA X.K X.mg W (evA (f :: fs))) := (pa_cons h hr hs).imp fun σ H Q h => by
  obtain ⟨ca, F, e, ws, cs, st, po⟩ := h
  refine rdP_bind kindPA st po fun x c1 F1 H1 v _ nx st1 dx po1 => ?_
  refine rdPA_bind kindPA st1 po1 fun y c2 F2 H2 u _ nx2 st2 dy po2 => ?_
  exact po2 F2 H2 (v :: u) (Nxt.refl st2.same) st2.ce (.cons (Dd.mono (st1.bmono nx2) _ _ dx) dy)
theorem doa_nil {X : Cx} {W : WX} : PA X [] (rdOA X.K X.mg W (evO [])) := pa_nil.imp fun σ H Q h => by
  obtain ⟨ca, F, e, ws, cs, st, po⟩ := h
  exact po F H [] [] (Nxt.refl st.same) st.ce .nil List.nodup_nil (fun _ m => by cases m)
/-- what is owned stays behind a step that keeps it -/
theorem keepO {F1 H1 F2 H2 : Hp} {as : List Addr} (ce : Ce K ca F H cs) (fr : ∀ a ∈ as, H a = none) (ok : ∀ a ∈ as, F1 a = none ∧ ∃ xs, H1 a = some (.lst xs)) (nx : Nxt ca F1 H1 F2 H2) : ∀ a ∈ as, H2 a = H1 a ∧ F2 a = none := fun a m => by
  obtain ⟨f1, xs, h1⟩ := ok a m
  have nc : a ∉ ca := fun z => by
    obtain ⟨_, ys, hy⟩ := ce.there z
    rw [fr a m] at hy; cases hy
  refine ⟨by rw [h1]; exact nx.k a _ nc h1, ?_⟩
  cases q : F2 a with
  | none => rfl
  | some o =>
    rcases nx.n a (by rw [q]; simp) with z | z
    · exact absurd f1 z
    · rw [h1] at z; cases z
theorem apart {H1 H2 : Hp} {as bs : List Addr} (ok : ∀ a ∈ as, ∃ xs, H1 a = some (HO.lst xs)) (f2 : ∀ a ∈ bs, H1 a = none) : ∀ a ∈ as, ∀ b ∈ bs, a ≠ b := fun a m b m2 z => by
  subst z
  obtain ⟨xs, h1⟩ := ok a m
  rw [f2 a m2] at h1; cases h1
theorem doa_cons {X : Cx} {W : WX} {f : MO} {fs : List MO} {e : Expr} {es : List Expr} (h : PE X e (rdO X.K X.mg W f)) (hr : PA X es (rdOA X.K X.mg W (evO fs)))
    (hs : starEach (e :: es) X.env = (false, eval e X.env) :: starEach es X.env := by rfl) : PA X (e :: es) (rdOA X.K X.mg W (evO (f :: fs))) := (pa_cons h hr hs).imp fun σ H Q h => by
  obtain ⟨ca, F, e, ws, cs, st, po⟩ := h
  refine rdO_from (ws := ws) kindOA (Nxt.refl st.same) st po fun x c1 F1 H1 v as _ nx b1 st1 dx n1 f1 po1 => ?_
  refine rdOA_from (ws := ws) kindOA b1 st1 po1 fun y c2 F2 H2 u bs _ nx2 b2 st2 dy n2 f2 po2 => ?_
  have k := keepO st.ce f1 (Own.ok _ _ _ dx) nx2
  refine po2 F2 H2 (v :: u) (as ++ bs) b2 st2.ce (.cons (Own.fr nx2.f _ _ _ k dx) dy) (List.nodup_append.mpr ⟨n1, n2, apart (H2 := H2) (fun a m => (Own.ok _ _ _ dx a m).2) f2⟩) fun a m => ?_
  rcases List.mem_append.mp m with m | m
  · exact f1 a m
  · exact nfree b1 f2 a m

/-! ### from one kind to the other -/
@[simp] def allV : En → Bool
  | [] => true
  | none :: e => allV e
  | some (.v _) :: e => allV e
  | some (.ol _) :: _ => false
  | some (.ot _) :: _ => false
theorem Sl.allV : ∀ {σ : L2.St} {e : En} {ws : List Addr}, Sl K ca F H σ e ws → allV e = true → ws = []
  | _, _, _, .nil, _ => rfl
  | _, _, _, .no h, q => Sl.allV h q
  | _, some (.v d) :: e, _, .so h1 h2, q => by
    cases h1 with
    | v h1 => exact Sl.allV h2 q
  | _, some (.ol _) :: e, _, .so h1 h2, q => by cases q
  | _, some (.ot _) :: e, _, .so h1 h2, q => by cases q
/-- a value to be kept: flat, or nothing is owned here -/
@[simp] def oP (f : ME) (e : En) (c : Cs) : R T := (f e c).bind fun d c => if (allV e || d.flat) = true then .ok (.v d) c else .stuck
theorem rd_oP {f : ME} {Q : VK} (h : rdO K mg W (oP f) σ H Q) : rdP K mg W f σ H Q := by
  obtain ⟨ca, F, e, ws, cs, st, po⟩ := h
  refine rdP_bind (ws := ws) kindO st po fun x c1 F1 H1 v _ nx st1 dx po1 => ?_
  by_cases hf : (allV e || x.flat) = true
  · simp only [hf, if_true] at po1
    refine po1 F1 H1 v [] (Nxt.refl st1.same) st1.ce (.v ?_) List.nodup_nil (fun _ m => by cases m)
    rw [Bool.or_eq_true] at hf
    rcases hf with hf | hf
    · have := Sl.allV st1.sl hf
      subst this
      rw [Bh_nil] at dx
      exact dx
    · exact Dd.unB (fun a m => (Sl.ok st1.sl a m).2) _ _ hf dx
  · simp only [hf] at po1
    exact po1.elim
theorem do_p {X : Cx} {W : WX} {f : ME} {a : Expr} (h : PE X a (rdP X.K X.mg W f)) : PE X a (rdO X.K X.mg W (oP f)) := h.imp fun _ _ _ q => rd_oP q
@[simp] def pO (f : MO) (e : En) (c : Cs) : R D := (f e c).bind fun t c => .ok t.d c
theorem rd_pO {f : MO} {Q : VK} (h : rdP K mg W (pO f) σ H Q) : rdO K mg W f σ H Q := by
  obtain ⟨ca, F, e, ws, cs, st, po⟩ := h
  refine rdO_from (ws := ws) kindP (Nxt.refl st.same) st po fun x c1 F1 H1 v as _ nx _ st1 dx n1 f1 po1 => ?_
  have hF : ∀ a ∈ as, F1 a = none := fun a m => (Own.ok _ _ _ dx a m).1
  have nc : ∀ a ∈ as, a ∉ ca := fun a m z => by
    obtain ⟨_, ys, hy⟩ := st.ce.there z
    rw [f1 a m] at hy; cases hy
  have nx2 := Nxt.hold st1.same hF nx f1
  refine po1 (Bh F1 H1 as) H1 v nx2 (st1.ce.hold hF nc) (Dd.mono ?_ _ _ (Own.dd hF x v as (fun _ m => m) dx))
  exact Bh_same fun a m => (st.keeps nx2 a m).2
theorem dp_o {X : Cx} {W : WX} {f : MO} {a : Expr} (h : PE X a (rdO X.K X.mg W f)) : PE X a (rdP X.K X.mg W (pO f)) := h.imp fun _ _ _ q => rd_pO q
/-- a name whose value is held for good -/
@[simp] def oVar (i : Nat) (e : En) (c : Cs) : R T := match e[i]? with
  | some (some (.v d)) => .ok (.v d) c
  | _ => .stuck
theorem rd_oVar {i : Nat} {Q : VK} (h : rdO K mg W (oVar i) σ H Q) : tVar i σ H Q := by
  obtain ⟨ca, F, e, ws, cs, st, po⟩ := h
  unfold oVar at po
  cases q : e[i]? with
  | none => rw [q] at po; exact po.elim
  | some o =>
    cases o with
    | none => rw [q] at po; exact po.elim
    | some t =>
      cases t with
      | v d =>
        rw [q] at po
        obtain ⟨x, as, h1, h2, h3⟩ := Sl.get st.sl q
        cases h2 with
        | v h2 => exact ⟨x, h1, po F H x [] (Nxt.refl st.same) st.ce (.v h2) List.nodup_nil (fun _ m => by cases m)⟩
      | ol _ => rw [q] at po; exact po.elim
      | ot _ => rw [q] at po; exact po.elim
theorem do_var {X : Cx} {W : WX} (i : Nat) {x : Str} {pos : Pos} (h : PE X (.Name x pos) (tVar i)) : PE X (.Name x pos) (rdO X.K X.mg W (oVar i)) := h.imp fun _ _ _ q => rd_oVar q

/-! ### written tuples, lists -/
@[simp] def pTup (fs : List ME) (e : En) (c : Cs) : R D := (evA fs e c).bind fun ds c => .ok (.tup ds) c
theorem dp_tup {X : Cx} {W : WX} {fs : List ME} {es : List Expr} {x1 : Nat} {pos : Pos} (h : PA X es (rdPA X.K X.mg W (evA fs))) (hl : fs.length ≤ 1000 := by decide) : PE X (.Tuple es x1 pos) (rdP X.K X.mg W (pTup fs)) := (pe_tup h).imp fun σ H Q h => by
  obtain ⟨ca, F, e, ws, cs, st, po⟩ := h
  refine rdPA_bind kindP st po fun x c1 F1 H1 v q nx st1 dx po1 => ?_
  have hn := evA_len q
  refine ⟨by rw [DdA.length dx, hn, sizeLine_eq]; omega, fun p hp => ?_⟩
  refine PoP.new st1 po1 hp (.tup (SqT.of ?_) (DdA.mono (st1.bmono (Nxt.new st1.same hp)) _ _ dx))
  have hw : p ∉ ws := fun z => by
    obtain ⟨_, xs, hx⟩ := Sl.ok st1.sl p z
    rw [hp] at hx; cases hx
  rw [Bh_out hw, upd_same]
@[simp] def partsV : List T → Option (List D)
  | [] => some []
  | .v d :: ts => (partsV ts).map (d :: ·)
  | _ :: _ => none
@[simp] def mkTup (ts : List T) : T := match partsV ts with
  | some ds => .v (.tup ds)
  | none => .ot ts
theorem partsV_eq : ∀ {ts : List T} {ds : List D}, partsV ts = some ds → ts = ds.map T.v
  | [], ds, h => by cases h; rfl
  | .v d :: ts, ds, h => by
    simp only [partsV, Option.map_eq_some_iff] at h
    obtain ⟨r, h1, rfl⟩ := h
    rw [partsV_eq h1]; rfl
  | .ol _ :: _, _, h => by cases h
  | .ot _ :: _, _, h => by cases h
theorem OwnA.unv : ∀ {ds : List D} {xs : List V} {as : List Addr}, OwnA K ca F H xs (ds.map T.v) as → as = [] ∧ DdA K ca F xs ds
  | [], _, _, h => by cases h; exact ⟨rfl, .nil⟩
  | d :: ds, _, _, h => by
    cases h with
    | cons h1 h2 =>
      cases h1 with
      | v h1 =>
        obtain ⟨e, h3⟩ := OwnA.unv h2
        subst e
        exact ⟨rfl, .cons h1 h3⟩
theorem own_mkTup {a : Addr} {xs : List V} {ts : List T} {as : List Addr} (h1 : F a = some (.tup xs)) (h2 : OwnA K ca F H xs ts as) : Own K ca F H (.ref a) (mkTup ts) as := by
  unfold mkTup
  cases q : partsV ts with
  | none => exact .t h1 h2
  | some ds =>
    have e := partsV_eq q
    subst e
    obtain ⟨e, h3⟩ := OwnA.unv h2
    subst e
    exact .v (.tup (SqT.of h1) h3)
@[simp] def oTup (fs : List MO) (e : En) (c : Cs) : R T := (evO fs e c).bind fun ts c => .ok (mkTup ts) c
theorem do_tup {X : Cx} {W : WX} {fs : List MO} {es : List Expr} {x1 : Nat} {pos : Pos} (h : PA X es (rdOA X.K X.mg W (evO fs))) (hl : fs.length ≤ 1000 := by decide) : PE X (.Tuple es x1 pos) (rdO X.K X.mg W (oTup fs)) := (pe_tup h).imp fun σ H Q h => by
  obtain ⟨ca, F, e, ws, cs, st, po⟩ := h
  refine rdOA_from (ws := ws) kindO (Nxt.refl st.same) st po fun x c1 F1 H1 v as q nx _ st1 dx n1 f1 po1 => ?_
  have hn := evO_len q
  refine ⟨by rw [OwnA.length dx, hn, sizeLine_eq]; omega, fun p hp => ?_⟩
  have nn : Nxt ca F1 H1 (upd F1 p (.tup v)) (upd H1 p (.tup v)) := Nxt.new st1.same hp
  have k := keepO st.ce f1 (OwnA.ok _ _ _ dx) nn
  exact po1 _ _ _ as (nx.trans nn) (st1.ce.new st1.same hp) (own_mkTup upd_same (OwnA.fr nn.f _ _ _ k dx)) n1 f1
@[simp] def oLst (fs : List MO) (e : En) (c : Cs) : R T := (evO fs e c).bind fun ts c => .ok (.ol ts) c
theorem own_new {F1 H1 : Hp} {p : Addr} {v : List V} {ts : List T} {as : List Addr} (ce : Ce K ca F H cs) (f1 : ∀ a ∈ as, H a = none) (nx : Nxt ca F H F1 H1) (dx : OwnA K ca F1 H1 v ts as) (n1 : as.Nodup) (hp : H1 p = none) :
    Nxt ca F H F1 (upd H1 p (.lst v)) ∧ Own K ca F1 (upd H1 p (.lst v)) (.ref p) (.ol ts) (p :: as) ∧ (p :: as).Nodup ∧ ∀ a ∈ p :: as, H a = none := by
  have nn : Nxt ca F1 H1 F1 (upd H1 p (.lst v)) := Nxt.own nx.s hp
  have k := keepO ce f1 (OwnA.ok _ _ _ dx) nn
  refine ⟨nx.trans nn, .l (nx.s.free hp) upd_same (OwnA.fr nn.f _ _ _ k dx), List.nodup_cons.mpr ⟨fun z => ?_, n1⟩, fun a m => ?_⟩
  · obtain ⟨_, xs, hx⟩ := OwnA.ok _ _ _ dx p z
    rw [hp] at hx; cases hx
  · rcases List.mem_cons.mp m with rfl | m
    · exact nfree nx (as := [a]) (fun b mb => by rw [List.mem_singleton.mp mb]; exact hp) a (by simp)
    · exact f1 a m
theorem do_lst {X : Cx} {W : WX} {fs : List MO} {es : List Expr} {pos : Pos} (h : PA X es (rdOA X.K X.mg W (evO fs))) (hl : fs.length ≤ 1000 := by decide) : PE X (.List es pos) (rdO X.K X.mg W (oLst fs)) := (pe_lst h).imp fun σ H Q h => by
  obtain ⟨ca, F, e, ws, cs, st, po⟩ := h
  refine rdOA_from (ws := ws) kindO (Nxt.refl st.same) st po fun x c1 F1 H1 v as q nx _ st1 dx n1 f1 po1 => ?_
  have hn := evO_len q
  refine ⟨by rw [OwnA.length dx, hn, sizeLine_eq]; omega, fun p hp => ?_⟩
  obtain ⟨a1, a2, a3, a4⟩ := own_new st.ce f1 nx dx n1 hp
  exact po1 _ _ _ (p :: as) a1 (st1.ce.own hp) a2 a3 a4
end
end Dg

set_option Elab.async false
set_option linter.all false
set_option maxRecDepth 100000
set_option maxHeartbeats 4000000
namespace Dg
open PySem PySem.Spec PyProof.Rows L2
section
variable {K : PySem.W.Frag} {mg : Str → Option Value} {W : WX} {ca : List Addr} {F F' H H' : Hp} {σ : L2.St} {e : En} {ws : List Addr} {cs cs' : Cs}

/-! ### new lists of things that stand -/
theorem DdA.unA (st : Stt K ca F H σ e ws cs) {xs : List V} {ds : List D} (h : DdA K ca (Bh F H ws) xs ds) (hf : (allV e || D.flatA ds) = true) : DdA K ca F xs ds := by
  rw [Bool.or_eq_true] at hf
  rcases hf with hf | hf
  · have := Sl.allV st.sl hf
    subst this
    rw [Bh_nil] at h
    exact h
  · exact DdA.unB (fun a m => (Sl.ok st.sl a m).2) _ _ hf h
theorem PoO.newL {F0 H0 : Hp} {Q : VK} {xs : List V} {ds : List D} {p : Addr} (st : Stt K ca F H σ e ws cs) (b : Nxt ca F0 H0 F H) (po : PoO K mg W ca F0 H0 σ Q (.ok (.ol (ds.map T.v)) cs)) (dd : DdA K ca (Bh F H ws) xs ds)
    (hf : (allV e || D.flatA ds) = true) (hp : H p = none) : Q (.ref p) (upd H p (.lst xs)) := by
  have h := DdA.unA st dd hf
  have nn : Nxt ca F H F (upd H p (.lst xs)) := Nxt.own st.same hp
  refine po _ _ _ [p] (b.trans nn) (st.ce.own hp) ?_ (by simp) fun a m => ?_
  · exact .l (st.same.free hp) upd_same (OwnA.vs h)
  · rw [List.mem_singleton.mp m]
    exact nfree b (as := [p]) (fun b mb => by rw [List.mem_singleton.mp mb]; exact hp) p (by simp)
theorem PoO.retV {F0 H0 : Hp} {Q : VK} {v : V} {d : D} (st : Stt K ca F H σ e ws cs) (b : Nxt ca F0 H0 F H) (po : PoO K mg W ca F0 H0 σ Q (.ok (.v d) cs)) (dd : Dd K ca F v d) : Q v H :=
  po F H v [] b st.ce (.v dd) List.nodup_nil fun _ m => by cases m
theorem PoP.newT {Q : VK} {xs : List V} {ds : List D} {p : Addr} (st : Stt K ca F H σ e ws cs) (po : PoP K mg W ca F H ws σ Q (.ok (.tup ds) cs)) (dd : DdA K ca (Bh F H ws) xs ds) (hp : H p = none) : Q (.ref p) (upd H p (.tup xs)) := by
  refine PoP.new st po hp (.tup (SqT.of ?_) (DdA.mono (st.bmono (Nxt.new st.same hp)) _ _ dd))
  have hw : p ∉ ws := fun z => by
    obtain ⟨_, xs, hx⟩ := Sl.ok st.sl p z
    rw [hp] at hx; cases hx
  rw [Bh_out hw, upd_same]
theorem PoP.newL {Q : VK} {xs : List V} {ds : List D} {p : Addr} (st : Stt K ca F H σ e ws cs) (po : PoP K mg W ca F H ws σ Q (.ok (.lst ds) cs)) (dd : DdA K ca (Bh F H ws) xs ds) (hp : H p = none) : Q (.ref p) (upd H p (.lst xs)) := by
  refine PoP.new st po hp (.lst ?_ (DdA.mono (st.bmono (Nxt.new st.same hp)) _ _ dd))
  have hw : p ∉ ws := fun z => by
    obtain ⟨_, xs, hx⟩ := Sl.ok st.sl p z
    rw [hp] at hx; cases hx
  rw [Bh_out hw, upd_same]
theorem PoO.newT {F0 H0 : Hp} {Q : VK} {xs : List V} {ds : List D} {p : Addr} (st : Stt K ca F H σ e ws cs) (b : Nxt ca F0 H0 F H) (po : PoO K mg W ca F0 H0 σ Q (.ok (.v (.tup ds)) cs)) (dd : DdA K ca (Bh F H ws) xs ds)
    (hf : (allV e || D.flatA ds) = true) (hp : H p = none) : Q (.ref p) (upd H p (.tup xs)) := by
  have h := DdA.unA st dd hf
  have nn : Nxt ca F H (upd F p (.tup xs)) (upd H p (.tup xs)) := Nxt.new st.same hp
  exact po _ _ _ [] (b.trans nn) (st.ce.new st.same hp) (.v (.tup (SqT.of upd_same) (DdA.mono nn.f _ _ h))) List.nodup_nil fun _ m => by cases m

/-- the things of a list -/
@[simp] def D.li : D → Option (List D)
  | .lst l => some l
  | .scr ns => some (ns.map .int)
  | _ => none
@[simp] def D.tu : D → Option (List D)
  | .tup l => some l
  | _ => none
theorem Dd.li {v : V} {d : D} {ds : List D} (h : Dd K ca F v d) (e : d.li = some ds) : ∃ a xs, v = .ref a ∧ SqL K F a xs ∧ DdA K ca F xs ds := by
  cases h with
  | lst h1 h2 => cases e; exact ⟨_, _, rfl, SqL.of h1, h2⟩
  | scr h1 => cases e; exact ⟨_, _, rfl, h1.seq, DdA.ints _⟩
  | _ => cases e
theorem Dd.tu {v : V} {d : D} {ds : List D} (h : Dd K ca F v d) (e : d.tu = some ds) : ∃ a xs, v = .ref a ∧ SqT K F a xs ∧ DdA K ca F xs ds := by
  cases h with
  | tup h1 h2 => cases e; exact ⟨_, _, rfl, h1, h2⟩
  | _ => cases e

/-! ### + -/
/-- list + list, of any lists that may be read -/
def rCatL (K : PySem.W.Frag) : R2 := fun x y H Q => ∃ a b xs ys, x = .ref a ∧ y = .ref b ∧ SqL K H a xs ∧ SqL K H b ys ∧ xs.length + ys.length ≤ sizeLine ∧ ∀ p, H p = none → Q (.ref p) (upd H p (.lst (xs ++ ys)))
theorem op_catL {X : Cx} : OpR X (binaryOp .Add) (rCatL X.K) := by
  rintro pins s σ H x y v u Q I rx ry ⟨a, b, xs, ys, rfl, rfl, ha, hb, hz, q⟩
  cases rx; cases ry
  obtain ⟨i1, v1, ⟨⟨k1, d1, t1, s1⟩, n1, g1, c1, e1, f1⟩, z1⟩ := I.list ha
  obtain ⟨i2, v2, ⟨⟨k2, d2, t2, s2⟩, n2, g2, c2, e2, f2⟩, z2⟩ := I.list hb
  simp only at c1 e1 f1 c2 e2 f2
  subst c1 e1 f1 c2 e2 f2
  have hsz : i1.toArray.size + i2.toArray.size ≤ sizeLine := by
    have h1 := v1.length
    have h2 := v2.length
    simp only [List.size_toArray]
    omega
  have J := I.lnew (t' := s.toks) (v1.append v2) (by rw [List.length_append]; omega)
  refine concat_meets ⟨_, g1, rfl⟩ ⟨_, g2, rfl⟩ noFill_list_add seq_list_add PySem.F.slot_list_add PySem.F.entry_list_add (PySem.F.args_list_add_2 _ _) (list_addW a b i1.toArray i2.toArray n1 n2 none none s1 s2 hsz) ⟨g1, g2, ?_⟩
  rw [List.append_toArray]
  exact ⟨.ref _, _, J, rfl, q _ I.fresh⟩
def rAddAll (K : PySem.W.Frag) : R2 := fun x y H Q => (∃ i j, x = .int i ∧ y = .int j ∧ Q (.int (i + j)) H) ∨ (∃ i j, x = .str i ∧ y = .str j ∧ i.length + j.length ≤ sizeLine ∧ Q (.str (i ++ j)) H) ∨ rCatA K x y H Q ∨ rCatL K x y H Q
theorem op_addAll {X : Cx} : OpR X (binaryOp .Add) (rAddAll X.K) := (op_add).or ((op_add_str).or (op_catA.or op_catL))
def addD : Cs → D → D → Option D := fun _ x y => match x, y with
  | .int i, .int j => some (.int (i + j))
  | .str a, .str b => if a.length + b.length < LIM then some (.str (a ++ b)) else none
  | .tup l, .tup m => if l.length + m.length < LIM then some (.tup (l ++ m)) else none
  | x, y => match x.li, y.li with
    | some l, some m => if l.length + m.length < LIM then some (.lst (l ++ m)) else none
    | _, _ => none
/-- what is added to what -/
theorem addD_cases {c : Cs} {x y d : D} (h : addD c x y = some d) : (∃ i j, x = .int i ∧ y = .int j ∧ d = .int (i + j)) ∨ (∃ a b, x = .str a ∧ y = .str b ∧ a.length + b.length < LIM ∧ d = .str (a ++ b)) ∨
    (∃ l m, x = .tup l ∧ y = .tup m ∧ l.length + m.length < LIM ∧ d = .tup (l ++ m)) ∨ ∃ l m, x.li = some l ∧ y.li = some m ∧ l.length + m.length < LIM ∧ d = .lst (l ++ m) := by
  have key : ∀ {x y : D}, (match x.li, y.li with
    | some l, some m => if l.length + m.length < LIM then some (D.lst (l ++ m)) else none
    | _, _ => none) = some d → ∃ l m, x.li = some l ∧ y.li = some m ∧ l.length + m.length < LIM ∧ d = .lst (l ++ m) := fun {x y} h => by
    cases q1 : x.li with
    | none => rw [q1] at h; cases h
    | some l =>
      cases q2 : y.li with
      | none => rw [q1, q2] at h; cases h
      | some m =>
        rw [q1, q2] at h
        simp only at h
        split at h
        · cases h; exact ⟨l, m, rfl, rfl, by assumption, rfl⟩
        · cases h
  cases x <;> cases y <;> first
    | (cases h; exact .inl ⟨_, _, rfl, rfl, rfl⟩)
    | (simp only [addD] at h
       split at h
       · cases h; first
           | exact .inr (.inl ⟨_, _, rfl, rfl, by assumption, rfl⟩)
           | exact .inr (.inr (.inl ⟨_, _, rfl, rfl, by assumption, rfl⟩))
       · cases h)
    | exact .inr (.inr (.inr (key h)))
theorem sem_add : Sem2 K (rAddAll K) addD := by
  intro mg W ca F H σ e ws c x y v u d Q st dx dy hd po
  rcases addD_cases hd with ⟨i, j, rfl, rfl, rfl⟩ | ⟨a, b, rfl, rfl, hz, rfl⟩ | ⟨l, m, rfl, rfl, hz, rfl⟩ | ⟨l, m, h1, h2, hz, rfl⟩
  · cases dx; cases dy
    exact .inl ⟨i, j, rfl, rfl, PoP.ret st po (.int _)⟩
  · cases dx; cases dy
    exact .inr (.inl ⟨a, b, rfl, rfl, lim_line hz, PoP.ret st po (.str _)⟩)
  · obtain ⟨a, xs, rfl, s1, d1⟩ := dx.tu rfl
    obtain ⟨b, ys, rfl, s2, d2⟩ := dy.tu rfl
    have l1 := d1.length
    have l2 := d2.length
    refine .inr (.inr (.inl ⟨a, b, xs, ys, rfl, rfl, Same.tup st.bsub s1, Same.tup st.bsub s2, by rw [l1, l2]; exact lim_line hz, fun e0 => ?_, fun _ e0 => ?_, fun _ _ p hp => PoP.newT st po (d1.app d2) hp⟩))
    · subst e0
      cases d1
      exact PoP.ret st po dy
    · subst e0
      cases d2
      rw [List.append_nil] at po
      exact PoP.ret st po dx
  · obtain ⟨a, xs, rfl, s1, d1⟩ := dx.li h1
    obtain ⟨b, ys, rfl, s2, d2⟩ := dy.li h2
    have l1 := d1.length
    have l2 := d2.length
    exact .inr (.inr (.inr ⟨a, b, xs, ys, rfl, rfl, st.bsub.seq s1, st.bsub.seq s2, by rw [l1, l2]; exact lim_line hz, fun p hp => PoP.newL st po (d1.app d2) hp⟩))
/-- the same where the answer is kept -/
@[simp] def keep2 (o : Cs → D → D → Option D) (e : En) (c : Cs) (x y : D) : Option T := match o c x y with
  | some (.lst l) => if (allV e || D.flatA l) = true then some (.ol (l.map T.v)) else none
  | some d => if (allV e || d.flat) = true then some (.v d) else none
  | none => none
@[simp] def op2O (o : Cs → D → D → Option D) (f g : ME) (e : En) (c : Cs) : R T := (f e c).bind fun x c => (g e c).bind fun y c => R.of (keep2 o e c x y) c
def Sem2O (K : PySem.W.Frag) (r : R2) (o : Cs → D → D → Option D) : Prop :=
  ∀ {mg : Str → Option Value} {W : WX} {ca : List Addr} {F H F0 H0 : Hp} {σ : L2.St} {e : En} {ws : List Addr} {c : Cs} {x y : D} {v u : V} {t : T} {Q : VK},
    Stt K ca F H σ e ws c → Nxt ca F0 H0 F H → Dd K ca (Bh F H ws) v x → Dd K ca (Bh F H ws) u y → keep2 o e c x y = some t → PoO K mg W ca F0 H0 σ Q (.ok t c) → r v u H Q
theorem PoO.of {Q : VK} {o : Option T} {c : Cs} (po : PoO K mg W ca F H σ Q (R.of o c)) : ∃ d, o = some d ∧ PoO K mg W ca F H σ Q (.ok d c) := by
  cases o with
  | none => exact po.elim
  | some d => exact ⟨d, rfl, po⟩
theorem rd_op2O {r : R2} {o : Cs → D → D → Option D} (hs : Sem2O K r o) {f g : ME} {Q : VK} (h : rdO K mg W (op2O o f g) σ H Q) : tOp r (rdP K mg W f) (rdP K mg W g) σ H Q := by
  obtain ⟨ca, F, e, ws, cs, st, po⟩ := h
  refine rdP_from (ws := ws) kindO (Nxt.refl st.same) st po fun x c1 F1 H1 v _ nx b1 st1 dx po1 => ?_
  refine rdP_from (ws := ws) kindO b1 st1 po1 fun y c2 F2 H2 u _ nx2 b2 st2 dy po2 => ?_
  obtain ⟨d, hd, po3⟩ := po2.of
  exact hs st2 b2 (Dd.mono (st1.bmono nx2) _ _ dx) dy hd po3
theorem do_op {X : Cx} {W : WX} {op : Operator} {r : R2} {o : Cs → D → D → Option D} {f g : ME} {a b : Expr} {pos : Pos} (ho : OpR X (binaryOp op) r) (hs : Sem2O X.K r o) (ha : PE X a (rdP X.K X.mg W f)) (hb : PE X b (rdP X.K X.mg W g)) :
    PE X (.BinOp a op b pos) (rdO X.K X.mg W (op2O o f g)) := (pe_op ho ha hb).imp fun _ _ _ q => rd_op2O hs q
theorem keep2_cases {o : Cs → D → D → Option D} {e : En} {c : Cs} {x y : D} {t : T} (h : keep2 o e c x y = some t) : ∃ d, o c x y = some d ∧ ((∃ l, d = .lst l ∧ (allV e || D.flatA l) = true ∧ t = .ol (l.map T.v)) ∨ ((allV e || d.flat) = true ∧ t = .v d)) := by
  unfold keep2 at h
  cases q : o c x y with
  | none => rw [q] at h; cases h
  | some d =>
    rw [q] at h
    refine ⟨d, rfl, ?_⟩
    cases d with
    | lst l =>
      simp only at h
      split at h
      · cases h; exact .inl ⟨l, rfl, by assumption, rfl⟩
      · cases h
    | _ =>
      simp only at h
      split at h
      · cases h; exact .inr ⟨by assumption, rfl⟩
      · cases h
theorem Stt.un (st : Stt K ca F H σ e ws cs) {v : V} {d : D} (h : Dd K ca (Bh F H ws) v d) (hf : (allV e || d.flat) = true) : Dd K ca F v d := by
  rw [Bool.or_eq_true] at hf
  rcases hf with hf | hf
  · have := Sl.allV st.sl hf
    subst this
    rw [Bh_nil] at h
    exact h
  · exact Dd.unB (fun a m => (Sl.ok st.sl a m).2) _ _ hf h
theorem semO_add : Sem2O K (rAddAll K) addD := by
  intro mg W ca F H F0 H0 σ e ws c x y v u t Q st b dx dy hk po
  obtain ⟨d, hd, ht⟩ := keep2_cases hk
  rcases addD_cases hd with ⟨i, j, rfl, rfl, rfl⟩ | ⟨a, b', rfl, rfl, hz, rfl⟩ | ⟨l, m, rfl, rfl, hz, rfl⟩ | ⟨l, m, h1, h2, hz, rfl⟩
  · rcases ht with ⟨_, z, _⟩ | ⟨hf, rfl⟩
    · cases z
    · cases dx; cases dy
      exact .inl ⟨i, j, rfl, rfl, PoO.retV st b po (.int _)⟩
  · rcases ht with ⟨_, z, _⟩ | ⟨hf, rfl⟩
    · cases z
    · cases dx; cases dy
      exact .inr (.inl ⟨a, b', rfl, rfl, lim_line hz, PoO.retV st b po (.str _)⟩)
  · rcases ht with ⟨_, z, _⟩ | ⟨hf, rfl⟩
    · cases z
    · obtain ⟨a, xs, rfl, s1, d1⟩ := dx.tu rfl
      obtain ⟨b2, ys, rfl, s2, d2⟩ := dy.tu rfl
      have l1 := d1.length
      have l2 := d2.length
      refine .inr (.inr (.inl ⟨a, b2, xs, ys, rfl, rfl, Same.tup st.bsub s1, Same.tup st.bsub s2, by rw [l1, l2]; exact lim_line hz, fun e0 => ?_, fun _ e0 => ?_, fun _ _ p hp => PoO.newT st b po (d1.app d2) (by simpa [D.flat] using hf) hp⟩))
      · subst e0
        cases d1
        exact PoO.retV st b po (st.un dy hf)
      · subst e0
        cases d2
        rw [List.append_nil] at po hf
        exact PoO.retV st b po (st.un dx hf)
  · rcases ht with ⟨_, z, hf, rfl⟩ | ⟨hf, rfl⟩
    · cases z
      obtain ⟨a, xs, rfl, s1, d1⟩ := dx.li h1
      obtain ⟨b2, ys, rfl, s2, d2⟩ := dy.li h2
      have l1 := d1.length
      have l2 := d2.length
      exact .inr (.inr (.inr ⟨a, b2, xs, ys, rfl, rfl, st.bsub.seq s1, st.bsub.seq s2, by rw [l1, l2]; exact lim_line hz, fun p hp => PoO.newL st b po (d1.app d2) hf hp⟩))
    · obtain ⟨a, xs, rfl, s1, d1⟩ := dx.li h1
      obtain ⟨b2, ys, rfl, s2, d2⟩ := dy.li h2
      have l1 := d1.length
      have l2 := d2.length
      have hf2 : (allV e || D.flatA (l ++ m)) = true := by
        rw [Bool.or_eq_true] at hf ⊢
        rcases hf with hf | hf
        · exact .inl hf
        · cases hf
      refine .inr (.inr (.inr ⟨a, b2, xs, ys, rfl, rfl, st.bsub.seq s1, st.bsub.seq s2, by rw [l1, l2]; exact lim_line hz, fun p hp => ?_⟩))
      have hh := DdA.unA st (d1.app d2) hf2
      have nn : Nxt ca F H (upd F p (.lst (xs ++ ys))) (upd H p (.lst (xs ++ ys))) := Nxt.new st.same hp
      exact po _ _ _ [] (b.trans nn) (st.ce.new st.same hp) (.v (.lst upd_same (DdA.mono nn.f _ _ hh))) List.nodup_nil fun _ m => by cases m
end
end Dg

set_option Elab.async false
set_option linter.all false
set_option maxRecDepth 100000
set_option maxHeartbeats 4000000
namespace Dg
open PySem PySem.Spec PyProof.Rows L2
section
variable {K : PySem.W.Frag} {mg : Str → Option Value} {W : WX} {ca : List Addr} {F F' H H' : Hp} {σ : L2.St} {e : En} {ws : List Addr} {cs cs' : Cs}

/-! ### an end that is a thing of no list, or a new object -/
structure En1 (K : PySem.W.Frag) (ca : List Addr) (F H : Hp) (ws : List Addr) (Q : VK) (d : D) : Prop where
  ret : (∀ l, d ≠ .lst l) → ∀ v, Dd K ca (Bh F H ws) v d → Q v H
  newT : ∀ ds, d = .tup ds → ∀ xs p, DdA K ca (Bh F H ws) xs ds → H p = none → Q (.ref p) (upd H p (.tup xs))
  newL : ∀ ds, d = .lst ds → ∀ xs p, DdA K ca (Bh F H ws) xs ds → H p = none → Q (.ref p) (upd H p (.lst xs))
theorem En1.ofP {Q : VK} {d : D} (st : Stt K ca F H σ e ws cs) (po : PoP K mg W ca F H ws σ Q (.ok d cs)) : En1 K ca F H ws Q d :=
  ⟨fun _ v h => PoP.ret st po h, fun ds z xs p h hp => by subst z; exact PoP.newT st po h hp, fun ds z xs p h hp => by subst z; exact PoP.newL st po h hp⟩
def keepD (e : En) : D → Option T
  | .lst l => if (allV e || D.flatA l) = true then some (.ol (l.map T.v)) else none
  | d => if (allV e || d.flat) = true then some (.v d) else none
theorem keepD_cases {e : En} {d : D} {t : T} (h : keepD e d = some t) : (∃ l, d = .lst l ∧ (allV e || D.flatA l) = true ∧ t = .ol (l.map T.v)) ∨ ((∀ l, d ≠ .lst l) ∧ (allV e || d.flat) = true ∧ t = .v d) := by
  cases d with
  | lst l =>
    simp only [keepD] at h
    split at h
    · cases h; exact .inl ⟨l, rfl, by assumption, rfl⟩
    · cases h
  | _ =>
    simp only [keepD] at h
    split at h
    · cases h; exact .inr ⟨fun l z => (by cases z), by assumption, rfl⟩
    · cases h
theorem En1.ofO {F0 H0 : Hp} {Q : VK} {d : D} {t : T} (st : Stt K ca F H σ e ws cs) (b : Nxt ca F0 H0 F H) (hk : keepD e d = some t) (po : PoO K mg W ca F0 H0 σ Q (.ok t cs)) : En1 K ca F H ws Q d := by
  rcases keepD_cases hk with ⟨l, rfl, hf, rfl⟩ | ⟨nl, hf, rfl⟩
  · exact ⟨fun z => absurd rfl (z l), fun ds z => (by cases z), fun ds z xs p h hp => by cases z; exact PoO.newL st b po h hf hp⟩
  · exact ⟨fun _ v h => PoO.retV st b po (st.un h hf), fun ds z xs p h hp => by subst z; exact PoO.newT st b po h (by simpa [D.flat] using hf) hp, fun ds z => absurd z (nl ds)⟩
/-! ### two places, with a new object -/
def SemN (K : PySem.W.Frag) (r : R2) (o : Cs → D → D → Option D) : Prop :=
  ∀ {ca : List Addr} {F H : Hp} {σ : L2.St} {e : En} {ws : List Addr} {c : Cs} {x y : D} {v u : V} {d : D} {Q : VK},
    Stt K ca F H σ e ws c → Dd K ca (Bh F H ws) v x → Dd K ca (Bh F H ws) u y → o c x y = some d → En1 K ca F H ws Q d → r v u H Q
theorem SemN.p {r : R2} {o : Cs → D → D → Option D} (h : SemN K r o) : Sem2 K r o := fun st dx dy hd po => h st dx dy hd (En1.ofP st po)
@[simp] def oD (f : ME) (e : En) (c : Cs) : R T := (f e c).bind fun d c => R.of (keepD e d) c
theorem rd_opN {r : R2} {o : Cs → D → D → Option D} (hs : SemN K r o) {f g : ME} {Q : VK} (h : rdO K mg W (oD (op2 o f g)) σ H Q) : tOp r (rdP K mg W f) (rdP K mg W g) σ H Q := by
  obtain ⟨ca, F, e, ws, cs, st, po⟩ := h
  have po' : PoO K mg W ca F H σ Q ((f e cs).bind fun x c => (g e c).bind fun y c => (R.of (o c x y) c).bind fun d c => R.of (keepD e d) c) := by
    unfold oD op2 at po
    cases q : f e cs with
    | ok x c1 =>
      rw [q] at po
      simp only [R.bind] at po ⊢
      cases q2 : g e c1 with
      | ok y c2 => rw [q2] at po; exact po
      | err x c => rw [q2] at po; exact po
      | stuck => rw [q2] at po; exact po
    | err x c => rw [q] at po; exact po
    | stuck => rw [q] at po; exact po
  refine rdP_from (ws := ws) kindO (Nxt.refl st.same) st po' fun x c1 F1 H1 v _ nx b1 st1 dx po1 => ?_
  refine rdP_from (ws := ws) kindO b1 st1 po1 fun y c2 F2 H2 u _ nx2 b2 st2 dy po2 => ?_
  cases q : o c2 x y with
  | none => rw [q] at po2; exact po2.elim
  | some d =>
    rw [q] at po2
    obtain ⟨t, ht, po3⟩ := PoO.of (o := keepD e d) po2
    exact hs st2 (Dd.mono (st1.bmono nx2) _ _ dx) dy q (En1.ofO st2 b2 ht po3)
theorem do_opN {X : Cx} {W : WX} {op : Operator} {r : R2} {o : Cs → D → D → Option D} {f g : ME} {a b : Expr} {pos : Pos} (ho : OpR X (binaryOp op) r) (hs : SemN X.K r o) (ha : PE X a (rdP X.K X.mg W f)) (hb : PE X b (rdP X.K X.mg W g)) :
    PE X (.BinOp a op b pos) (rdO X.K X.mg W (oD (op2 o f g))) := (pe_op ho ha hb).imp fun _ _ _ q => rd_opN hs q
/-! ### * -/
def rMulAll : R2 := fun x y H Q => rI PySem.IntMulOk (fun i j => .int (i * j)) x y H Q ∨ rRep x y H Q
theorem op_mulAll {X : Cx} : OpR X (binaryOp .Mult) rMulAll := op_mulX.or op_rep
noncomputable def mulD : Cs → D → D → Option D := fun _ x y => match x, y with
  | .int i, .int j => if okMul i j = true then some (.int (i * j)) else none
  | .lst l, .int k => if inR k ∧ l.length * k.toNat < LIM then some (.lst (List.replicate k.toNat l).flatten) else none
  | _, _ => none
theorem DdA.rep {xs : List V} {ds : List D} (h : DdA K ca F xs ds) : ∀ n : Nat, DdA K ca F (List.replicate n xs).flatten (List.replicate n ds).flatten
  | 0 => .nil
  | n + 1 => by
    rw [List.replicate_succ, List.replicate_succ, List.flatten_cons, List.flatten_cons]
    exact h.app (DdA.rep h n)
theorem sem_mul : SemN K rMulAll mulD := by
  intro ca F H σ e ws c x y v u d Q st dx dy hd en
  cases x with
  | int i =>
    cases y with
    | int j =>
      cases dx; cases dy
      simp only [mulD] at hd
      split at hd
      · rename_i hp
        cases hd
        exact .inl ⟨i, j, rfl, rfl, okMul_ok hp, en.ret (fun l z => by cases z) _ (.int _)⟩
      · cases hd
    | _ => cases hd
  | lst l =>
    cases y with
    | int k =>
      cases dy
      cases dx with
      | lst h1 h2 =>
        simp only [mulD] at hd
        split at hd
        · rename_i hp
          cases hd
          have hl := h2.length
          refine .inr ⟨_, k, _, rfl, rfl, st.bsub _ _ h1, by have := hp.1.1; have := hp.1.2; omega, by have := hp.1.1; have := hp.1.2; omega, ?_, fun p hp => en.newL _ rfl _ p (h2.rep _) hp⟩
          rw [hl]; exact lim_line hp.2
        · cases hd
    | _ => cases hd
  | _ => cases y <;> cases hd
/-! ### slices -/
@[simp] def evS : Option ME → En → Cs → R (Option Int)
  | none, _, c => .ok none c
  | some f, e, c => (f e c).bind fun x c => match x with
    | .int i => .ok (some i) c
    | _ => .stuck
def PoS1 (K : PySem.W.Frag) (mg : Str → Option Value) (W : WX) (ca : List Addr) (F H : Hp) (σ : L2.St) (Q : Option Int → Hp → Prop) : R (Option Int) → Prop
  | .ok b cs' => ∀ F' H', Nxt ca F H F' H' → Ce K ca F' H' cs' → Q b H'
  | .err x cs' => ∀ F' H', Nxt ca F H F' H' → Ce K ca F' H' cs' → Wn mg W x σ H'
  | .stuck => False
def rdS1 (K : PySem.W.Frag) (mg : Str → Option Value) (W : WX) (f : En → Cs → R (Option Int)) : TO := fun σ H Q => ∃ ca F e ws cs, Stt K ca F H σ e ws cs ∧ PoS1 K mg W ca F H σ Q (f e cs)
theorem PO.imp {X : Cx} {e : Option Expr} {t t' : TO} (h : PO X e t) (k : ∀ σ H Q, t' σ H Q → t σ H Q) : PO X e t' := ⟨fun pins s σ H Q I q => h.run pins s σ H Q I (k σ H Q q)⟩
theorem ds_none {X : Cx} {W : WX} : PO X none (rdS1 X.K X.mg W (evS none)) := PO.imp po_none fun σ H Q h => by
  obtain ⟨ca, F, e, ws, cs, st, po⟩ := h
  exact po F H (Nxt.refl st.same) st.ce
theorem ds_some {X : Cx} {W : WX} {f : ME} {a : Expr} (h : PE X a (rdP X.K X.mg W f)) : PO X (some a) (rdS1 X.K X.mg W (evS (some f))) := PO.imp (po_some h) fun σ H Q h => by
  obtain ⟨ca, F, e, ws, cs, st, po⟩ := h
  have kd : Kind X.K X.mg W ca ws σ (fun F H r => PoS1 X.K X.mg W ca F H σ Q r) := ⟨fun {F H F' H' r} h x => by
    cases r with
    | ok d c => exact fun F2 H2 y => h F2 H2 (x.trans y)
    | err z c => exact fun F2 H2 y => h F2 H2 (x.trans y)
    | stuck => exact h, fun h => h, fun h => h⟩
  refine rdP_bind kd st po fun x c1 F1 H1 v _ nx st1 dx po1 => ?_
  cases x with
  | int i => cases dx; exact ⟨i, rfl, po1 F1 H1 (Nxt.refl st1.same) st1.ce⟩
  | _ => exact po1.elim
def cutD {α : Type} (xs : List α) (lo hi : Option Int) : List α := (xs.drop (HT.sIx xs.length 0 lo)).take (HT.sIx xs.length xs.length hi - HT.sIx xs.length 0 lo)
def rSlAll (K : PySem.W.Frag) : V → Option Int → Option Int → Hp → VK → Prop := fun x lo hi H Q => rSlL K x lo hi H Q ∨ rSlA K x lo hi H Q
theorem sl_all {X : Cx} : SlR X (rSlAll X.K) := SlR.or sl_list sl_tupA
def sliceD (x : D) (lo hi : Option Int) : Option D := match x with
  | .tup l => some (.tup (cutD l lo hi))
  | x => x.li.map fun l => .lst (cutD l lo hi)
@[simp] def pSl (f : ME) (lo hi : Option ME) (e : En) (c : Cs) : R D := (f e c).bind fun x c => (evS lo e c).bind fun l c => (evS hi e c).bind fun h c => R.of (sliceD x l h) c
theorem DdA.cut {xs : List V} {ds : List D} (h : DdA K ca F xs ds) (lo hi : Option Int) : DdA K ca F (cutV xs lo hi) (cutD ds lo hi) := by
  unfold cutV cutD
  rw [h.length]
  exact (h.drop _).take _
theorem sem_slice {x d : D} {v : V} {lo hi : Option Int} {Q : VK} (st : Stt K ca F H σ e ws cs) (dx : Dd K ca (Bh F H ws) v x) (hd : sliceD x lo hi = some d) (en : En1 K ca F H ws Q d) : rSlAll K v lo hi H Q := by
  have lists : ∀ {x : D} {v : V}, Dd K ca (Bh F H ws) v x → (x.li.map fun l => D.lst (cutD l lo hi)) = some d → rSlAll K v lo hi H Q := fun {x v} dx hd => by
    simp only [Option.map_eq_some_iff] at hd
    obtain ⟨l, h1, rfl⟩ := hd
    obtain ⟨a, xs, rfl, s1, d1⟩ := dx.li h1
    exact .inl ⟨a, xs, rfl, st.bsub.seq s1, fun p hp => en.newL _ rfl _ p (d1.cut lo hi) hp⟩
  cases x with
  | tup l =>
    cases hd
    obtain ⟨a, xs, rfl, s1, d1⟩ := dx.tu rfl
    refine .inr ⟨a, xs, rfl, Same.tup st.bsub s1, fun hw => ?_, fun _ p hp => en.newT _ rfl _ p (d1.cut lo hi) hp⟩
    refine en.ret (fun l z => by cases z) _ ?_
    have : cutD l lo hi = l := by
      unfold cutD
      rw [← d1.length, hw.1, hw.2, List.drop_zero, Nat.sub_zero, d1.length, List.take_length]
    rw [this]; exact dx
  | _ => exact lists dx hd
theorem rdS1_from {β : Type} {Po : Hp → Hp → R β → Prop} {F0 H0 : Hp} (kd : Kind K mg W ca ws σ Po) {f : En → Cs → R (Option Int)} {k : Option Int → Cs → R β} {G : Option Int → Hp → Prop} (nx0 : Nxt ca F0 H0 F H) (st : Stt K ca F H σ e ws cs) (po : Po F0 H0 ((f e cs).bind k))
    (h : ∀ x c1 F1 H1, Nxt ca F H F1 H1 → Nxt ca F0 H0 F1 H1 → Stt K ca F1 H1 σ e ws c1 → Po F0 H0 (k x c1) → G x H1) : rdS1 K mg W f σ H G := by
  refine ⟨ca, F, e, ws, cs, st, ?_⟩
  cases q : f e cs with
  | ok x c1 =>
    rw [q] at po
    exact fun F1 H1 nx ce => h x c1 F1 H1 nx (nx0.trans nx) (st.nxt nx ce) po
  | err x c1 =>
    rw [q] at po
    exact fun F1 H1 nx ce => kd.err po F1 H1 (nx0.trans nx) ce
  | stuck =>
    rw [q] at po
    exact kd.stuck po
theorem R.bind_assoc {α β γ : Type} (r : R α) (f : α → Cs → R β) (g : β → Cs → R γ) : (r.bind f).bind g = r.bind fun a c => (f a c).bind g := by cases r <;> rfl
theorem rd_pSl {f : ME} {lo hi : Option ME} {Q : VK} (h : rdP K mg W (pSl f lo hi) σ H Q) : tSl (rSlAll K) (rdP K mg W f) (rdS1 K mg W (evS lo)) (rdS1 K mg W (evS hi)) σ H Q := by
  obtain ⟨ca, F, e, ws, cs, st, po⟩ := h
  refine rdP_from (ws := ws) kindP (Nxt.refl st.same) st po fun x c1 F1 H1 v _ nx b1 st1 dx po1 => ?_
  refine rdS1_from (ws := ws) kindP b1 st1 po1 fun l c2 F2 H2 nx2 b2 st2 po2 => ?_
  refine rdS1_from (ws := ws) kindP b2 st2 po2 fun u c3 F3 H3 nx3 b3 st3 po3 => ?_
  obtain ⟨d, hd, po4⟩ := (PoP.step po3 b3).of
  exact sem_slice st3 (Dd.mono (st2.bmono nx3) _ _ (Dd.mono (st1.bmono nx2) _ _ dx)) hd (En1.ofP st3 po4)
theorem rd_oSl {f : ME} {lo hi : Option ME} {Q : VK} (h : rdO K mg W (oD (pSl f lo hi)) σ H Q) : tSl (rSlAll K) (rdP K mg W f) (rdS1 K mg W (evS lo)) (rdS1 K mg W (evS hi)) σ H Q := by
  obtain ⟨ca, F, e, ws, cs, st, po⟩ := h
  unfold oD pSl at po
  simp only [R.bind_assoc] at po
  refine rdP_from (ws := ws) kindO (Nxt.refl st.same) st po fun x c1 F1 H1 v _ nx b1 st1 dx po1 => ?_
  refine rdS1_from (ws := ws) kindO b1 st1 po1 fun l c2 F2 H2 nx2 b2 st2 po2 => ?_
  refine rdS1_from (ws := ws) kindO b2 st2 po2 fun u c3 F3 H3 nx3 b3 st3 po3 => ?_
  cases q : sliceD x l u with
  | none => rw [q] at po3; exact po3.elim
  | some d =>
    rw [q] at po3
    obtain ⟨t, ht, po4⟩ := PoO.of (o := keepD e d) po3
    exact sem_slice st3 (Dd.mono (st2.bmono nx3) _ _ (Dd.mono (st1.bmono nx2) _ _ dx)) q (En1.ofO st3 b3 ht po4)
theorem dp_slice {X : Cx} {W : WX} {f : ME} {lo hi : Option ME} {a : Expr} {l u : Option Expr} {p2 pos : Pos} (ha : PE X a (rdP X.K X.mg W f)) (hl : PO X l (rdS1 X.K X.mg W (evS lo))) (hu : PO X u (rdS1 X.K X.mg W (evS hi))) :
    PE X (.Subscript a (.Slice l u none p2) pos) (rdP X.K X.mg W (pSl f lo hi)) := (pe_slice sl_all ha hl hu).imp fun _ _ _ q => rd_pSl q
theorem do_slice {X : Cx} {W : WX} {f : ME} {lo hi : Option ME} {a : Expr} {l u : Option Expr} {p2 pos : Pos} (ha : PE X a (rdP X.K X.mg W f)) (hl : PO X l (rdS1 X.K X.mg W (evS lo))) (hu : PO X u (rdS1 X.K X.mg W (evS hi))) :
    PE X (.Subscript a (.Slice l u none p2) pos) (rdO X.K X.mg W (oD (pSl f lo hi))) := (pe_slice sl_all ha hl hu).imp fun _ _ _ q => rd_oSl q
/-! ### calls of built-ins -/
@[simp] def opA (o : Cs → List D → Option D) (fs : List ME) (e : En) (c : Cs) : R D := (evA fs e c).bind fun ds c => R.of (o c ds) c
def SemA (K : PySem.W.Frag) (r : List V → Hp → VK → Prop) (o : Cs → List D → Option D) : Prop :=
  ∀ {ca : List Addr} {F H : Hp} {σ : L2.St} {e : En} {ws : List Addr} {c : Cs} {ds : List D} {vs : List V} {d : D} {Q : VK},
    Stt K ca F H σ e ws c → DdA K ca (Bh F H ws) vs ds → o c ds = some d → En1 K ca F H ws Q d → r vs H Q
theorem rd_opA {r : List V → Hp → VK → Prop} {o : Cs → List D → Option D} (hs : SemA K r o) {fs : List ME} {Q : VK} (h : rdP K mg W (opA o fs) σ H Q) : tCB r (rdPA K mg W (evA fs)) σ H Q := by
  obtain ⟨ca, F, e, ws, cs, st, po⟩ := h
  refine rdPA_bind kindP st po fun x c1 F1 H1 v _ nx st1 dx po1 => ?_
  obtain ⟨d, hd, po2⟩ := po1.of
  exact hs st1 dx hd (En1.ofP st1 po2)
theorem rd_opAO {r : List V → Hp → VK → Prop} {o : Cs → List D → Option D} (hs : SemA K r o) {fs : List ME} {Q : VK} (h : rdO K mg W (oD (opA o fs)) σ H Q) : tCB r (rdPA K mg W (evA fs)) σ H Q := by
  obtain ⟨ca, F, e, ws, cs, st, po⟩ := h
  unfold oD opA at po
  simp only [R.bind_assoc] at po
  refine rdPA_from (ws := ws) kindO (Nxt.refl st.same) st po fun x c1 F1 H1 v _ nx b1 st1 dx po1 => ?_
  cases q : o c1 x with
  | none => rw [q] at po1; exact po1.elim
  | some d =>
    rw [q] at po1
    obtain ⟨t, ht, po2⟩ := PoO.of (o := keepD e d) po1
    exact hs st1 dx q (En1.ofO st1 b1 ht po2)
theorem dp_callB {X : Cx} {W : WX} {id : String} {r : List V → Hp → VK → Prop} {o : Cs → List D → Option D} {fs : List ME} {x : Str} {a : Expr} {as : List Expr} {p pos : Pos} (hc : CallR X (.builtin id) r) (hs : SemA X.K r o) (hg : Gl X x) (hm : X.mg x = none) (hv : bootBuiltins x = some (.builtin id))
    (ha : PA X (a :: as) (rdPA X.K X.mg W (evA fs))) (hn : x ≠ "__name__" := by decide) (hdb : (x == ("__debug__" : Str)) = false := by decide)
    (he : starEach (a :: as) X.env = (false, eval a X.env) :: starEach as X.env := by rfl) (hpl : (backTo pos (starEach as X.env)).any (·.1) = false := by rfl) : PE X (.Call (.Name x p) (a :: as) [] pos) (rdP X.K X.mg W (opA o fs)) :=
  (pe_callB hc hg hm hv ha hn hdb he hpl).imp fun _ _ _ q => rd_opA hs q
theorem do_callB {X : Cx} {W : WX} {id : String} {r : List V → Hp → VK → Prop} {o : Cs → List D → Option D} {fs : List ME} {x : Str} {a : Expr} {as : List Expr} {p pos : Pos} (hc : CallR X (.builtin id) r) (hs : SemA X.K r o) (hg : Gl X x) (hm : X.mg x = none) (hv : bootBuiltins x = some (.builtin id))
    (ha : PA X (a :: as) (rdPA X.K X.mg W (evA fs))) (hn : x ≠ "__name__" := by decide) (hdb : (x == ("__debug__" : Str)) = false := by decide)
    (he : starEach (a :: as) X.env = (false, eval a X.env) :: starEach as X.env := by rfl) (hpl : (backTo pos (starEach as X.env)).any (·.1) = false := by rfl) : PE X (.Call (.Name x p) (a :: as) [] pos) (rdO X.K X.mg W (oD (opA o fs))) :=
  (pe_callB hc hg hm hv ha hn hdb he hpl).imp fun _ _ _ q => rd_opAO hs q
theorem dp_callT {X : Cx} {W : WX} {id : String} {r : List V → Hp → VK → Prop} {o : Cs → List D → Option D} {fs : List ME} {x : Str} {a : Expr} {as : List Expr} {p pos : Pos} (hc : CallR X (.type id) r) (hs : SemA X.K r o) (hg : Gl X x) (hm : X.mg x = none) (hv : bootBuiltins x = some (.type id))
    (ha : PA X (a :: as) (rdPA X.K X.mg W (evA fs))) (hn : x ≠ "__name__" := by decide) (hdb : (x == ("__debug__" : Str)) = false := by decide)
    (he : starEach (a :: as) X.env = (false, eval a X.env) :: starEach as X.env := by rfl) (hpl : (backTo pos (starEach as X.env)).any (·.1) = false := by rfl) : PE X (.Call (.Name x p) (a :: as) [] pos) (rdP X.K X.mg W (opA o fs)) :=
  (pe_callTy hc hg hm hv ha hn hdb he hpl).imp fun _ _ _ q => rd_opA hs q
theorem do_callT {X : Cx} {W : WX} {id : String} {r : List V → Hp → VK → Prop} {o : Cs → List D → Option D} {fs : List ME} {x : Str} {a : Expr} {as : List Expr} {p pos : Pos} (hc : CallR X (.type id) r) (hs : SemA X.K r o) (hg : Gl X x) (hm : X.mg x = none) (hv : bootBuiltins x = some (.type id))
    (ha : PA X (a :: as) (rdPA X.K X.mg W (evA fs))) (hn : x ≠ "__name__" := by decide) (hdb : (x == ("__debug__" : Str)) = false := by decide)
    (he : starEach (a :: as) X.env = (false, eval a X.env) :: starEach as X.env := by rfl) (hpl : (backTo pos (starEach as X.env)).any (·.1) = false := by rfl) : PE X (.Call (.Name x p) (a :: as) [] pos) (rdO X.K X.mg W (oD (opA o fs))) :=
  (pe_callTy hc hg hm hv ha hn hdb he hpl).imp fun _ _ _ q => rd_opAO hs q
/-- len -/
def lenD : Cs → List D → Option D := fun c ds => match ds with
  | [.str z] => if z.length < LIM then some (.int z.length) else none
  | [.tup l] => some (.int l.length)
  | [.lst l] => some (.int l.length)
  | [.scr l] => some (.int l.length)
  | [.cell n] => (c[n]?).map fun l => .int l.length
  | _ => none
theorem DdA.one {vs : List V} {d : D} (h : DdA K ca F vs [d]) : ∃ v, vs = [v] ∧ Dd K ca F v d := by
  cases h with
  | cons h1 h2 => cases h2; exact ⟨_, rfl, h1⟩
theorem DdA.two {vs : List V} {d d' : D} (h : DdA K ca F vs [d, d']) : ∃ v u, vs = [v, u] ∧ Dd K ca F v d ∧ Dd K ca F u d' := by
  cases h with
  | cons h1 h2 =>
    cases h2 with
    | cons h2 h3 => cases h3; exact ⟨_, _, rfl, h1, h2⟩
theorem sem_len : SemA K (fun xs H Q => ∃ x n, xs = [x] ∧ LenV K x H n ∧ Q (.int n) H) lenD := by
  intro ca F H σ e ws c ds vs d Q st dx hd en
  have ni : ∀ (n : Nat) l, (D.int n) ≠ .lst l := fun n l z => by cases z
  match ds, dx, hd with
  | [.str z], dx, hd =>
    obtain ⟨v, rfl, dv⟩ := dx.one
    cases dv
    simp only [lenD] at hd
    split at hd
    · cases hd
      exact ⟨_, _, rfl, ⟨lim_line (by assumption), rfl⟩, en.ret (ni _) _ (.int _)⟩
    · cases hd
  | [.tup l], dx, hd =>
    obtain ⟨v, rfl, dv⟩ := dx.one
    obtain ⟨a, xs, rfl, s1, d1⟩ := dv.tu rfl
    cases hd
    exact ⟨_, _, rfl, .inr ⟨xs, Same.tup st.bsub s1, d1.length.symm⟩, en.ret (ni _) _ (.int _)⟩
  | [.lst l], dx, hd =>
    obtain ⟨v, rfl, dv⟩ := dx.one
    obtain ⟨a, xs, rfl, s1, d1⟩ := dv.li rfl
    cases hd
    exact ⟨_, _, rfl, .inl ⟨xs, st.bsub.seq s1, d1.length.symm⟩, en.ret (ni _) _ (.int _)⟩
  | [.scr l], dx, hd =>
    obtain ⟨v, rfl, dv⟩ := dx.one
    obtain ⟨a, xs, rfl, s1, d1⟩ := dv.li rfl
    cases hd
    have := d1.length
    rw [List.length_map] at this
    exact ⟨_, _, rfl, .inl ⟨xs, st.bsub.seq s1, this.symm⟩, en.ret (ni _) _ (.int _)⟩
  | [.cell n], dx, hd =>
    obtain ⟨v, rfl, dv⟩ := dx.one
    cases dv with
    | cell h1 =>
      simp only [lenD, Option.map_eq_some_iff] at hd
      obtain ⟨l, h2, rfl⟩ := hd
      obtain ⟨f, xs, h3, h4, _⟩ := st.ce.2 n _ l h1 h2
      exact ⟨_, _, rfl, .inl ⟨xs, SqL.of h3, h4.length.symm⟩, en.ret (ni _) _ (.int _)⟩
/-- abs, min, max of two, int -/
def absD : Cs → List D → Option D := fun _ ds => match ds with
  | [.int i] => some (.int (if i < 0 then -i else i))
  | _ => none
theorem sem_abs : SemA K (fun xs H Q => ∃ i, xs = [V.int i] ∧ Q (.int (if i < 0 then -i else i)) H) absD := by
  intro ca F H σ e ws c ds vs d Q st dx hd en
  match ds, dx, hd with
  | [.int i], dx, hd =>
    obtain ⟨v, rfl, dv⟩ := dx.one
    cases dv; cases hd
    exact ⟨i, rfl, en.ret (fun l z => by cases z) _ (.int _)⟩
def max2D : Cs → List D → Option D := fun _ ds => match ds with
  | [.int i, .int j] => some (.int (if j > i then j else i))
  | _ => none
def min2D : Cs → List D → Option D := fun _ ds => match ds with
  | [.int i, .int j] => some (.int (if j < i then j else i))
  | _ => none
theorem sem_max2 : SemA K (fun xs H Q => ∃ i j, xs = [V.int i, V.int j] ∧ Q (.int (if j > i then j else i)) H) max2D := by
  intro ca F H σ e ws c ds vs d Q st dx hd en
  match ds, dx, hd with
  | [.int i, .int j], dx, hd =>
    obtain ⟨v, u, rfl, dv, du⟩ := dx.two
    cases dv; cases du; cases hd
    exact ⟨i, j, rfl, en.ret (fun l z => by cases z) _ (.int _)⟩
theorem sem_min2 : SemA K (fun xs H Q => ∃ i j, xs = [V.int i, V.int j] ∧ Q (.int (if j < i then j else i)) H) min2D := by
  intro ca F H σ e ws c ds vs d Q st dx hd en
  match ds, dx, hd with
  | [.int i, .int j], dx, hd =>
    obtain ⟨v, u, rfl, dv, du⟩ := dx.two
    cases dv; cases du; cases hd
    exact ⟨i, j, rfl, en.ret (fun l z => by cases z) _ (.int _)⟩
def intD : Cs → List D → Option D := fun _ ds => match ds with
  | [.int i] => some (.int i)
  | [.bl b] => some (.int (if b then 1 else 0))
  | _ => none
theorem sem_intD : SemA K (fun xs H Q => (∃ i, xs = [V.int i] ∧ Q (.int i) H) ∨ ∃ k, xs = [V.bl k] ∧ Q (.int (if k then 1 else 0)) H) intD := by
  intro ca F H σ e ws c ds vs d Q st dx hd en
  match ds, dx, hd with
  | [.int i], dx, hd =>
    obtain ⟨v, rfl, dv⟩ := dx.one
    cases dv; cases hd
    exact .inl ⟨i, rfl, en.ret (fun l z => by cases z) _ (.int _)⟩
  | [.bl i], dx, hd =>
    obtain ⟨v, rfl, dv⟩ := dx.one
    cases dv; cases hd
    exact .inr ⟨i, rfl, en.ret (fun l z => by cases z) _ (.int _)⟩
/-- the ints of a list -/
def intsD : List D → Option (List Int)
  | [] => some []
  | .int i :: ds => (intsD ds).map (i :: ·)
  | _ :: _ => none
theorem intsD_map : ∀ ns : List Int, intsD (ns.map D.int) = some ns
  | [] => rfl
  | n :: ns => by show (intsD (ns.map D.int)).map _ = _; rw [intsD_map ns]; rfl
theorem intsD_eq : ∀ {ds : List D} {ns : List Int}, intsD ds = some ns → ds = ns.map D.int
  | [], _, h => by cases h; rfl
  | d :: ds, ns, h => by
    cases d with
    | int i =>
      simp only [intsD, Option.map_eq_some_iff] at h
      obtain ⟨r, h1, rfl⟩ := h
      rw [intsD_eq h1]; rfl
    | _ => cases h
def liI (d : D) : Option (List Int) := d.li.bind intsD
theorem Dd.liI {v : V} {d : D} {ns : List Int} (h : Dd K ca F v d) (e : liI d = some ns) : ∃ a, v = .ref a ∧ SqL K F a (ns.map V.int) := by
  unfold Dg.liI at e
  cases q : d.li with
  | none => rw [q] at e; cases e
  | some ds =>
    rw [q] at e
    have e2 := intsD_eq (show intsD ds = some ns from e)
    subst e2
    obtain ⟨a, xs, rfl, s, dd⟩ := h.li q
    rw [dd.ints_of] at s
    exact ⟨a, rfl, s⟩
/-- sum of a tuple -/
def rSumT (K : PySem.W.Frag) : List V → Hp → VK → Prop := fun vs H Q => ∃ (a : Addr) (ns : List Int), vs = [V.ref a] ∧ SqT K H a (ns.map V.int) ∧ Q (.int ns.sum) H
theorem cr_sumT {X : Cx} (hc : X.calm = true) : CallR X (.builtin "sum") (rSumT X.K) := by
  intro pins s σ H vs us Q I r h
  obtain ⟨a, ns, rfl, hs, q⟩ := h
  obtain ⟨its, rv, hl, _⟩ := I.tuple hs
  rw [Vals.ref1 r]
  have hi := rv.ints
  obtain ⟨xs, hx⟩ := hi.allInts.items
  have hn : numsOf its.toArray.toList = ns := by rw [show its.toArray.toList = its from rfl, hi.numsOf]
  have hl' : s.heap.IsTuple a its.toArray := hl
  rw [hx] at hl' hn
  rw [nums_intItems] at hn
  refine PySem.W.ktm_sumG (I.ok.hd hc) hl' fun h' tk t' hk => ⟨.int _, H, I.kept hk, ⟨_, rfl⟩, ?_⟩
  rw [preSum_eq, List.take_of_length_le (by simp), hn]
  exact q
def rSumA (K : PySem.W.Frag) : List V → Hp → VK → Prop := fun vs H Q => rSum K vs H Q ∨ rSumT K vs H Q
theorem cr_sumA {X : Cx} (hc : X.calm = true) : CallR X (.builtin "sum") (rSumA X.K) := fun pins s σ H vs us Q I r h => h.elim (cr_sum hc pins s σ H vs us Q I r) (cr_sumT hc pins s σ H vs us Q I r)
def sumD : Cs → List D → Option D := fun _ ds => match ds with
  | [.tup l] => (intsD l).map fun ns => .int ns.sum
  | [x] => (liI x).map fun ns => .int ns.sum
  | _ => none
theorem sumD_cases {c : Cs} {ds : List D} {d : D} (h : sumD c ds = some d) : (∃ l ns, ds = [.tup l] ∧ intsD l = some ns ∧ d = .int ns.sum) ∨ ∃ x ns, ds = [x] ∧ liI x = some ns ∧ d = .int ns.sum := by
  match ds, h with
  | [x], h =>
    cases x <;> first
      | (simp only [sumD, Option.map_eq_some_iff] at h
         obtain ⟨l, h1, rfl⟩ := h
         first
           | exact .inl ⟨_, l, rfl, h1, rfl⟩
           | exact .inr ⟨_, l, rfl, h1, rfl⟩)
  | a :: b :: r, h => cases a <;> cases h
theorem sem_sum : SemA K (rSumA K) sumD := by
  intro ca F H σ e ws c ds vs d Q st dx hd en
  rcases sumD_cases hd with ⟨l, ns, rfl, h1, rfl⟩ | ⟨x, ns, rfl, h1, rfl⟩
  · obtain ⟨v, rfl, dv⟩ := dx.one
    obtain ⟨a, xs, rfl, s1, d1⟩ := dv.tu rfl
    have e2 := intsD_eq h1
    subst e2
    rw [d1.ints_of] at s1
    exact .inr ⟨a, ns, rfl, Same.tup st.bsub s1, en.ret (fun l z => by cases z) _ (.int _)⟩
  · obtain ⟨v, rfl, dv⟩ := dx.one
    obtain ⟨a, rfl, s⟩ := dv.liI h1
    exact .inl ⟨a, ns, rfl, st.bsub.seq s, en.ret (fun l z => by cases z) _ (.int _)⟩
def sortI (ns : List Int) : List Int := ns.mergeSort fun a b => decide (a ≤ b)
theorem sort_unique {ns ms : List Int} (h1 : ms.Perm ns) (h2 : ms.Pairwise (· ≤ ·)) : ms = sortI ns := by
  have p : (sortI ns).Perm ns := List.mergeSort_perm _ _
  have s : (sortI ns).Pairwise fun a b => decide (a ≤ b) = true := List.pairwise_mergeSort (le := fun a b : Int => decide (a ≤ b)) (fun a b c h1 h2 => by simp at *; omega) (fun a b => by simp; omega) ns
  refine List.Perm.eq_of_pairwise (le := fun a b => a ≤ b) (fun a b _ _ h3 h4 => by omega) h2 (s.imp fun h => of_decide_eq_true h) (h1.trans p.symm)
def sortedD : Cs → List D → Option D := fun _ ds => match ds with
  | [x] => (liI x).map fun ns => .lst ((sortI ns).map .int)
  | _ => none
theorem sem_sorted : SemA K (rSortedI K) sortedD := by
  intro ca F H σ e ws c ds vs d Q st dx hd en
  match ds, dx, hd with
  | [x], dx, hd =>
    obtain ⟨v, rfl, dv⟩ := dx.one
    simp only [sortedD, Option.map_eq_some_iff] at hd
    obtain ⟨ns, h1, rfl⟩ := hd
    obtain ⟨a, rfl, s⟩ := dv.liI h1
    refine ⟨a, ns, rfl, st.bsub.seq s, fun ms p hp hs hn => ?_⟩
    rw [sort_unique hp hs]
    exact en.newL _ rfl _ p (DdA.ints _) hn
/-- tuple(..), list(..) -/
def tupleD : Cs → List D → Option D := fun _ ds => match ds with
  | [.tup l] => some (.tup l)
  | [x] => x.li.map .tup
  | _ => none
theorem tupleD_cases {c : Cs} {ds : List D} {d : D} (h : tupleD c ds = some d) : (∃ l, ds = [.tup l] ∧ d = .tup l) ∨ ∃ x l, ds = [x] ∧ x.li = some l ∧ d = .tup l := by
  match ds, h with
  | [x], h =>
    cases x <;> first
      | (cases h; exact .inl ⟨_, rfl, rfl⟩)
      | (simp only [tupleD, Option.map_eq_some_iff] at h
         obtain ⟨l, h1, rfl⟩ := h
         exact .inr ⟨_, l, rfl, h1, rfl⟩)
  | a :: b :: r, h => cases a <;> cases h
theorem sem_tuple : SemA K (fun xs H Q => ∃ p ys, xs = [V.ref p] ∧ ((SqL K H p ys ∧ ∀ l, H l = none → Q (.ref l) (upd H l (.tup ys))) ∨ (SqT K H p ys ∧ Q (.ref p) H))) tupleD := by
  intro ca F H σ e ws c ds vs d Q st dx hd en
  rcases tupleD_cases hd with ⟨l, rfl, rfl⟩ | ⟨x, l, rfl, h1, rfl⟩
  · obtain ⟨v, rfl, dv⟩ := dx.one
    obtain ⟨a, xs, rfl, s1, d1⟩ := dv.tu rfl
    exact ⟨a, xs, rfl, .inr ⟨Same.tup st.bsub s1, en.ret (fun l z => by cases z) _ dv⟩⟩
  · obtain ⟨v, rfl, dv⟩ := dx.one
    obtain ⟨a, xs, rfl, s1, d1⟩ := dv.li h1
    exact ⟨a, xs, rfl, .inl ⟨st.bsub.seq s1, fun p hp => en.newT _ rfl _ p d1 hp⟩⟩
def listD : Cs → List D → Option D := fun _ ds => match ds with
  | [.tup l] => some (.lst l)
  | [x] => x.li.map .lst
  | _ => none
theorem listD_cases {c : Cs} {ds : List D} {d : D} (h : listD c ds = some d) : (∃ l, ds = [.tup l] ∧ d = .lst l) ∨ ∃ x l, ds = [x] ∧ x.li = some l ∧ d = .lst l := by
  match ds, h with
  | [x], h =>
    cases x <;> first
      | (cases h; exact .inl ⟨_, rfl, rfl⟩)
      | (simp only [listD, Option.map_eq_some_iff] at h
         obtain ⟨l, h1, rfl⟩ := h
         exact .inr ⟨_, l, rfl, h1, rfl⟩)
  | a :: b :: r, h => cases a <;> cases h
theorem sem_list : SemA K (fun xs H Q => ∃ p ys, xs = [V.ref p] ∧ (SqL K H p ys ∨ SqT K H p ys) ∧ ∀ l, H l = none → Q (.ref l) (upd H l (.lst ys))) listD := by
  intro ca F H σ e ws c ds vs d Q st dx hd en
  rcases listD_cases hd with ⟨l, rfl, rfl⟩ | ⟨x, l, rfl, h1, rfl⟩
  · obtain ⟨v, rfl, dv⟩ := dx.one
    obtain ⟨a, xs, rfl, s1, d1⟩ := dv.tu rfl
    exact ⟨a, xs, rfl, .inr (Same.tup st.bsub s1), fun p hp => en.newL _ rfl _ p d1 hp⟩
  · obtain ⟨v, rfl, dv⟩ := dx.one
    obtain ⟨a, xs, rfl, s1, d1⟩ := dv.li h1
    exact ⟨a, xs, rfl, .inl (st.bsub.seq s1), fun p hp => en.newL _ rfl _ p d1 hp⟩
end
end Dg

set_option Elab.async false
set_option linter.all false
set_option maxRecDepth 100000
set_option maxHeartbeats 4000000
namespace Dg
open PySem PySem.Spec PyProof.Rows L2
section
variable {K : PySem.W.Frag} {mg : Str → Option Value} {W : WX} {ca : List Addr} {F F' F'' H H' H'' : Hp} {σ σ' : L2.St} {e e' : En} {ws ws' ws'' : List Addr} {cs cs' : Cs}

/-! ### slots stored -/
theorem Sl.put : ∀ {σ : L2.St} {e : En} {ws : List Addr}, Sl K ca F H σ e ws → ∀ i : Nat, ∃ pre as post, ws = pre ++ as ++ post ∧
    ∀ (F' H' : Hp) (x : V) (t : T) (bs : List Addr), Same F F' → (∀ a ∈ pre ++ post, H' a = H a ∧ F' a = none) → Own K ca F' H' x t bs → ∃ vs, Sl K ca F' H' (σ.set i (some x)) (e.set i (some t)) vs ∧ vs.Sublist (pre ++ bs ++ post)
  | _, _, _, .nil => fun i => ⟨[], [], [], rfl, fun F' H' x t bs s k o => ⟨[], .nil, List.nil_sublist _⟩⟩
  | _, _, _, .no (ws := ws) h => fun i => by
    cases i with
    | zero => exact ⟨[], [], ws, rfl, fun F' H' x t bs s k o => ⟨bs ++ ws, .so o (Sl.fr s h fun a m => k a (by simpa using m)), by simp⟩⟩
    | succ i =>
      obtain ⟨pre, as, post, e, f⟩ := Sl.put h i
      exact ⟨pre, as, post, e, fun F' H' x t bs s k o => by
        obtain ⟨vs, h1, h2⟩ := f F' H' x t bs s k o
        exact ⟨vs, .no h1, h2⟩⟩
  | _, _, _, .so (t := t0) (as := as0) (ws := ws) h1 h2 => fun i => by
    cases i with
    | zero => exact ⟨[], as0, ws, rfl, fun F' H' x t bs s k o => ⟨bs ++ ws, .so o (Sl.fr s h2 fun a m => k a (by simpa using m)), by simp⟩⟩
    | succ i =>
      obtain ⟨pre, as, post, e, f⟩ := Sl.put h2 i
      refine ⟨as0 ++ pre, as, post, by rw [e]; simp, fun F' H' x t bs s k o => ?_⟩
      obtain ⟨vs, h3, h4⟩ := f F' H' x t bs s (fun a m => k a (by simp only [List.mem_append] at m ⊢; rcases m with m | m <;> simp [m])) o
      refine ⟨as0 ++ vs, .so (Own.fr s t0 _ as0 (fun a m => k a (by simp [m])) h1) h3, ?_⟩
      rw [List.append_assoc, List.append_assoc]
      exact (List.Sublist.refl as0).append (by simpa using h4)
theorem Sl.rep : ∀ {σ : L2.St} {e : En} {ws : List Addr}, Sl K ca F H σ e ws → ∀ (i : Nat) (t : T), e[i]? = some (some t) → ∃ x pre as post, σ[i]? = some (some x) ∧ ws = pre ++ as ++ post ∧ Own K ca F H x t as ∧
    ∀ (F' H' : Hp) (t' : T) (bs : List Addr), Same F F' → (∀ a ∈ pre ++ post, H' a = H a ∧ F' a = none) → Own K ca F' H' x t' bs → Sl K ca F' H' σ (e.set i (some t')) (pre ++ bs ++ post)
  | _, _, _, .nil => fun i t h => by simp at h
  | _, _, _, .no h => fun i t q => by
    cases i with
    | zero => simp at q
    | succ i =>
      obtain ⟨x, pre, as, post, h1, h2, h3, f⟩ := Sl.rep h i t (by simpa using q)
      exact ⟨x, pre, as, post, by simpa using h1, h2, h3, fun F' H' t' bs s k o => .no (f F' H' t' bs s k o)⟩
  | _, _, _, .so (x := x0) (t := t0) (as := as0) (ws := ws) h1 h2 => fun i t q => by
    cases i with
    | zero =>
      simp at q; subst q
      exact ⟨x0, [], as0, ws, rfl, rfl, h1, fun F' H' t' bs s k o => .so o (Sl.fr s h2 fun a m => k a (by simpa using m))⟩
    | succ i =>
      obtain ⟨x, pre, as, post, g1, g2, g3, f⟩ := Sl.rep h2 i t (by simpa using q)
      refine ⟨x, as0 ++ pre, as, post, by simpa using g1, by rw [g2]; simp, g3, fun F' H' t' bs s k o => ?_⟩
      have := f F' H' t' bs s (fun a m => k a (by simp only [List.mem_append] at m ⊢; rcases m with m | m <;> simp [m])) o
      rw [List.append_assoc, List.append_assoc]
      exact .so (Own.fr s t0 _ as0 (fun a m => k a (by simp [m])) h1) (by simpa using this)

/-! ### what a statement does -/
inductive Fl where
  | nx (e : En) | rt (t : T) | bk (e : En) | ct (e : En) | er (x : Str) (e : En)
abbrev MS := En → Cs → R Fl
structure NxS (ca : List Addr) (F H : Hp) (ws : List Addr) (F' H' : Hp) (ws' : List Addr) : Prop where
  f : Same F F'
  n : ∀ a, (F' a ≠ none ∨ a ∈ ws') → F a ≠ none ∨ a ∈ ws ∨ H a = none
  k : ∀ a o, a ∉ ca → a ∉ ws → H a = some o → H' a = some o
  th : ∀ a, H a ≠ none → H' a ≠ none
theorem NxS.refl : NxS ca F H ws F H ws := ⟨Same.refl F, fun a h => h.elim .inl fun z => .inr (.inl z), fun _ _ _ _ h => h, fun _ h => h⟩
theorem NxS.trans (x : NxS ca F H ws F' H' ws') (d : ∀ a ∈ ws', F' a = none) (y : NxS ca F' H' ws' F'' H'' ws'') : NxS ca F H ws F'' H'' ws'' := by
  refine ⟨x.f.trans y.f, fun a h => ?_, fun a o h1 h2 q => ?_, fun a h => y.th a (x.th a h)⟩
  · rcases y.n a h with z | z | z
    · exact x.n a (.inl z)
    · exact x.n a (.inr z)
    · refine .inr (.inr ?_)
      cases q : H a with
      | none => rfl
      | some o => exact absurd z (x.th a (by rw [q]; simp))
  · refine y.k a o h1 (fun z => ?_) (x.k a o h1 h2 q)
    rcases x.n a (.inr z) with w | w | w
    · cases g : F a with
      | none => exact w g
      | some u =>
        have g2 := x.f a u g
        rw [d a z] at g2; cases g2
    · exact h2 w
    · rw [q] at w; cases w
theorem Stt.dis (st : Stt K ca F H σ e ws cs) : ∀ a ∈ ws, F a = none := fun a m => (Sl.ok st.sl a m).1
theorem Nxt.toS (x : Nxt ca F H F' H') : NxS ca F H ws F' H' ws := ⟨x.f, fun a h => by
  rcases h with h | h
  · exact (x.n a h).elim .inl fun z => .inr (.inr z)
  · exact .inr (.inl h), fun a o h _ q => x.k a o h q, x.th⟩
def PoS (K : PySem.W.Frag) (mg : Str → Option Value) (W : WX) (ca : List Addr) (F H : Hp) (ws : List Addr) (Dn : Ends) : R Fl → Prop
  | .ok (.nx e') c => ∀ F' H' σ' ws', NxS ca F H ws F' H' ws' → Stt K ca F' H' σ' e' ws' c → Dn.nx σ' H'
  | .ok (.bk e') c => ∀ F' H' σ' ws', NxS ca F H ws F' H' ws' → Stt K ca F' H' σ' e' ws' c → Dn.bk σ' H'
  | .ok (.ct e') c => ∀ F' H' σ' ws', NxS ca F H ws F' H' ws' → Stt K ca F' H' σ' e' ws' c → Dn.ct σ' H'
  | .ok (.rt t) c => ∀ F' H' v as, NxS ca F H ws F' H' as → Same F' H' → Ce K ca F' H' c → Own K ca F' H' v t as → as.Nodup → Dn.rt v H'
  | .ok (.er x e') c => ∀ F' H' σ' ws', NxS ca F H ws F' H' ws' → Stt K ca F' H' σ' e' ws' c → Wn mg W x σ' H'
  | .err _ _ => False
  | .stuck => False
def rdS (K : PySem.W.Frag) (mg : Str → Option Value) (W : WX) (f : MS) : TS := fun Dn σ H => ∃ ca F e ws cs, Stt K ca F H σ e ws cs ∧ PoS K mg W ca F H ws Dn (f e cs)
theorem PoS.step {Dn : Ends} {r : R Fl} (h : PoS K mg W ca F H ws Dn r) (x : NxS ca F H ws F' H' ws') (d : ∀ a ∈ ws', F' a = none) : PoS K mg W ca F' H' ws' Dn r := by
  cases r with
  | ok f c =>
    cases f with
    | rt t => exact fun F2 H2 v as y => h F2 H2 v as (x.trans d y)
    | nx e => exact fun F2 H2 s2 w2 y => h F2 H2 s2 w2 (x.trans d y)
    | bk e => exact fun F2 H2 s2 w2 y => h F2 H2 s2 w2 (x.trans d y)
    | ct e => exact fun F2 H2 s2 w2 y => h F2 H2 s2 w2 (x.trans d y)
    | er z e => exact fun F2 H2 s2 w2 y => h F2 H2 s2 w2 (x.trans d y)
  | err z c => exact h
  | stuck => exact h
/-- an expression within a statement -/
@[simp] def R.toS {α : Type} (r : R α) (e : En) (k : α → Cs → R Fl) : R Fl := match r with
  | .ok a c => k a c
  | .err x c => .ok (.er x e) c
  | .stuck => .stuck
theorem toS_P {f : ME} {k : D → Cs → R Fl} {G : VK} {Dn : Ends} (st : Stt K ca F H σ e ws cs) (po : PoS K mg W ca F H ws Dn ((f e cs).toS e k))
    (h : ∀ x c1 F1 H1 v, Nxt ca F H F1 H1 → Stt K ca F1 H1 σ e ws c1 → Dd K ca (Bh F1 H1 ws) v x → PoS K mg W ca F1 H1 ws Dn (k x c1) → G v H1) : rdP K mg W f σ H G := by
  refine ⟨ca, F, e, ws, cs, st, ?_⟩
  cases q : f e cs with
  | ok x c1 =>
    rw [q] at po
    exact fun F1 H1 v nx ce dd => h x c1 F1 H1 v nx (st.nxt nx ce) dd (PoS.step (show PoS K mg W ca F H ws Dn (k x c1) from po) nx.toS (st.nxt nx ce).dis)
  | err x c1 =>
    rw [q] at po
    exact fun F1 H1 nx ce => (show PoS K mg W ca F H ws Dn (.ok (.er x e) c1) from po) F1 H1 σ ws nx.toS (st.nxt nx ce)
  | stuck =>
    rw [q] at po
    exact po.elim
theorem toS_T {f : En → Cs → R Bool} {k : Bool → Cs → R Fl} {G : Bool → Hp → Prop} {Dn : Ends} (st : Stt K ca F H σ e ws cs) (po : PoS K mg W ca F H ws Dn ((f e cs).toS e k))
    (h : ∀ x c1 F1 H1, Nxt ca F H F1 H1 → Stt K ca F1 H1 σ e ws c1 → PoS K mg W ca F1 H1 ws Dn (k x c1) → G x H1) : rdT K mg W f σ H G := by
  refine ⟨ca, F, e, ws, cs, st, ?_⟩
  cases q : f e cs with
  | ok x c1 =>
    rw [q] at po
    exact fun F1 H1 nx ce => h x c1 F1 H1 nx (st.nxt nx ce) (PoS.step (show PoS K mg W ca F H ws Dn (k x c1) from po) nx.toS (st.nxt nx ce).dis)
  | err x c1 =>
    rw [q] at po
    exact fun F1 H1 nx ce => (show PoS K mg W ca F H ws Dn (.ok (.er x e) c1) from po) F1 H1 σ ws nx.toS (st.nxt nx ce)
  | stuck =>
    rw [q] at po
    exact po.elim
/-- fresh lists: apart from what was owned, from the cells -/
structure Fresh (ca : List Addr) (ws as : List Addr) : Prop where
  w : ∀ a ∈ as, a ∉ ws
  c : ∀ a ∈ as, a ∉ ca
theorem Stt.fresh (st : Stt K ca F H σ e ws cs) {as : List Addr} (f : ∀ a ∈ as, H a = none) : Fresh ca ws as := by
  refine ⟨fun a m z => ?_, fun a m z => ?_⟩
  · obtain ⟨_, xs, h⟩ := Sl.ok st.sl a z
    rw [f a m] at h; cases h
  · obtain ⟨_, xs, h⟩ := st.ce.there z
    rw [f a m] at h; cases h
theorem toS_O {f : MO} {k : T → Cs → R Fl} {G : VK} {Dn : Ends} (st : Stt K ca F H σ e ws cs) (po : PoS K mg W ca F H ws Dn ((f e cs).toS e k))
    (h : ∀ x c1 F1 H1 v as, Nxt ca F H F1 H1 → Stt K ca F1 H1 σ e ws c1 → Own K ca F1 H1 v x as → as.Nodup → (∀ a ∈ as, H a = none) → Fresh ca ws as → PoS K mg W ca F H ws Dn (k x c1) → G v H1) : rdO K mg W f σ H G := by
  refine ⟨ca, F, e, ws, cs, st, ?_⟩
  cases q : f e cs with
  | ok x c1 =>
    rw [q] at po
    exact fun F1 H1 v as nx ce dd n fr => h x c1 F1 H1 v as nx (st.nxt nx ce) dd n fr (st.fresh fr) po
  | err x c1 =>
    rw [q] at po
    exact fun F1 H1 nx ce => (show PoS K mg W ca F H ws Dn (.ok (.er x e) c1) from po) F1 H1 σ ws nx.toS (st.nxt nx ce)
  | stuck =>
    rw [q] at po
    exact po.elim
theorem toS_OA {f : En → Cs → R (List T)} {k : List T → Cs → R Fl} {G : List V → Hp → Prop} {Dn : Ends} (st : Stt K ca F H σ e ws cs) (po : PoS K mg W ca F H ws Dn ((f e cs).toS e k))
    (h : ∀ x c1 F1 H1 v as, f e cs = .ok x c1 → Nxt ca F H F1 H1 → Stt K ca F1 H1 σ e ws c1 → OwnA K ca F1 H1 v x as → as.Nodup → (∀ a ∈ as, H a = none) → Fresh ca ws as → PoS K mg W ca F H ws Dn (k x c1) → G v H1) : rdOA K mg W f σ H G := by
  refine ⟨ca, F, e, ws, cs, st, ?_⟩
  cases q : f e cs with
  | ok x c1 =>
    rw [q] at po
    exact fun F1 H1 v as nx ce dd n fr => h x c1 F1 H1 v as q nx (st.nxt nx ce) dd n fr (st.fresh fr) po
  | err x c1 =>
    rw [q] at po
    exact fun F1 H1 nx ce => (show PoS K mg W ca F H ws Dn (.ok (.er x e) c1) from po) F1 H1 σ ws nx.toS (st.nxt nx ce)
  | stuck =>
    rw [q] at po
    exact po.elim
theorem nodup3 {pre as post bs : List Addr} (h : ((pre ++ as ++ post) ++ ca).Nodup) (hb : bs.Nodup) (f : ∀ a ∈ bs, a ∉ pre ++ post ∧ a ∉ ca) : ((pre ++ bs ++ post) ++ ca).Nodup := by
  simp only [List.nodup_append, List.mem_append] at h ⊢
  obtain ⟨⟨⟨h1, h2, h3⟩, h4, h5⟩, h6, h7⟩ := h
  refine ⟨⟨⟨h1, hb, fun a m b m2 z => ?_⟩, h4, fun a m b m2 z => ?_⟩, h6, fun a m b m2 z => ?_⟩
  · subst z; exact (f a m2).1 (by simp [m])
  · rcases m with m | m
    · exact h5 a (.inl m) b m2 z
    · subst z; exact (f a m).1 (by simp [m2])
  · rcases m with (m | m) | m
    · exact h7 a (.inl (.inl m)) b m2 z
    · subst z; exact (f a m).2 m2
    · exact h7 a (.inr m) b m2 z
/-- a value is stored in a slot -/
theorem Stt.put (st : Stt K ca F H σ e ws cs) (i : Nat) {x : V} {t : T} {as : List Addr} (o : Own K ca F H x t as) (n : as.Nodup) (fr : Fresh ca ws as) : ∃ vs, Stt K ca F H (σ.set i (some x)) (e.set i (some t)) vs cs ∧ ∀ a ∈ vs, a ∈ ws ∨ a ∈ as := by
  obtain ⟨pre, bs, post, e1, f⟩ := Sl.put st.sl i
  obtain ⟨vs, h1, h2⟩ := f F H x t as (Same.refl F) (fun a m => ⟨rfl, st.dis a (by rw [e1]; simp only [List.mem_append] at m ⊢; rcases m with m | m <;> simp [m])⟩) o
  have nd := st.nd
  rw [e1] at nd
  refine ⟨vs, ⟨st.same, h1, (nodup3 nd n fun a m => ⟨fun z => fr.w a m (by rw [e1]; simp only [List.mem_append] at z ⊢; rcases z with z | z <;> simp [z]), fr.c a m⟩).sublist (h2.append (List.Sublist.refl _)), st.ce⟩, fun a m => ?_⟩
  have := h2.subset m
  rw [e1]
  simp only [List.mem_append] at this ⊢
  rcases this with (z | z) | z <;> simp [z]
@[simp] def sSet (i : Nat) (f : MO) (e : En) (c : Cs) : R Fl := (f e c).toS e fun t c => .ok (.nx (e.set i (some t))) c
theorem rd_sSet {i : Nat} {f : MO} {Dn : Ends} (h : rdS K mg W (sSet i f) Dn σ H) : tAsg (rdO K mg W f) (gName i) Dn σ H := by
  obtain ⟨ca, F, e, ws, cs, st, po⟩ := h
  refine toS_O st po fun x c1 F1 H1 v as nx st1 dx n f1 fr po1 => ?_
  obtain ⟨vs, st2, hv⟩ := st1.put i dx n fr
  refine po1 F1 H1 _ vs ⟨nx.f, fun a h => ?_, fun a o h _ q => nx.k a o h q, nx.th⟩ st2
  rcases h with h | h
  · exact (nx.n a h).elim .inl fun z => .inr (.inr z)
  · exact (hv a h).elim (fun z => .inr (.inl z)) fun z => .inr (.inr (f1 a z))
theorem ds_set {X : Cx} {W : WX} {i : Nat} {x : Str} {f : MO} {a : Expr} {pos pos' : Pos} (hN : X.N.Nodup) (hi : X.N[i]? = some x) (hx : Loc X.env.scope x) (he : PE X a (rdO X.K X.mg W f)) (hs : swapsWith a (some (.Name x pos')) pos.line X.env = pure false := by rfl)
    (hf : X.fn x = true ∨ X.env.scope.names.lookup x = some .local := by first | exact .inl rfl | exact .inr rfl | assumption) : PS X (.Assign [.Name x pos'] a pos) (rdS X.K X.mg W (sSet i f)) := (ps_set hN hi hx he hs hf).imp fun _ _ _ q => rd_sSet q
/-- return -/
@[simp] def sRet (f : MO) (e : En) (c : Cs) : R Fl := (f e c).toS e fun t c => .ok (.rt t) c
theorem rd_sRet {f : MO} {Dn : Ends} (h : rdS K mg W (sRet f) Dn σ H) : tRet (rdO K mg W f) Dn σ H := by
  obtain ⟨ca, F, e, ws, cs, st, po⟩ := h
  refine toS_O st po fun x c1 F1 H1 v as nx st1 dx n f1 fr po1 => ?_
  refine po1 F1 H1 v as ⟨nx.f, fun a h => ?_, fun a o h _ q => nx.k a o h q, nx.th⟩ st1.same st1.ce dx n
  rcases h with h | h
  · exact (nx.n a h).elim .inl fun z => .inr (.inr z)
  · exact .inr (.inr (f1 a h))
theorem ds_ret {X : Cx} {W : WX} {f : MO} {a : Expr} {pos : Pos} (he : PE X a (rdO X.K X.mg W f)) : PS X (.Return (some a) pos) (rdS X.K X.mg W (sRet f)) := (ps_ret he).imp fun _ _ _ q => rd_sRet q
/-- return x, x a slot: it is moved -/
@[simp] def sRetV (i : Nat) (e : En) (c : Cs) : R Fl := match e[i]? with
  | some (some t) => .ok (.rt t) c
  | _ => .stuck
theorem rd_sRetV {i : Nat} {Dn : Ends} (h : rdS K mg W (sRetV i) Dn σ H) : tRet (tVar i) Dn σ H := by
  obtain ⟨ca, F, e, ws, cs, st, po⟩ := h
  unfold sRetV at po
  cases q : e[i]? with
  | none => rw [q] at po; exact po.elim
  | some o =>
    cases o with
    | none => rw [q] at po; exact po.elim
    | some t =>
      rw [q] at po
      obtain ⟨x, pre, as, post, h1, h2, h3, _⟩ := Sl.rep st.sl i t q
      refine ⟨x, h1, po F H x as ⟨Same.refl F, fun a h => ?_, fun a o h _ q => q, fun a h => h⟩ st.same st.ce h3 ?_⟩
      · rcases h with h | h
        · exact .inl h
        · exact .inr (.inl (by rw [h2]; simp [h]))
      · have := st.nd
        rw [h2] at this
        simp only [List.nodup_append] at this
        exact this.1.1.2.1
theorem ds_retV {X : Cx} {W : WX} (i : Nat) {x : Str} {p pos : Pos} (h : PE X (.Name x p) (tVar i)) : PS X (.Return (some (.Name x p)) pos) (rdS X.K X.mg W (sRetV i)) := (ps_ret h).imp fun _ _ _ q => rd_sRetV q
/-! ### blocks -/
@[simp] def sNil (e : En) (c : Cs) : R Fl := .ok (.nx e) c
@[simp] def sSeq (f g : MS) (e : En) (c : Cs) : R Fl := match f e c with
  | .ok (.nx e') c' => g e' c'
  | r => r
theorem rd_sSeq {f g : MS} {Dn : Ends} (h : rdS K mg W (sSeq f g) Dn σ H) : tSeq (rdS K mg W f) (rdS K mg W g) Dn σ H := by
  obtain ⟨ca, F, e, ws, cs, st, po⟩ := h
  refine ⟨ca, F, e, ws, cs, st, ?_⟩
  unfold sSeq at po
  cases q : f e cs with
  | ok fl c =>
    rw [q] at po
    cases fl with
    | nx e' => exact fun F' H' σ' ws' x st' => ⟨ca, F', e', ws', c, st', PoS.step po x st'.dis⟩
    | rt t => exact po
    | bk e' => exact po
    | ct e' => exact po
    | er z e' => exact po
  | err z c => rw [q] at po; exact po.elim
  | stuck => rw [q] at po; exact po.elim
theorem rd_sNil {Dn : Ends} (h : rdS K mg W sNil Dn σ H) : tNext Dn σ H := by
  obtain ⟨ca, F, e, ws, cs, st, po⟩ := h
  exact po F H σ ws NxS.refl st
theorem dss_nil {X : Cx} {W : WX} : PSs X [] (rdS X.K X.mg W sNil) := pss_nil.imp fun _ _ _ q => rd_sNil q
theorem dss_cons {X : Cx} {W : WX} {f g : MS} {st : Stmt} {rest : List Stmt} (h1 : PS X st (rdS X.K X.mg W f)) (h2 : PSs X rest (rdS X.K X.mg W g)) : PSs X (st :: rest) (rdS X.K X.mg W (sSeq f g)) := (pss_cons h1 h2).imp fun _ _ _ q => rd_sSeq q
theorem dss_one {X : Cx} {W : WX} {f : MS} {st : Stmt} (h1 : PS X st (rdS X.K X.mg W f)) : PSs X [st] (rdS X.K X.mg W f) := pss_one h1
@[simp] def sBrk (e : En) (c : Cs) : R Fl := .ok (.bk e) c
@[simp] def sCnt (e : En) (c : Cs) : R Fl := .ok (.ct e) c
theorem ds_brk {X : Cx} {W : WX} {pos : Pos} : PS X (.Break pos) (rdS X.K X.mg W sBrk) := ps_break.imp fun Dn σ H h => by
  obtain ⟨ca, F, e, ws, cs, st, po⟩ := h
  exact po F H σ ws NxS.refl st
theorem ds_cnt {X : Cx} {W : WX} {pos : Pos} : PS X (.Continue pos) (rdS X.K X.mg W sCnt) := ps_continue.imp fun Dn σ H h => by
  obtain ⟨ca, F, e, ws, cs, st, po⟩ := h
  exact po F H σ ws NxS.refl st
theorem ds_pass {X : Cx} {W : WX} {pos : Pos} : PS X (.Pass pos) (rdS X.K X.mg W sNil) := ps_pass.imp fun _ _ _ q => rd_sNil q
theorem ds_doc {X : Cx} {W : WX} {x : Str} {j : Nat} {pos pos' : Pos} : PS X (.Expr (.Constant (.str x) j pos) pos') (rdS X.K X.mg W sNil) := ps_doc.imp fun _ _ _ q => rd_sNil q
@[simp] def sRetN (e : En) (c : Cs) : R Fl := .ok (.rt (.v .non)) c
theorem ds_retN {X : Cx} {W : WX} {pos : Pos} : PS X (.Return none pos) (rdS X.K X.mg W sRetN) := ps_retN.imp fun Dn σ H h => by
  obtain ⟨ca, F, e, ws, cs, st, po⟩ := h
  exact po F H .non [] ⟨Same.refl F, fun a h => h.elim .inl fun z => (by cases z), fun _ _ _ _ q => q, fun _ h => h⟩ st.same st.ce (.v .non) List.nodup_nil
/-- an expression whose value is dropped -/
@[simp] def sDrop (f : ME) (e : En) (c : Cs) : R Fl := (f e c).toS e fun _ c => .ok (.nx e) c
theorem ds_drop {X : Cx} {W : WX} {f : ME} {a : Expr} {pos : Pos} (h : PE X a (rdP X.K X.mg W f)) (hs : swapsWith a none pos.line X.env = pure false := by rfl) : PS X (.Expr a pos) (rdS X.K X.mg W (sDrop f)) := (ps_expr h hs).imp fun Dn σ H h => by
  obtain ⟨ca, F, e, ws, cs, st, po⟩ := h
  exact toS_P st po fun x c1 F1 H1 v nx st1 dx po1 => po1 F1 H1 σ ws NxS.refl st1
/-! ### if -/
@[simp] def sIf (t : En → Cs → R Bool) (f g : MS) (e : En) (c : Cs) : R Fl := (t e c).toS e fun b c => if b = true then f e c else g e c
theorem ds_if {X : Cx} {W : WX} {t : En → Cs → R Bool} {f g : MS} {c : Expr} {a b : List Stmt} {pos : Pos} (hc : PT X c (rdT X.K X.mg W t)) (ha : PSs X a (rdS X.K X.mg W f)) (hb : PSs X b (rdS X.K X.mg W g)) : PS X (.If c a b pos) (rdS X.K X.mg W (sIf t f g)) :=
  (ps_if hc ha hb).imp fun Dn σ H h => by
    obtain ⟨ca, F, e, ws, cs, st, po⟩ := h
    refine toS_T st po fun x c1 F1 H1 nx st1 po1 => ?_
    cases x with
    | true => exact ⟨ca, F1, e, ws, c1, st1, po1⟩
    | false => exact ⟨ca, F1, e, ws, c1, st1, po1⟩
/-! ### while -/
def whileN (t : En → Cs → R Bool) (body : MS) : Nat → MS
  | 0, _, _ => .stuck
  | n + 1, e, c => (t e c).toS e fun b c => if b = true then (match body e c with
      | .ok (.nx e2) c2 => whileN t body n e2 c2
      | .ok (.ct e2) c2 => whileN t body n e2 c2
      | .ok (.bk e2) c2 => .ok (.nx e2) c2
      | r => r) else .ok (.nx e) c
open Classical in
noncomputable def sWhile (t : En → Cs → R Bool) (body : MS) : MS := fun e c => if h : ∃ n, whileN t body n e c ≠ .stuck then whileN t body (Classical.choose h) e c else .stuck
theorem whileN_mono {t : En → Cs → R Bool} {body : MS} : ∀ {n m : Nat} {e : En} {c : Cs}, n ≤ m → whileN t body n e c ≠ .stuck → whileN t body m e c = whileN t body n e c
  | 0, m, e, c, _, h => (h rfl).elim
  | n + 1, 0, e, c, l, h => by omega
  | n + 1, m + 1, e, c, l, h => by
    unfold whileN at h ⊢
    cases q : t e c with
    | ok b c1 =>
      rw [q] at h
      cases b with
      | true =>
        simp only [R.toS, if_true] at h ⊢
        cases q2 : body e c1 with
        | ok fl c2 =>
          rw [q2] at h
          cases fl with
          | nx e2 => exact whileN_mono (by omega) h
          | ct e2 => exact whileN_mono (by omega) h
          | _ => rfl
        | _ => rfl
      | false => rfl
    | err x c1 => rfl
    | stuck => rfl
theorem sWhile_eq {t : En → Cs → R Bool} {body : MS} {n : Nat} {e : En} {c : Cs} {r : R Fl} (h : whileN t body n e c = r) (hr : r ≠ .stuck) : sWhile t body e c = r := by
  have hx : ∃ n, whileN t body n e c ≠ .stuck := ⟨n, by rw [h]; exact hr⟩
  unfold sWhile
  rw [dif_pos hx]
  have hc := Classical.choose_spec hx
  rcases Nat.le_total n (Classical.choose hx) with l | l
  · rw [whileN_mono l (by rw [h]; exact hr), h]
  · rw [← whileN_mono l hc, h]
theorem sWhile_some {t : En → Cs → R Bool} {body : MS} {e : En} {c : Cs} (h : sWhile t body e c ≠ .stuck) : ∃ n, whileN t body n e c = sWhile t body e c := by
  unfold sWhile at h ⊢
  split at h
  · rename_i hx
    rw [dif_pos hx]
    exact ⟨_, rfl⟩
  · exact absurd rfl h
theorem PoS.nst {Dn : Ends} {r : R Fl} (h : PoS K mg W ca F H ws Dn r) : r ≠ .stuck := fun z => by subst z; exact h
theorem ds_while {X : Cx} {W : WX} {t : En → Cs → R Bool} {body : MS} {c : Expr} {b : List Stmt} {pos : Pos} (hp : PassesOwn (model X.prog X.w) X.A X.env X.xe) (hc : PT X c (rdT X.K X.mg W t)) (hb : PSs X b (rdS X.K X.mg W body)) :
    PS X (.While c b [] pos) (rdS X.K X.mg W (sWhile t body)) := (ps_while hp hc hb).imp fun Dn σ H h => by
  obtain ⟨ca, F, e, ws, cs, st, po⟩ := h
  obtain ⟨n, hn⟩ := sWhile_some po.nst
  rw [← hn] at po
  refine ⟨fun m σ H => ∃ F e ws cs, Stt X.K ca F H σ e ws cs ∧ PoS X.K X.mg W ca F H ws Dn (whileN t body m e cs), ⟨n, F, e, ws, cs, st, po⟩, ?_⟩
  rintro m σ H ⟨F, e, ws, cs, st, po⟩
  cases m with
  | zero => exact po.elim
  | succ m =>
    unfold whileN at po
    refine toS_T st po fun x c1 F1 H1 nx st1 po1 => ?_
    cases x with
    | false => exact po1 F1 H1 σ ws NxS.refl st1
    | true =>
      rw [if_pos rfl] at po1 ⊢
      refine ⟨fun σ' H' => ∃ F e ws cs, Stt X.K ca F H' σ' e ws cs ∧ PoS X.K X.mg W ca F H' ws Dn (whileN t body m e cs), fun σ' H' w => ⟨m, by omega, w⟩, ca, F1, e, ws, c1, st1, ?_⟩
      cases q : body e c1 with
      | ok fl c2 =>
        rw [q] at po1
        cases fl with
        | nx e2 => exact fun F' H' σ' ws' x st' => ⟨F', e2, ws', c2, st', PoS.step po1 x st'.dis⟩
        | ct e2 => exact fun F' H' σ' ws' x st' => ⟨F', e2, ws', c2, st', PoS.step po1 x st'.dis⟩
        | bk e2 => exact po1
        | rt v => exact po1
        | er z e2 => exact po1
      | err z c2 => rw [q] at po1; exact po1.elim
      | stuck => rw [q] at po1; exact po1.elim
end
end Dg

set_option Elab.async false
set_option linter.all false
set_option maxRecDepth 100000
set_option maxHeartbeats 4000000
namespace Dg
open PySem PySem.Spec PyProof.Rows L2
section
variable {K : PySem.W.Frag} {mg : Str → Option Value} {W : WX} {ca : List Addr} {F F' F'' H H' H'' : Hp} {σ σ' : L2.St} {e e' : En} {ws ws' ws'' : List Addr} {cs cs' : Cs}

/-! ### own lists changed -/
/-- the list of a slot changes its things: what is behind it -/
theorem Stt.change (st : Stt K ca F H σ e ws cs) {i : Nat} {ts : List T} (q : e[i]? = some (some (.ol ts))) : ∃ l xs as, σ[i]? = some (some (.ref l)) ∧ H l = some (.lst xs) ∧ F l = none ∧ OwnA K ca F H xs ts as ∧ as.Nodup ∧ (∀ a ∈ as, a ∈ ws) ∧
    ∀ {ys : List V} {us : List T} {bs bw : List Addr} , OwnA K ca F H ys us bs → bs.Nodup → (∀ a ∈ bs, a ∈ as ∨ a ∈ bw) → Fresh ca ws bw →
      ∃ vs, Stt K ca F (upd H l (.lst ys)) σ (e.set i (some (.ol us))) vs cs ∧ (∀ a ∈ vs, a ∈ ws ∨ a ∈ bw) := by
  obtain ⟨x, pre, as0, post, h1, h2, h3, f⟩ := Sl.rep st.sl i _ q
  cases h3 with
  | l g1 g2 g3 =>
    rename_i l xs as
    have nd := st.nd
    rw [h2] at nd
    have hl : l ∈ ws := by rw [h2]; simp
    have lca : l ∉ ca := fun z => (List.nodup_append.mp st.nd).2.2 l hl l z rfl
    simp only [List.nodup_append, List.nodup_cons, List.mem_append, List.mem_cons] at nd
    obtain ⟨⟨⟨n1, ⟨n2, n3⟩, n4⟩, n5, n6⟩, n7, n8⟩ := nd
    refine ⟨l, xs, as, h1, g2, g1, g3, n3, fun a m => by rw [h2]; simp [m], fun {ys us bs bw} o n sub fr => ?_⟩
    have lpp : l ∉ pre ++ post := fun z => by
      rcases List.mem_append.mp z with z | z
      · exact n4 l z l (.inl rfl) rfl
      · exact n6 l (.inr (.inl rfl)) l z rfl
    have lbs : l ∉ bs := fun z => by
      rcases sub l z with z | z
      · exact n2 z
      · exact fr.w l z hl
    have o2 : OwnA K ca F (upd H l (.lst ys)) ys us bs := OwnA.fr (Same.refl F) _ _ _ (fun a m => ⟨upd_ne fun z => lbs (by rw [← z]; exact m), (OwnA.ok _ _ _ o a m).1⟩) o
    refine ⟨pre ++ (l :: bs) ++ post, ⟨fun a u z => ?_, f F (upd H l (.lst ys)) (.ol us) (l :: bs) (Same.refl F) (fun a m => ⟨upd_ne fun z => lpp (by rw [← z]; exact m), st.dis a (by rw [h2]; simp only [List.mem_append] at m ⊢; rcases m with m | m <;> simp [m])⟩) (.l g1 upd_same o2), ?_, ?_⟩, fun a m => ?_⟩
    · have w := st.same a u z
      by_cases al : a = l
      · subst al; rw [g1] at z; cases z
      · rw [upd_ne al]; exact w
    · refine nodup3 (as := l :: as) (by have := st.nd; rw [h2] at this; exact this) (List.nodup_cons.mpr ⟨lbs, n⟩) fun a m => ?_
      rcases List.mem_cons.mp m with rfl | m
      · exact ⟨lpp, lca⟩
      · rcases sub a m with z | z
        · refine ⟨fun w => ?_, fun w => n8 a (.inl (.inr (.inr z))) a w rfl⟩
          rcases List.mem_append.mp w with w | w
          · exact n4 a w a (.inr z) rfl
          · exact n6 a (.inr (.inr z)) a w rfl
        · exact ⟨fun w => fr.w a z (by rw [h2]; simp only [List.mem_append] at w ⊢; rcases w with w | w <;> simp [w]), fr.c a z⟩
    · refine ⟨st.ce.1, fun n a ds c1 c2 => ?_⟩
      obtain ⟨k1, zs, k2, k3, k4⟩ := st.ce.2 n a ds c1 c2
      have al : a ≠ l := fun z => lca (by rw [← z]; exact List.mem_of_getElem? c1)
      exact ⟨k1, zs, by rw [upd_ne al]; exact k2, k3, k4⟩
    · simp only [List.mem_append, List.mem_cons] at m
      rcases m with (m | m | m) | m
      · exact .inl (by rw [h2]; simp [m])
      · exact .inl (by rw [m]; exact hl)
      · rcases sub a m with z | z
        · exact .inl (by rw [h2]; simp [z])
        · exact .inr z
      · exact .inl (by rw [h2]; simp [m])

theorem NxS.change {l : Addr} {o : HO} {vs bw : List Addr} (hl : l ∈ ws) (hv : ∀ a ∈ vs, a ∈ ws ∨ a ∈ bw) (fb : ∀ a ∈ bw, H' a = none) (x : Nxt ca F' H' F H) : NxS ca F' H' ws F (upd H l o) vs :=
  ⟨x.f, fun a h => by
    rcases h with h | h
    · exact (x.n a h).elim .inl fun z => .inr (.inr z)
    · exact (hv a h).elim (fun z => .inr (.inl z)) fun z => .inr (.inr (fb a z)), fun a u h1 h2 q => by
    rw [upd_ne fun z => h2 (by rw [z]; exact hl)]; exact x.k a u h1 q, fun a h => by
    by_cases m : a = l
    · rw [m, upd_same]; simp
    · rw [upd_ne m]; exact x.th a h⟩
@[simp] def sApp (i : Nat) (f : MO) (e : En) (c : Cs) : R Fl := match e[i]? with
  | some (some (.ol ts)) => (f e c).toS e fun t c => if ts.length < LIM then .ok (.nx (e.set i (some (.ol (ts ++ [t]))))) c else .stuck
  | _ => .stuck
theorem own_one {x : V} {t : T} {as : List Addr} (h : Own K ca F H x t as) : OwnA K ca F H [x] [t] as := by
  have := OwnA.cons h (OwnA.nil (K := K) (ca := ca) (F := F) (H := H))
  rwa [List.append_nil] at this
theorem rd_sApp {i : Nat} {f : MO} {Dn : Ends} (h : rdS K mg W (sApp i f) Dn σ H) : tDrop (tBM K "list" rAppend (tVar i) (tCons (rdO K mg W f) tNil)) Dn σ H := by
  obtain ⟨ca, F, e, ws, cs, st, po⟩ := h
  unfold sApp at po
  cases q : e[i]? with
  | none => rw [q] at po; exact po.elim
  | some o =>
    cases o with
    | none => rw [q] at po; exact po.elim
    | some t =>
      cases t with
      | v d => rw [q] at po; exact po.elim
      | ot d => rw [q] at po; exact po.elim
      | ol ts =>
        rw [q] at po
        obtain ⟨l, xs, as, h1, h2, _, _, _⟩ := st.change q
        refine ⟨.ref l, h1, .inl ⟨rfl, xs, SqL.of h2⟩, ?_⟩
        refine toS_O st po fun t c1 F1 H1 v bs nx st1 dx n f1 fr po1 => ?_
        obtain ⟨l', xs', as', g1, g2, g3, g4, gn, gw, g5⟩ := st1.change q
        have el : l' = l := by rw [h1] at g1; cases g1; rfl
        subst el
        split at po1
        · rename_i hlim
          refine ⟨l', xs', v, rfl, rfl, g2, by rw [OwnA.length g4]; exact lim_line' hlim, ?_⟩
          obtain ⟨vs, st2, hv⟩ := g5 (bw := bs) (g4.app (own_one dx)) (List.nodup_append.mpr ⟨gn, n, fun a m b m2 z => fr.w b m2 (by rw [← z]; exact gw a m)⟩) (fun a m => (List.mem_append.mp m)) fr
          have hl : l' ∈ ws := by
            obtain ⟨x, pre, as0, post, k1, k2, k3, _⟩ := Sl.rep st.sl i _ q
            cases k3 with
            | l k4 k5 k6 => rw [h1] at k1; cases k1; rw [k2]; simp
          exact po1 F1 _ σ vs (NxS.change hl hv f1 nx) st2
        · exact po1.elim
theorem ds_app {X : Cx} {W : WX} {f : MO} {a : Expr} {x : Str} {p ap cp pos : Pos} (i : Nat) (hv : PE X (.Name x p) (tVar i)) (ha : PE X a (rdO X.K X.mg W f))
    (hs1 : starEach [a] X.env = (false, eval a X.env) :: starEach [] X.env := by rfl)
    (hbase : attributeBase (.Name x p) "append" X.env (eval (.Name x p) X.env) = eval (.Name x p) X.env := by rfl)
    (hfew : ((backTo cp (starEach [a] X.env)).all (fun x => !x.1) && (backToKw cp (keywordEach [] X.env)).all (fun x => x.1.isSome) && decide ([a].length + ([] : List Keyword).length + (if ([] : List Keyword).isEmpty then 0 else 1) < 30)) = true := by rfl)
    (hline : (ap.endLine == cp.line) = true := by rfl) (hplain : (backTo cp (starEach [] X.env)).any (·.1) = false := by rfl)
    (hsw : swapsWith (.Call (.Attribute (.Name x p) "append" ap) [a] [] cp) none pos.line X.env = pure false := by rfl) :
    PS X (.Expr (.Call (.Attribute (.Name x p) "append" ap) [a] [] cp) pos) (rdS X.K X.mg W (sApp i f)) :=
  (ps_expr (pe_bm PySem.F.plainAttrs_list PySem.F.slot_list_append PySem.F.type_list_append mt_append hv (pa_cons ha pa_nil hs1) hbase hfew hline hs1 hplain) hsw).imp fun _ _ _ q => rd_sApp q
/-! ### x[k] = e -/
theorem OwnA.set : ∀ {xs : List V} {ts : List T} {as : List Addr} (j : Nat) {x : V} {t : T} {bs : List Addr}, OwnA K ca F H xs ts as → Own K ca F H x t bs → ∃ ds, OwnA K ca F H (xs.set j x) (ts.set j t) ds ∧ (∀ a ∈ ds, a ∈ as ∨ a ∈ bs) ∧
    (as.Nodup → bs.Nodup → (∀ a ∈ bs, a ∉ as) → ds.Nodup)
  | _, _, _, j, _, _, _, .nil, _ => ⟨[], .nil, fun a m => (by cases m), fun _ _ _ => List.nodup_nil⟩
  | _, _, _, 0, _, _, bs, .cons (bs := r) h1 h2, o => ⟨bs ++ r, .cons o h2, fun a m => by
      rcases List.mem_append.mp m with m | m
      · exact .inr m
      · exact .inl (List.mem_append_right _ m), fun n1 n2 d => List.nodup_append.mpr ⟨n2, (List.nodup_append.mp n1).2.1, fun a m b m2 z => d a m (List.mem_append_right _ (by rw [z]; exact m2))⟩⟩
  | _, _, _, j + 1, _, _, bs, .cons (as := a0) (bs := r) h1 h2, o => by
    obtain ⟨ds, h3, h4, h5⟩ := OwnA.set j h2 o
    refine ⟨a0 ++ ds, .cons h1 h3, fun a m => ?_, fun n1 n2 d => ?_⟩
    · rcases List.mem_append.mp m with m | m
      · exact .inl (List.mem_append_left _ m)
      · exact (h4 a m).elim (fun z => .inl (List.mem_append_right _ z)) .inr
    · obtain ⟨m1, m2, m3⟩ := List.nodup_append.mp n1
      refine List.nodup_append.mpr ⟨m1, h5 m2 n2 fun a m z => d a m (List.mem_append_right _ z), fun a m b mb z => ?_⟩
      subst z
      rcases h4 a mb with w | w
      · exact m3 a m a w rfl
      · exact d a w (List.mem_append_left _ m)
theorem DdA.set : ∀ {xs : List V} {ds : List D} (j : Nat) {x : V} {d : D}, DdA K ca F xs ds → Dd K ca F x d → DdA K ca F (xs.set j x) (ds.set j d)
  | _, _, _, _, _, .nil, _ => .nil
  | _, _, 0, _, _, .cons h1 h2, o => .cons o h2
  | _, _, j + 1, _, _, .cons h1 h2, o => .cons h1 (DdA.set j h2 o)
theorem flatA_set : ∀ {ds : List D} (j : Nat) {d : D}, D.flatA ds = true → d.flat = true → D.flatA (ds.set j d) = true
  | [], _, _, h, _ => h
  | _ :: _, 0, _, h, h2 => by simp only [List.set, D.flatA, Bool.and_eq_true] at h ⊢; exact ⟨h2, h.2⟩
  | _ :: _, j + 1, _, h, h2 => by simp only [List.set, D.flatA, Bool.and_eq_true] at h ⊢; exact ⟨h.1, flatA_set j h.2 h2⟩
theorem toS_Pf {f : ME} {k : D → Cs → R Fl} {G : VK} {Dn : Ends} {F0 H0 : Hp} {ws0 : List Addr} (b : NxS ca F0 H0 ws0 F H ws) (st : Stt K ca F H σ e ws cs) (po : PoS K mg W ca F0 H0 ws0 Dn ((f e cs).toS e k))
    (h : ∀ x c1 F1 H1 v, Nxt ca F H F1 H1 → Stt K ca F1 H1 σ e ws c1 → Dd K ca (Bh F1 H1 ws) v x → PoS K mg W ca F0 H0 ws0 Dn (k x c1) → G v H1) : rdP K mg W f σ H G := by
  refine ⟨ca, F, e, ws, cs, st, ?_⟩
  cases q : f e cs with
  | ok x c1 =>
    rw [q] at po
    exact fun F1 H1 v nx ce dd => h x c1 F1 H1 v nx (st.nxt nx ce) dd po
  | err x c1 =>
    rw [q] at po
    exact fun F1 H1 nx ce => (show PoS K mg W ca F0 H0 ws0 Dn (.ok (.er x e) c1) from po) F1 H1 σ ws (b.trans st.dis nx.toS) (st.nxt nx ce)
  | stuck =>
    rw [q] at po
    exact po.elim
/-- a cell's list is written -/
theorem Stt.cellSet (st : Stt K ca F H σ e ws cs) {n j : Nat} {a : Addr} {xs : List V} {ds : List D} {v : V} {d : D} (h1 : ca[n]? = some a) (h2 : cs[n]? = some ds) (h3 : H a = some (.lst xs)) (h4 : DdA K ca F xs ds) (h5 : D.flatA ds = true) (dv : Dd K ca F v d) (fd : d.flat = true) :
    Stt K ca F (upd H a (.lst (xs.set j v))) σ e ws (cs.set n (ds.set j d)) := by
  have hca : a ∈ ca := List.mem_of_getElem? h1
  have fa : F a = none := (st.ce.there hca).1
  have nw : ∀ b ∈ ws, b ≠ a := fun b m z => (List.nodup_append.mp st.nd).2.2 b m a hca z
  refine ⟨fun b u z => ?_, Sl.fr (Same.refl F) st.sl fun b m => ⟨upd_ne (nw b m), st.dis b m⟩, st.nd, ⟨by rw [List.length_set]; exact st.ce.1, fun m b es c1 c2 => ?_⟩⟩
  · have := st.same b u z
    by_cases hb : b = a
    · subst hb; rw [fa] at z; cases z
    · rw [upd_ne hb]; exact this
  · by_cases hm : m = n
    · subst hm
      rw [h1] at c1; cases c1
      have hl : m < cs.length := (List.getElem?_eq_some_iff.mp h2).1
      rw [List.getElem?_set_self hl] at c2
      cases c2
      exact ⟨fa, _, upd_same, DdA.set j h4 dv, flatA_set j h5 fd⟩
    · rw [List.getElem?_set_ne (Ne.symm hm)] at c2
      obtain ⟨k1, zs, k2, k3, k4⟩ := st.ce.2 m b es c1 c2
      have hb : b ≠ a := fun z => by
        subst z
        exact hm (nd_ix (List.nodup_append.mp st.nd).2.1 c1 h1)
      exact ⟨k1, zs, by rw [upd_ne hb]; exact k2, k3, k4⟩
@[simp] def sSto (i : Nat) (fk : ME) (f : MO) (e : En) (c : Cs) : R Fl := (f e c).toS e fun t c => match e[i]? with
  | some (some (.ol ts)) => (fk e c).toS e fun k c => (match k with
    | .int k => (match ixN ts.length k with
      | some j => .ok (.nx (e.set i (some (.ol (ts.set j t))))) c
      | none => .stuck)
    | _ => .stuck)
  | some (some (.v (.cell n))) => (match t with
    | .v d => if d.flat = true then (fk e c).toS e fun k c => (match k, c[n]? with
      | .int k, some ds => (match ixN ds.length k with
        | some j => .ok (.nx e) (c.set n (ds.set j d))
        | none => .stuck)
      | _, _ => .stuck) else .stuck
    | _ => .stuck)
  | _ => .stuck
theorem rd_sSto {i : Nat} {fk : ME} {f : MO} {Dn : Ends} (h : rdS K mg W (sSto i fk f) Dn σ H) : tAsg (rdO K mg W f) (gSub (tVar i) (rdP K mg W fk) rSetL) Dn σ H := by
  obtain ⟨ca, F, e, ws, cs, st, po⟩ := h
  refine toS_O st po fun t c1 F1 H1 v bs nx st1 dx n f1 fr po1 => ?_
  cases q : e[i]? with
  | none => rw [q] at po1; exact po1.elim
  | some o =>
    cases o with
    | none => rw [q] at po1; exact po1.elim
    | some t0 =>
      cases t0 with
      | ot _ => rw [q] at po1; exact po1.elim
      | ol ts =>
        rw [q] at po1
        obtain ⟨l, xs, as, h1, h2, _, _, _⟩ := st1.change q
        refine ⟨.ref l, h1, toS_Pf nx.toS st1 po1 fun k c2 F2 H2 u nx2 st2 dk po2 => ?_⟩
        cases k with
        | int k =>
          cases dk
          simp only at po2
          cases qj : ixN ts.length k with
          | none => rw [qj] at po2; exact po2.elim
          | some j =>
            rw [qj] at po2
            obtain ⟨l', xs', as', g1, g2, g3, g4, gn, gw, g5⟩ := st2.change q
            have el : l' = l := by rw [h1] at g1; cases g1; rfl
            subst el
            refine ⟨l', xs', k, j, rfl, rfl, g2, by rw [OwnA.length g4]; exact qj, ?_⟩
            have kk := keepO st.ce f1 (Own.ok _ _ _ dx) nx2
            obtain ⟨ds, o1, o2, o3⟩ := OwnA.set j g4 (Own.fr nx2.f _ _ _ kk dx)
            obtain ⟨vs, st3, hv⟩ := g5 (bw := bs) o1 (o3 gn n fun a m z => fr.w a m (gw a z)) o2 fr
            have hl : l' ∈ ws := by
              obtain ⟨x, pre, as0, post, k1, k2, k3, _⟩ := Sl.rep st2.sl i _ q
              cases k3 with
              | l k4 k5 k6 => rw [h1] at k1; cases k1; rw [k2]; simp
            exact po2 F2 _ σ vs (NxS.change hl hv f1 (nx.trans nx2)) st3
        | _ => exact po2.elim
      | v d0 =>
        cases d0 with
        | cell n0 =>
          rw [q] at po1
          cases t with
          | v d =>
            by_cases fd : d.flat = true
            · simp only [fd, if_true] at po1
              cases dx with
              | v dx =>
                obtain ⟨x, as, h1, h2, h3⟩ := Sl.get st1.sl q
                cases h2 with
                | v h2 =>
                  cases h2 with
                  | cell hc =>
                    rename_i a
                    refine ⟨.ref a, h1, toS_Pf nx.toS st1 po1 fun k c2 F2 H2 u nx2 st2 dk po2 => ?_⟩
                    cases k with
                    | int k =>
                      cases dk
                      cases qd : c2[n0]? with
                      | none => rw [qd] at po2; exact po2.elim
                      | some ds =>
                        rw [qd] at po2
                        simp only at po2
                        cases qj : ixN ds.length k with
                        | none => rw [qj] at po2; exact po2.elim
                        | some j =>
                          rw [qj] at po2
                          obtain ⟨k1, xs, k2, k3, k4⟩ := st2.ce.2 n0 a ds hc qd
                          refine ⟨a, xs, k, j, rfl, rfl, k2, by rw [k3.length]; exact qj, ?_⟩
                          have x := (nx.trans nx2).toS (ws := ws)
                          refine po2 F2 _ σ ws ⟨x.f, x.n, fun b o c1 c3 z => ?_, fun b z => ?_⟩ (st2.cellSet hc qd k2 k3 k4 (Dd.mono nx2.f _ _ dx) fd)
                          · rw [upd_ne fun w => c1 (by rw [w]; exact List.mem_of_getElem? hc)]
                            exact x.k b o c1 c3 z
                          · by_cases hb : b = a
                            · rw [hb, upd_same]; simp
                            · rw [upd_ne hb]; exact x.th b z
                    | _ => exact po2.elim
            · simp only [fd] at po1; exact po1.elim
          | ol _ => exact po1.elim
          | ot _ => exact po1.elim
        | _ => rw [q] at po1; exact po1.elim
end
end Dg

set_option Elab.async false
set_option linter.all false
set_option maxRecDepth 100000
set_option maxHeartbeats 4000000
namespace Dg
open PySem PySem.Spec PyProof.Rows L2
section
variable {K : PySem.W.Frag} {mg : Str → Option Value} {W : WX} {ca : List Addr} {F F' F'' H H' H'' : Hp} {σ σ' : L2.St} {e e' : En} {ws ws' ws'' : List Addr} {cs cs' : Cs}
theorem ds_sto {X : Cx} {W : WX} {fk : ME} {f : MO} {a k : Expr} {x : Str} {p p3 pos : Pos} (i : Nat) (hv : PE X (.Name x p) (tVar i)) (hk : PE X k (rdP X.K X.mg W fk)) (ha : PE X a (rdO X.K X.mg W f))
    (hg : PG X (.Subscript (.Name x p) k p3) (gSub (tVar i) (rdP X.K X.mg W fk) rSetL))
    (hs : swapsWithSole [.Subscript (.Name x p) k p3] a pos.line X.env = pure false := by rfl) (hw : swappedStores [.Subscript (.Name x p) k p3] a X.env = pure none := by rfl)
    (h1 : (assignEach [.Subscript (.Name x p) k p3] X.env).map (·.2) = [assign (.Subscript (.Name x p) k p3) X.env] := by rfl) :
    PS X (.Assign [.Subscript (.Name x p) k p3] a pos) (rdS X.K X.mg W (sSto i fk f)) := (ps_asg ha hg hs hw h1).imp fun _ _ _ q => rd_sSto q
/-! ### a, b = x, y -/
@[simp] def sPar (i j : Nat) (f g : MO) (e : En) (c : Cs) : R Fl := (evO [f, g] e c).toS e fun ts c => match ts with
  | [t, u] => if i = j then .stuck else .ok (.nx ((e.set i (some t)).set j (some u))) c
  | _ => .stuck
theorem Fresh.sub {as bs : List Addr} (h : Fresh ca ws as) (s : ∀ a ∈ bs, a ∈ as) : Fresh ca ws bs := ⟨fun a m => h.w a (s a m), fun a m => h.c a (s a m)⟩
theorem rd_sPar {i j : Nat} {f g : MO} {Dn : Ends} (h : rdS K mg W (sPar i j f g) Dn σ H) : tPar i j (rdOA K mg W (evO [f, g])) Dn σ H := by
  obtain ⟨ca, F, e, ws, cs, st, po⟩ := h
  refine toS_OA st po fun ts c1 F1 H1 vs as q nx st1 dx n f1 fr po1 => ?_
  have hl := evO_len q
  match ts, hl with
  | [t, u], _ =>
    cases dx with
    | cons d1 d2 =>
      rename_i x xs a0 b0
      cases d2 with
      | cons d2 d3 =>
        rename_i y ys a1 b1
        cases d3
        rw [List.append_nil] at n f1 fr
        refine ⟨x, y, rfl, ?_⟩
        obtain ⟨m1, m2, m3⟩ := List.nodup_append.mp n
        obtain ⟨vs1, s1, hv1⟩ := st1.put i d1 m1 (fr.sub fun a m => List.mem_append_left _ m)
        have fr2 : Fresh ca vs1 a1 := ⟨fun a m z => (hv1 a z).elim (fun w => fr.w a (List.mem_append_right _ m) w) fun w => m3 a w a m rfl, fun a m => fr.c a (List.mem_append_right _ m)⟩
        obtain ⟨vs2, s2, hv2⟩ := s1.put j d2 m2 fr2
        simp only at po1
        split at po1
        · exact po1.elim
        · refine po1 F1 H1 _ vs2 ⟨nx.f, fun a h => ?_, fun a o h _ q => nx.k a o h q, nx.th⟩ s2
          rcases h with h | h
          · exact (nx.n a h).elim .inl fun z => .inr (.inr z)
          · rcases hv2 a h with h | h
            · exact (hv1 a h).elim (fun z => .inr (.inl z)) fun z => .inr (.inr (f1 a (List.mem_append_left _ z)))
            · exact .inr (.inr (f1 a (List.mem_append_right _ h)))
theorem ds_par {X : Cx} {W : WX} {i j : Nat} {x y : Str} {f g : MO} {a b : Expr} {px py pt pos : Pos} {kt k2 : Nat} {pt2 : Pos} (hc : X.calm = true) (hN : X.N.Nodup) (hi : X.N[i]? = some x) (hj : X.N[j]? = some y) (hij : i ≠ j)
    (hx : X.env.scope.names.lookup x = some .local) (hy : X.env.scope.names.lookup y = some .local) (ha : PA X [a, b] (rdOA X.K X.mg W (evO [f, g])))
    (hw : swappedStores [.Tuple [.Name x px, .Name y py] kt pt] (.Tuple [a, b] k2 pt2) X.env = pure (some [x, y]))
    (hs : swapsWithSole [.Tuple [.Name x px, .Name y py] kt pt] (.Tuple [a, b] k2 pt2) pos.line X.env = pure false := by rfl) :
    PS X (.Assign [.Tuple [.Name x px, .Name y py] kt pt] (.Tuple [a, b] k2 pt2) pos) (rdS X.K X.mg W (sPar i j f g)) := (ps_par hc hN hi hj hij hx hy ha hw hs).imp fun _ _ _ q => rd_sPar q
/-! ### targets -/
def gNames : List Nat → TGs
  | [] => gNil
  | i :: is => gCons (gName i) (gNames is)
@[simp] def setM : List Nat → List T → En → En
  | i :: is, t :: ts, e => setM is ts (e.set i (some t))
  | _, _, e => e
def Agree (is : List Nat) (σ' σ : L2.St) : Prop := σ'.length = σ.length ∧ ∀ j : Nat, j ∉ is → σ'[j]? = σ[j]?
theorem Agree.refl {is : List Nat} : Agree is σ σ := ⟨rfl, fun _ _ => rfl⟩
theorem Agree.set {is : List Nat} {i : Nat} {x : Option V} {τ : L2.St} (h : Agree is τ (σ.set i x)) : Agree (i :: is) τ σ := ⟨by rw [h.1, List.length_set], fun j hj => by
  rw [h.2 j fun z => hj (List.mem_cons_of_mem _ z), List.getElem?_set_ne]
  exact fun z => hj (by rw [z]; exact List.mem_cons_self)⟩
theorem rd_names : ∀ {is : List Nat} {xs : List V} {ts : List T} {as : List Addr} {σ : L2.St} {e : En} {ws : List Addr} {Q : L2.St → Hp → Prop}, Stt K ca F H σ e ws cs → OwnA K ca F H xs ts as → as.Nodup → Fresh ca ws as → ts.length = is.length →
    (∀ σ' ws', Stt K ca F H σ' (setM is ts e) ws' cs → (∀ a ∈ ws', a ∈ ws ∨ a ∈ as) → Agree is σ' σ → Q σ' H) → gNames is xs σ H Q
  | [], _, _, _, σ, e, ws, Q, st, o, n, fr, hl, q => by
    cases o with
    | nil => exact ⟨rfl, q σ ws st (fun a m => .inl m) Agree.refl⟩
    | cons _ _ => cases hl
  | i :: is, _, _, _, σ, e, ws, Q, st, o, n, fr, hl, q => by
    cases o with
    | nil => cases hl
    | cons o1 o2 =>
      rename_i x xs t ts a0 b0
      obtain ⟨m1, m2, m3⟩ := List.nodup_append.mp n
      obtain ⟨vs, s1, hv⟩ := st.put i o1 m1 (fr.sub fun a m => List.mem_append_left _ m)
      refine ⟨x, xs, rfl, ?_⟩
      refine rd_names s1 o2 m2 ⟨fun a m z => (hv a z).elim (fun w => fr.w a (List.mem_append_right _ m) w) fun w => m3 a w a m rfl, fun a m => fr.c a (List.mem_append_right _ m)⟩ (by simpa using hl) fun σ' ws' s2 h2 ag => q σ' ws' s2 (fun a m => ?_) ag.set
      rcases h2 a m with z | z
      · exact (hv a z).elim .inl fun w => .inr (List.mem_append_left _ w)
      · exact .inr (List.mem_append_right _ z)
@[simp] def T.parts : T → Option (List T)
  | .v (.tup ds) => some (ds.map T.v)
  | .ot ts => some ts
  | _ => none
@[simp] def sUnp (is : List Nat) (f : MO) (e : En) (c : Cs) : R Fl := (f e c).toS e fun t c => match t.parts with
  | some ts => if ts.length = is.length then .ok (.nx (setM is ts e)) c else .stuck
  | none => .stuck
theorem own_parts {v : V} {t : T} {ts : List T} {as : List Addr} (h : Own K ca F H v t as) (q : t.parts = some ts) : ∃ a xs, v = .ref a ∧ SqT K F a xs ∧ OwnA K ca F H xs ts as := by
  cases h with
  | v h1 =>
    rename_i d
    cases d with
    | tup ds =>
      cases q
      obtain ⟨a, xs, rfl, s, dd⟩ := h1.tu rfl
      exact ⟨a, xs, rfl, s, OwnA.vs dd⟩
    | _ => cases q
  | l _ _ _ => cases q
  | t h1 h2 => cases q; exact ⟨_, _, rfl, SqT.of h1, h2⟩
theorem rd_sUnp {is : List Nat} {f : MO} {Dn : Ends} (h : rdS K mg W (sUnp is f) Dn σ H) : tAsg (rdO K mg W f) (gTup K is.length (gNames is)) Dn σ H := by
  obtain ⟨ca, F, e, ws, cs, st, po⟩ := h
  refine toS_O st po fun t c1 F1 H1 v as nx st1 dx n f1 fr po1 => ?_
  cases q : t.parts with
  | none => rw [q] at po1; exact po1.elim
  | some ts =>
    rw [q] at po1
    simp only at po1
    split at po1
    · rename_i hl
      obtain ⟨a, xs, rfl, s, o⟩ := own_parts dx q
      refine ⟨a, xs, rfl, Same.tup st1.same s, by rw [OwnA.length o, hl], ?_⟩
      refine rd_names st1 o n fr hl fun σ' ws' st2 hw _ => po1 F1 H1 σ' ws' ⟨nx.f, fun a h => ?_, fun a o h _ q => nx.k a o h q, nx.th⟩ st2
      rcases h with h | h
      · exact (nx.n a h).elim .inl fun z => .inr (.inr z)
      · exact (hw a h).elim (fun z => .inr (.inl z)) fun z => .inr (.inr (f1 a z))
    · exact po1.elim
theorem ds_unp {X : Cx} {W : WX} {is : List Nat} {f : MO} {tg a : Expr} {pos : Pos} (ha : PE X a (rdO X.K X.mg W f)) (hg : PG X tg (gTup X.K is.length (gNames is)))
    (hs : swapsWithSole [tg] a pos.line X.env = pure false := by rfl) (hw : swappedStores [tg] a X.env = pure none := by rfl) (h1 : (assignEach [tg] X.env).map (·.2) = [assign tg X.env] := by rfl) :
    PS X (.Assign [tg] a pos) (rdS X.K X.mg W (sUnp is f)) := (ps_asg ha hg hs hw h1).imp fun _ _ _ q => rd_sUnp q
/-- a loop's target -/
def DG (K : PySem.W.Frag) (g : TG) (is : List Nat) (tg : D → En → Option En) : Prop :=
  ∀ {ca : List Addr} {F H : Hp} {σ : L2.St} {e e' : En} {ws : List Addr} {c : Cs} {v : V} {d : D} {Q : L2.St → Hp → Prop}, Stt K ca F H σ e ws c → Dd K ca F v d → tg d e = some e' →
    (∀ σ' ws', Stt K ca F H σ' e' ws' c → (∀ a ∈ ws', a ∈ ws) → Agree is σ' σ → Q σ' H) → g v σ H Q
@[simp] def tgN (i : Nat) (d : D) (e : En) : Option En := some (e.set i (some (.v d)))
@[simp] def tgT (is : List Nat) (d : D) (e : En) : Option En := match d with
  | .tup ds => if ds.length = is.length then some (setM is (ds.map T.v) e) else none
  | _ => none
theorem dg_name {i : Nat} : DG K (gName i) [i] (tgN i) := by
  intro ca F H σ e e' ws c v d Q st dd ht q
  cases ht
  obtain ⟨vs, s1, hv⟩ := st.put i (Own.v dd) List.nodup_nil ⟨fun a m => (by cases m), fun a m => (by cases m)⟩
  exact q _ vs s1 (fun a m => (hv a m).elim id fun z => (by cases z)) (Agree.set (is := []) Agree.refl)
theorem dg_tup {is : List Nat} : DG K (gTup K is.length (gNames is)) is (tgT is) := by
  intro ca F H σ e e' ws c v d Q st dd ht q
  cases d with
  | tup ds =>
    simp only [tgT] at ht
    split at ht
    · rename_i hl
      cases ht
      obtain ⟨a, xs, rfl, s, d1⟩ := dd.tu rfl
      refine ⟨a, xs, rfl, Same.tup st.same s, by rw [d1.length, hl], ?_⟩
      exact rd_names st (OwnA.vs d1) List.nodup_nil ⟨fun a m => (by cases m), fun a m => (by cases m)⟩ (by rw [List.length_map]; exact hl) fun σ' ws' s2 h2 ag => q σ' ws' s2 (fun a m => (h2 a m).elim id fun z => (by cases z)) ag
    · cases ht
  | _ => cases ht
/-! ### what is walked -/
def Yd (K : PySem.W.Frag) (ca : List Addr) (F H : Hp) (x : V) (d : D) (H' : Hp) : Prop :=
  (H' = H ∧ Dd K ca F x d) ∨ ∃ p xs es, H p = none ∧ H' = upd H p (.tup xs) ∧ x = .ref p ∧ d = .tup es ∧ DdA K ca F xs es
structure ItD (K : PySem.W.Frag) (ca : List Addr) (J : It) (F : Hp) (ds : List D) : Prop where
  go : ∀ F' H', Same F F' → Same F' H' → ∀ i, i < ds.length → J.go i H'
  stop : ∀ F' H', Same F F' → Same F' H' → J.stop ds.length H'
  yld : ∀ F' H', Same F F' → Same F' H' → ∀ i x H'' d, ds[i]? = some d → J.yld i H' x H'' → Yd K ca F' H' x d H''
theorem ItD.mono {J : It} {ds : List D} (h : ItD K ca J F ds) (s : Same F F') : ItD K ca J F' ds := ⟨fun F2 H2 a b => h.go F2 H2 (s.trans a) b, fun F2 H2 a b => h.stop F2 H2 (s.trans a) b, fun F2 H2 a b => h.yld F2 H2 (s.trans a) b⟩
theorem itD_list {a : Addr} {xs : List V} {ds : List D} (h : SqL K F a xs) (d : DdA K ca F xs ds) : ItD K ca (Itl K a) F ds := by
  refine ⟨fun F' H' s s' i hi => ?_, fun F' H' s s' => ⟨xs, (s.trans s').seq h, by rw [d.length]; exact Nat.le_refl _⟩, fun F' H' s s' i x H'' e he y => ?_⟩
  · have hx : i < xs.length := by rw [d.length]; exact hi
    exact ⟨xs, xs[i], (s.trans s').seq h, List.getElem?_eq_getElem hx⟩
  · obtain ⟨rfl, y⟩ := y
    have hx := y xs ((s.trans s').seq h)
    obtain ⟨e', he', dd⟩ := d.getV hx
    rw [he] at he'; cases he'
    exact .inl ⟨rfl, Dd.mono s _ _ dd⟩
theorem itD_tup {a : Addr} {xs : List V} {ds : List D} (h : SqT K F a xs) (d : DdA K ca F xs ds) : ItD K ca (Itt K a) F ds := by
  refine ⟨fun F' H' s s' i hi => ?_, fun F' H' s s' => ⟨xs, Same.tup (s.trans s') h, by rw [d.length]; exact Nat.le_refl _⟩, fun F' H' s s' i x H'' e he y => ?_⟩
  · have hx : i < xs.length := by rw [d.length]; exact hi
    exact ⟨xs, xs[i], Same.tup (s.trans s') h, List.getElem?_eq_getElem hx⟩
  · obtain ⟨rfl, y⟩ := y
    have hx := y xs (Same.tup (s.trans s') h)
    obtain ⟨e', he', dd⟩ := d.getV hx
    rw [he] at he'; cases he'
    exact .inl ⟨rfl, Dd.mono s _ _ dd⟩
def rngL (lo : Int) (n : Nat) : List D := (List.range n).map fun k : Nat => D.int (lo + k)
theorem itD_rng (lo : Int) (n : Nat) : ItD K ca (Itr lo n) F (rngL lo n) := by
  have hl : (rngL lo n).length = n := by simp [rngL]
  refine ⟨fun F' H' s s' i hi => (by rw [hl] at hi; exact hi), fun F' H' s s' => (by rw [hl]; exact Nat.le_refl _), fun F' H' s s' i x H'' e he y => ?_⟩
  obtain ⟨rfl, rfl⟩ := y
  unfold rngL at he
  rw [List.getElem?_map] at he
  cases q : (List.range n)[i]? with
  | none => rw [q] at he; cases he
  | some k =>
    rw [q] at he
    cases he
    have : k = i := by
      rw [List.getElem?_range] at q
      · cases q; rfl
      · exact (by have := (List.getElem?_eq_some_iff.mp q).1; simpa using this)
    subst this
    exact .inl ⟨rfl, .int _⟩
theorem itD_rngC (lo c : Int) (n : Nat) : ItD K ca (Itc lo c n) F ((List.range n).map fun k : Nat => D.int (lo + k * c)) := by
  have hl : ((List.range n).map fun k : Nat => D.int (lo + k * c)).length = n := by simp
  refine ⟨fun F' H' s s' i hi => (by rw [hl] at hi; exact hi), fun F' H' s s' => (by rw [hl]; exact Nat.le_refl _), fun F' H' s s' i x H'' e he y => ?_⟩
  obtain ⟨rfl, rfl⟩ := y
  rw [List.getElem?_map] at he
  cases q : (List.range n)[i]? with
  | none => rw [q] at he; cases he
  | some k =>
    rw [q] at he
    cases he
    have : k = i := by
      rw [List.getElem?_range] at q
      · cases q; rfl
      · exact (by have := (List.getElem?_eq_some_iff.mp q).1; simpa using this)
    subst this
    exact .inl ⟨rfl, .int _⟩
def enumL (n : Nat) : List D → List D
  | [] => []
  | d :: ds => .tup [.int n, d] :: enumL (n + 1) ds
theorem enumL_len : ∀ (ds : List D) (n : Nat), (enumL n ds).length = ds.length
  | [], _ => rfl
  | d :: ds, n => by simp [enumL, enumL_len ds]
theorem enumL_get : ∀ (ds : List D) (n i : Nat), (enumL n ds)[i]? = (ds[i]?).map fun d => .tup [.int ((n + i : Nat) : Int), d]
  | [], _, _ => by simp [enumL]
  | d :: ds, n, 0 => by simp [enumL]
  | d :: ds, n, i + 1 => by
    rw [show (d :: ds)[i + 1]? = ds[i]? from rfl, show (enumL n (d :: ds))[i + 1]? = (enumL (n + 1) ds)[i]? from rfl, enumL_get ds (n + 1) i]
    rw [show n + 1 + i = n + (i + 1) by omega]
theorem itD_enum {a : Addr} {xs : List V} {ds : List D} (h : SqL K F a xs) (d : DdA K ca F xs ds) : ItD K ca (Ite K a) F (enumL 0 ds) := by
  refine ⟨fun F' H' s s' i hi => ?_, fun F' H' s s' => ⟨xs, (s.trans s').seq h, by rw [enumL_len, d.length]; exact Nat.le_refl _⟩, fun F' H' s s' i x H'' e he y => ?_⟩
  · have hx : i < xs.length := by rw [d.length, ← enumL_len ds 0]; exact hi
    exact ⟨xs, xs[i], (s.trans s').seq h, List.getElem?_eq_getElem hx⟩
  · obtain ⟨p, x0, rfl, hp, rfl, y⟩ := y
    have hx := y xs ((s.trans s').seq h)
    obtain ⟨e', he', dd⟩ := d.getV hx
    rw [enumL_get, he'] at he
    cases he
    rw [Nat.zero_add]
    exact .inr ⟨p, _, _, hp, rfl, rfl, rfl, .cons (.int _) (.cons (Dd.mono s _ _ dd) .nil)⟩
def zipL : List D → List D → List D
  | x :: xs, y :: ys => .tup [x, y] :: zipL xs ys
  | _, _ => []
theorem zipL_get : ∀ (xs ys : List D) (i : Nat), (zipL xs ys)[i]? = (xs[i]?).bind fun x => (ys[i]?).map fun y => .tup [x, y]
  | [], _, i => by simp [zipL]
  | x :: xs, [], i => by cases h : (x :: xs)[i]? <;> simp [zipL, h]
  | x :: xs, y :: ys, 0 => by simp [zipL]
  | x :: xs, y :: ys, i + 1 => by simpa [zipL] using zipL_get xs ys i
theorem zipL_len : ∀ (xs ys : List D), (zipL xs ys).length = min xs.length ys.length
  | [], _ => by simp [zipL]
  | x :: xs, [] => by simp [zipL]
  | x :: xs, y :: ys => by simp [zipL, zipL_len xs ys]
theorem itD_zip {a b : Addr} {xs ys : List V} {ds es : List D} (h : SqL K F a xs) (h2 : SqL K F b ys) (d : DdA K ca F xs ds) (d2 : DdA K ca F ys es) : ItD K ca (Itz K a b) F (zipL ds es) := by
  have l1 := d.length
  have l2 := d2.length
  refine ⟨fun F' H' s s' i hi => ?_, fun F' H' s s' => ⟨xs, ys, (s.trans s').seq h, (s.trans s').seq h2, by rw [zipL_len]; omega⟩, fun F' H' s s' i x H'' e he y => ?_⟩
  · rw [zipL_len] at hi
    have hx : i < xs.length := by omega
    have hy : i < ys.length := by omega
    exact ⟨xs, ys, xs[i], ys[i], (s.trans s').seq h, (s.trans s').seq h2, List.getElem?_eq_getElem hx, List.getElem?_eq_getElem hy⟩
  · obtain ⟨p, x0, y0, rfl, hp, rfl, y, y'⟩ := y
    obtain ⟨e1, he1, dd1⟩ := d.getV (y xs ((s.trans s').seq h))
    obtain ⟨e2, he2, dd2⟩ := d2.getV (y' ys ((s.trans s').seq h2))
    rw [zipL_get, he1, he2] at he
    cases he
    exact .inr ⟨p, _, _, hp, rfl, rfl, rfl, .cons (Dd.mono s _ _ dd1) (.cons (Dd.mono s _ _ dd2) .nil)⟩
theorem itD_zipT {a b : Addr} {xs ys : List V} {ds es : List D} (h : SqT K F a xs) (h2 : SqT K F b ys) (d : DdA K ca F xs ds) (d2 : DdA K ca F ys es) : ItD K ca (RZ.ItzT K a b) F (zipL ds es) := by
  have l1 := d.length
  have l2 := d2.length
  refine ⟨fun F' H' s s' i hi => ?_, fun F' H' s s' => ⟨xs, ys, Same.tup (s.trans s') h, Same.tup (s.trans s') h2, by rw [zipL_len]; omega⟩, fun F' H' s s' i x H'' e he y => ?_⟩
  · rw [zipL_len] at hi
    have hx : i < xs.length := by omega
    have hy : i < ys.length := by omega
    exact ⟨xs, ys, xs[i], ys[i], Same.tup (s.trans s') h, Same.tup (s.trans s') h2, List.getElem?_eq_getElem hx, List.getElem?_eq_getElem hy⟩
  · obtain ⟨p, x0, y0, rfl, hp, rfl, y, y'⟩ := y
    obtain ⟨e1, he1, dd1⟩ := d.getV (y xs (Same.tup (s.trans s') h))
    obtain ⟨e2, he2, dd2⟩ := d2.getV (y' ys (Same.tup (s.trans s') h2))
    rw [zipL_get, he1, he2] at he
    cases he
    exact .inr ⟨p, _, _, hp, rfl, rfl, rfl, .cons (Dd.mono s _ _ dd1) (.cons (Dd.mono s _ _ dd2) .nil)⟩
def strL (x : Str) : List D := x.cps.toList.map fun c => .str ⟨#[c]⟩
theorem itD_str (x : Str) : ItD K ca (Its x) F (strL x) := by
  have hl : (strL x).length = x.cps.size := by simp [strL]
  refine ⟨fun F' H' s s' i hi => (by rw [hl] at hi; exact hi), fun F' H' s s' => (by rw [hl]; exact Nat.le_refl _), fun F' H' s s' i v H'' e he y => ?_⟩
  obtain ⟨rfl, c, hc, rfl⟩ := y
  unfold strL at he
  rw [List.getElem?_map, Array.getElem?_toList, hc] at he
  cases he
  exact .inl ⟨rfl, .str _⟩
/-! ### their readings -/
abbrev MI := En → Cs → R (List D)
def PoI (K : PySem.W.Frag) (mg : Str → Option Value) (W : WX) (ca : List Addr) (F H : Hp) (σ : L2.St) (Q : It → Hp → Prop) : R (List D) → Prop
  | .ok ds cs' => ∀ F' H' J, Nxt ca F H F' H' → Ce K ca F' H' cs' → ItD K ca J F' ds → Q J H'
  | .err x cs' => ∀ F' H', Nxt ca F H F' H' → Ce K ca F' H' cs' → Wn mg W x σ H'
  | .stuck => False
def rdI (K : PySem.W.Frag) (mg : Str → Option Value) (W : WX) (f : MI) : TI := fun σ H Q => ∃ ca F e ws cs, Stt K ca F H σ e ws cs ∧ PoI K mg W ca F H σ Q (f e cs)
theorem PI.imp {X : Cx} {tg it : Expr} {t t' : TI} (h : PI X tg it t) (k : ∀ σ H Q, t' σ H Q → t σ H Q) : PI X tg it t' := ⟨fun pins s σ H Q I q => h.run pins s σ H Q I (k σ H Q q)⟩
theorem PI.or {X : Cx} {tg it : Expr} {t t' : TI} (h : PI X tg it t) (h' : PI X tg it t') : PI X tg it (fun σ H Q => t σ H Q ∨ t' σ H Q) := ⟨fun pins s σ H Q I q => q.elim (h.run pins s σ H Q I) (h'.run pins s σ H Q I)⟩
theorem kindI {Q : It → Hp → Prop} : Kind K mg W ca ws σ (fun F H r => PoI K mg W ca F H σ Q r) := ⟨fun {F H F' H' r} h x => by
    cases r with
    | ok d c => exact fun F2 H2 J y => h F2 H2 J (x.trans y)
    | err z c => exact fun F2 H2 y => h F2 H2 (x.trans y)
    | stuck => exact h, fun h => h, fun h => h⟩
@[simp] def itSeq (f : MO) (e : En) (c : Cs) : R (List D) := (f e c).bind fun t c => match t.d with
  | .tup ds => .ok ds c
  | d => R.of d.li c
/-- own, now held: as data -/
theorem held {v : V} {t : T} {as : List Addr} (ce : Ce K ca F H cs) (nx : Nxt ca F H F' H') (ce' : Ce K ca F' H' cs') (o : Own K ca F' H' v t as) (fr : ∀ a ∈ as, H a = none) : Nxt ca F H (Bh F' H' as) H' ∧ Ce K ca (Bh F' H' as) H' cs' ∧ Dd K ca (Bh F' H' as) v t.d ∧ Same F' (Bh F' H' as) := by
  have hF : ∀ a ∈ as, F' a = none := fun a m => (Own.ok _ _ _ o a m).1
  refine ⟨Nxt.hold nx.s hF nx fr, ce'.hold hF fun a m z => ?_, Own.dd hF t v as (fun _ m => m) o, Bh_same hF⟩
  obtain ⟨_, ys, hy⟩ := ce.there z
  rw [fr a m] at hy; cases hy
theorem rd_itSeq {f : MO} {Q : It → Hp → Prop} (h : rdI K mg W (itSeq f) σ H Q) : iList K (rdO K mg W f) σ H Q ∨ iTup K (rdO K mg W f) σ H Q := by
  obtain ⟨ca, F, e, ws, cs, st, po⟩ := h
  have done : ∀ {t c}, f e cs = .ok t c → ∀ {G : VK}, (∀ F1 H1 v as, Nxt ca F H F1 H1 → Ce K ca F1 H1 c → Own K ca F1 H1 v t as → (∀ a ∈ as, H a = none) → G v H1) → rdO K mg W f σ H G := fun {t c} q {G} g =>
    ⟨ca, F, e, ws, cs, st, by rw [q]; exact fun F1 H1 v as nx ce o n fr => g F1 H1 v as nx ce o fr⟩
  unfold itSeq at po
  cases q : f e cs with
  | stuck => rw [q] at po; exact po.elim
  | err x c => rw [q] at po; exact .inl ⟨ca, F, e, ws, cs, st, by rw [q]; exact po⟩
  | ok t c =>
    rw [q] at po
    have lists : ∀ {d : D}, t.d = d → PoI K mg W ca F H σ Q (R.of d.li c) → iList K (rdO K mg W f) σ H Q := fun {d} hd po => by
      cases ql : d.li with
      | none => rw [ql] at po; exact po.elim
      | some ds =>
        rw [ql] at po
        refine done q fun F1 H1 v as nx ce o fr => ?_
        obtain ⟨n2, ce2, dd, ss⟩ := held st.ce nx ce o fr
        rw [hd] at dd
        obtain ⟨a, xs, rfl, s, d1⟩ := dd.li ql
        exact ⟨a, rfl, ⟨xs, n2.s.seq s⟩, po _ H1 _ n2 ce2 (itD_list s d1)⟩
    cases hd : t.d with
    | tup ds =>
      simp only [R.bind_ok, hd] at po
      refine .inr (done q fun F1 H1 v as nx ce o fr => ?_)
      obtain ⟨n2, ce2, dd, ss⟩ := held st.ce nx ce o fr
      rw [hd] at dd
      obtain ⟨a, xs, rfl, s, d1⟩ := dd.tu rfl
      exact ⟨a, rfl, ⟨xs, Same.tup n2.s s⟩, po _ H1 _ n2 ce2 (itD_tup s d1)⟩
    | _ =>
      simp only [R.bind_ok, hd] at po
      exact .inl (lists hd po)
theorem di_seq {X : Cx} {W : WX} {f : MO} {a tg : Expr} (h : PE X a (rdO X.K X.mg W f)) : PI X tg a (rdI X.K X.mg W (itSeq f)) := PI.imp (PI.or (pi_list h) (pi_tup h)) fun _ _ _ q => rd_itSeq q
@[simp] def itStr (f : ME) (e : En) (c : Cs) : R (List D) := (f e c).bind fun d c => match d with
  | .str x => .ok (strL x) c
  | _ => .stuck
theorem di_str {X : Cx} {W : WX} {f : ME} {a tg : Expr} (h : PE X a (rdP X.K X.mg W f)) : PI X tg a (rdI X.K X.mg W (itStr f)) := PI.imp (pi_str h) fun σ H Q h => by
  obtain ⟨ca, F, e, ws, cs, st, po⟩ := h
  refine rdP_bind kindI st po fun x c1 F1 H1 v _ nx st1 dx po1 => ?_
  cases x with
  | str z => cases dx; exact ⟨z, rfl, po1 F1 H1 _ (Nxt.refl st1.same) st1.ce (itD_str z)⟩
  | _ => exact po1.elim
@[simp] noncomputable def itRng (fs : List ME) (e : En) (c : Cs) : R (List D) := (evA fs e c).bind fun ds c => match ds with
  | [.int j] => if inR j then .ok (rngL 0 j.toNat) c else .stuck
  | [.int i, .int j] => if inR j ∧ inR i then .ok (rngL i (j - i).toNat) c else .stuck
  | _ => .stuck
theorem di_rng1 {X : Cx} {W : WX} {f : ME} {a tg : Expr} {p pos : Pos} (hg : Gl X "range") (hm : X.mg "range" = none) (h : PA X [a] (rdPA X.K X.mg W (evA [f]))) (hs : starEach [a] X.env = [(false, eval a X.env)] := by rfl) : PI X tg (.Call (.Name "range" p) [a] [] pos) (rdI X.K X.mg W (itRng [f])) :=
  PI.imp (pi_range1 hg hm h hs) fun σ H Q h => by
    obtain ⟨ca, F, e, ws, cs, st, po⟩ := h
    refine rdPA_bind kindI st po fun x c1 F1 H1 v q nx st1 dx po1 => ?_
    have hl := evA_len q
    match x, hl with
    | [d], _ =>
      obtain ⟨v, rfl, dv⟩ := dx.one
      cases d with
      | int j =>
        cases dv
        simp only at po1
        split at po1
        · rename_i hp
          have h1 := hp.1
          have h2 := hp.2
          exact ⟨j, rfl, by omega, by omega, po1 F1 H1 _ (Nxt.refl st1.same) st1.ce (itD_rng 0 j.toNat)⟩
        · exact po1.elim
      | _ => exact po1.elim
theorem di_rng2 {X : Cx} {W : WX} {f g : ME} {a b tg : Expr} {p pos : Pos} (hg : Gl X "range") (hm : X.mg "range" = none) (h : PA X [a, b] (rdPA X.K X.mg W (evA [f, g]))) (hs : starEach [a, b] X.env = [(false, eval a X.env), (false, eval b X.env)] := by rfl)
    (hs2 : starEach [b] X.env = [(false, eval b X.env)] := by rfl) : PI X tg (.Call (.Name "range" p) [a, b] [] pos) (rdI X.K X.mg W (itRng [f, g])) :=
  PI.imp (pi_range2 hg hm h hs hs2) fun σ H Q h => by
    obtain ⟨ca, F, e, ws, cs, st, po⟩ := h
    refine rdPA_bind kindI st po fun x c1 F1 H1 v q nx st1 dx po1 => ?_
    have hl := evA_len q
    match x, hl with
    | [d, d'], _ =>
      obtain ⟨v, u, rfl, dv, du⟩ := dx.two
      cases d with
      | int i =>
        cases d' with
        | int j =>
          cases dv; cases du
          simp only at po1
          split at po1
          · rename_i hp
            have h1 := hp.1.1
            have h2 := hp.1.2
            have h3 := hp.2.1
            have h4 := hp.2.2
            exact ⟨i, j, rfl, by omega, po1 F1 H1 _ (Nxt.refl st1.same) st1.ce (itD_rng i (j - i).toNat)⟩
          · exact po1.elim
        | _ => exact po1.elim
      | _ => exact po1.elim
@[simp] def itEnum (f : MO) (e : En) (c : Cs) : R (List D) := (f e c).bind fun t c => R.of (t.d.li.map (enumL 0)) c
theorem di_enum {X : Cx} {W : WX} {f : MO} {a : Expr} {p pos tpos : Pos} {elts : List Expr} {kk : Nat} (hg : Gl X "enumerate") (hm : X.mg "enumerate" = none) (h : PE X a (rdO X.K X.mg W f)) (hs : starEach [a] X.env = [(false, eval a X.env)] := by rfl) (hs1 : starEach [a] X.env = (false, eval a X.env) :: starEach [] X.env := by rfl) :
    PI X (.Tuple elts kk tpos) (.Call (.Name "enumerate" p) [a] [] pos) (rdI X.K X.mg W (itEnum f)) :=
  PI.imp (pi_enum hg hm (pa_cons h pa_nil hs1) hs) fun σ H Q h => by
    obtain ⟨ca, F, e, ws, cs, st, po⟩ := h
    refine rdO_from (ws := ws) kindI (Nxt.refl st.same) st po fun t c1 F1 H1 v as q nx _ st1 dx n f1 po1 => ?_
    obtain ⟨n2, ce2, dd, ss⟩ := held st.ce nx st1.ce dx f1
    cases ql : t.d.li with
    | none => rw [ql] at po1; exact po1.elim
    | some ds =>
      rw [ql] at po1
      obtain ⟨a, xs, rfl, s, d1⟩ := dd.li ql
      exact ⟨a, xs, rfl, n2.s.seq s, po1 _ H1 _ n2 ce2 (itD_enum s d1)⟩
@[simp] def itZip (f g : MO) (e : En) (c : Cs) : R (List D) := (evO [f, g] e c).bind fun ts c => match ts with
  | [t, u] => (match t.d, u.d with
    | .tup xs, .tup ys => .ok (zipL xs ys) c
    | x, y => (match x.li, y.li with
      | some xs, some ys => .ok (zipL xs ys) c
      | _, _ => .stuck))
  | _ => .stuck
theorem heldA {vs : List V} {ts : List T} {as : List Addr} (ce : Ce K ca F H cs) (nx : Nxt ca F H F' H') (ce' : Ce K ca F' H' cs') (o : OwnA K ca F' H' vs ts as) (fr : ∀ a ∈ as, H a = none) : Nxt ca F H (Bh F' H' as) H' ∧ Ce K ca (Bh F' H' as) H' cs' ∧ DdA K ca (Bh F' H' as) vs (T.dA ts) := by
  have hF : ∀ a ∈ as, F' a = none := fun a m => (OwnA.ok _ _ _ o a m).1
  refine ⟨Nxt.hold nx.s hF nx fr, ce'.hold hF fun a m z => ?_, OwnA.dd hF ts vs as (fun _ m => m) o⟩
  obtain ⟨_, ys, hy⟩ := ce.there z
  rw [fr a m] at hy; cases hy
theorem di_zip {X : Cx} {W : WX} {f g : MO} {a b : Expr} {p pos tpos : Pos} {elts : List Expr} {kk : Nat} (hg : Gl X "zip") (hm : X.mg "zip" = none) (h : PA X [a, b] (rdOA X.K X.mg W (evO [f, g])))
    (hs : starEach [a, b] X.env = (false, eval a X.env) :: starEach [b] X.env := by rfl) (hpl : (backTo pos (starEach [b] X.env)).any (·.1) = false := by rfl) :
    PI X (.Tuple elts kk tpos) (.Call (.Name "zip" p) [a, b] [] pos) (rdI X.K X.mg W (itZip f g)) :=
  PI.imp (RZ.pi_zipA hg hm h hs hpl) fun σ H Q h => by
    obtain ⟨ca, F, e, ws, cs, st, po⟩ := h
    refine rdOA_from (ws := ws) kindI (Nxt.refl st.same) st po fun ts c1 F1 H1 v as q nx _ st1 dx n f1 po1 => ?_
    obtain ⟨n2, ce2, dd⟩ := heldA st.ce nx st1.ce dx f1
    have hl := evO_len q
    match ts, hl with
    | [t, u], _ =>
      simp only [T.dA] at dd
      obtain ⟨v1, v2, rfl, d1, d2⟩ := dd.two
      have lists : ∀ {x y : D}, Dd X.K ca (Bh F1 H1 as) v1 x → Dd X.K ca (Bh F1 H1 as) v2 y → PoI X.K X.mg W ca F H σ Q (match x.li, y.li with
          | some xs, some ys => .ok (zipL xs ys) c1
          | _, _ => .stuck) → ∃ a b xs ys, [v1, v2] = [V.ref a, V.ref b] ∧ ((SqL X.K H1 a xs ∧ SqL X.K H1 b ys ∧ Q (Itz X.K a b) H1) ∨ (SqT X.K H1 a xs ∧ SqT X.K H1 b ys ∧ Q (RZ.ItzT X.K a b) H1)) := fun {x y} d1 d2 po => by
        cases q1 : x.li with
        | none => rw [q1] at po; exact po.elim
        | some xs =>
          cases q2 : y.li with
          | none => rw [q1, q2] at po; exact po.elim
          | some ys =>
            rw [q1, q2] at po
            obtain ⟨a, vs, rfl, s1, e1⟩ := d1.li q1
            obtain ⟨b, us, rfl, s2, e2⟩ := d2.li q2
            exact ⟨a, b, vs, us, rfl, .inl ⟨n2.s.seq s1, n2.s.seq s2, po _ H1 _ n2 ce2 (itD_zip s1 s2 e1 e2)⟩⟩
      simp only at po1
      cases h1 : t.d with
      | tup xs =>
        cases h2 : u.d with
        | tup ys =>
          simp only [h1, h2] at po1
          rw [h1] at d1
          rw [h2] at d2
          obtain ⟨a, vs, rfl, s1, e1⟩ := d1.tu rfl
          obtain ⟨b, us, rfl, s2, e2⟩ := d2.tu rfl
          exact ⟨a, b, vs, us, rfl, .inr ⟨Same.tup n2.s s1, Same.tup n2.s s2, po1 _ H1 _ n2 ce2 (itD_zipT s1 s2 e1 e2)⟩⟩
        | _ => simp only [h1, h2] at po1; rw [h1] at d1; rw [h2] at d2; exact lists d1 d2 po1
      | _ => simp only [h1] at po1; rw [h1] at d1; exact lists d1 d2 po1
end
end Dg

set_option Elab.async false
set_option linter.all false
set_option maxRecDepth 100000
set_option maxHeartbeats 4000000
namespace Dg
open PySem PySem.Spec PyProof.Rows L2
section
variable {K : PySem.W.Frag} {mg : Str → Option Value} {W : WX} {ca : List Addr} {F F' F'' H H' H'' : Hp} {σ σ' : L2.St} {e e' : En} {ws ws' ws'' : List Addr} {cs cs' : Cs}

/-! ### for -/
def forL (tg : D → En → Option En) (body : MS) : List D → MS
  | [], e, c => .ok (.nx e) c
  | d :: ds, e, c => match tg d e with
    | none => .stuck
    | some e1 => (match body e1 c with
      | .ok (.nx e2) c2 => forL tg body ds e2 c2
      | .ok (.ct e2) c2 => forL tg body ds e2 c2
      | .ok (.bk e2) c2 => .ok (.nx e2) c2
      | r => r)
@[simp] def sFor (it : MI) (tg : D → En → Option En) (body : MS) (e : En) (c : Cs) : R Fl := (it e c).toS e fun ds c => forL tg body ds e c
theorem Stt.sub (st : Stt K ca F H σ e ws cs) : Same F H := st.same
/-- behind a yield -/
theorem Yd.nxt {x : V} {d : D} (y : Yd K ca F H x d H') (s : Same F H) (ce : Ce K ca F H cs) : ∃ F', Nxt ca F H F' H' ∧ Ce K ca F' H' cs ∧ Dd K ca F' x d := by
  rcases y with ⟨rfl, dd⟩ | ⟨p, xs, es, hp, rfl, rfl, rfl, dd⟩
  · exact ⟨F, Nxt.refl s, ce, dd⟩
  · have nn : Nxt ca F H (upd F p (.tup xs)) (upd H p (.tup xs)) := Nxt.new s hp
    exact ⟨_, nn, ce.new s hp, .tup (SqT.of upd_same) (DdA.mono nn.f _ _ dd)⟩
theorem rd_sFor {it : MI} {g : TG} {is : List Nat} {tg : D → En → Option En} {body : MS} (hg : DG K g is tg) {Dn : Ends} (h : rdS K mg W (sFor it tg body) Dn σ H) : tFor (rdI K mg W it) g (rdS K mg W body) Dn σ H := by
  obtain ⟨ca, F, e, ws, cs, st, po⟩ := h
  refine ⟨ca, F, e, ws, cs, st, ?_⟩
  unfold sFor at po
  cases q : it e cs with
  | stuck => rw [q] at po; exact po.elim
  | err x c => rw [q] at po; exact fun F1 H1 nx ce => (show PoS K mg W ca F H ws Dn (.ok (.er x e) c) from po) F1 H1 σ ws nx.toS (st.nxt nx ce)
  | ok ds c =>
    rw [q] at po
    intro F1 H1 J nx ce hJ
    have st1 := st.nxt nx ce
    refine ⟨fun i m σ H => m = ds.length - i ∧ i ≤ ds.length ∧ ∃ F e ws c, Stt K ca F H σ e ws c ∧ Same F1 F ∧ PoS K mg W ca F H ws Dn (forL tg body (ds.drop i) e c), ⟨ds.length, by simp, Nat.zero_le _, F1, e, ws, c, st1, Same.refl _, PoS.step (show PoS K mg W ca F H ws Dn (forL tg body ds e c) from po) nx.toS st1.dis⟩, ?_⟩
    rintro i m σ2 H2 ⟨rfl, hi, F2, e2, ws2, c2, st2, s2, po2⟩
    by_cases hlt : i < ds.length
    · refine .inr ⟨hJ.go F2 H2 s2 st2.same i hlt, fun σ' H' => i + 1 ≤ ds.length ∧ ∃ F e ws c, Stt K ca F H' σ' e ws c ∧ Same F1 F ∧ PoS K mg W ca F H' ws Dn (forL tg body (ds.drop (i + 1)) e c), fun σ' H' ⟨l, w⟩ => ⟨ds.length - (i + 1), by omega, rfl, l, w⟩, fun x H' y => ?_⟩
      have hd : ds[i]? = some ds[i] := List.getElem?_eq_getElem hlt
      obtain ⟨F3, n3, ce3, dd⟩ := (hJ.yld F2 H2 s2 st2.same i x H' _ hd y).nxt st2.same st2.ce
      have st3 := st2.nxt n3 ce3
      rw [List.drop_eq_getElem_cons hlt] at po2
      unfold forL at po2
      cases qt : tg ds[i] e2 with
      | none => rw [qt] at po2; exact po2.elim
      | some e3 =>
        rw [qt] at po2
        simp only at po2
        refine hg st3 dd qt fun σ4 ws4 st4 hw _ => ⟨ca, F3, e3, ws4, c2, st4, ?_⟩
        have x4 : NxS ca F2 H2 ws2 F3 H' ws4 := ⟨n3.f, fun a h => by
          rcases h with h | h
          · exact (n3.n a h).elim .inl fun z => .inr (.inr z)
          · exact .inr (.inl (hw a h)), fun a o h _ q => n3.k a o h q, n3.th⟩
        have po3 := PoS.step po2 x4 st4.dis
        cases qb : body e3 c2 with
        | stuck => rw [qb] at po3; exact po3.elim
        | err x c => rw [qb] at po3; exact po3.elim
        | ok fl c =>
          rw [qb] at po3
          cases fl with
          | nx e5 => exact fun F5 H5 σ5 ws5 x5 st5 => ⟨hlt, F5, e5, ws5, c, st5, s2.trans (n3.f.trans x5.f), PoS.step po3 x5 st5.dis⟩
          | ct e5 => exact fun F5 H5 σ5 ws5 x5 st5 => ⟨hlt, F5, e5, ws5, c, st5, s2.trans (n3.f.trans x5.f), PoS.step po3 x5 st5.dis⟩
          | bk e5 => exact po3
          | rt t => exact po3
          | er z e5 => exact po3
    · have ei : i = ds.length := by omega
      subst ei
      refine .inl ⟨hJ.stop F2 H2 s2 st2.same, ?_⟩
      rw [List.drop_length] at po2
      exact po2 F2 H2 σ2 ws2 NxS.refl st2
theorem ds_for {X : Cx} {W : WX} {it : MI} {g : TG} {is : List Nat} {tg : D → En → Option En} {body : MS} {te ie : Expr} {b : List Stmt} {pos : Pos} (hp : PassesOwn (model X.prog X.w) X.A X.env X.xe) (hc : X.calm = true) (hi : PI X te ie (rdI X.K X.mg W it)) (hpg : PG X te g) (hg : DG X.K g is tg) (hb : PSs X b (rdS X.K X.mg W body))
    (hs : ∀ x, foldedSetIterable ie X.env x = pure x := by intro _; rfl) : PS X (.For te ie b [] pos) (rdS X.K X.mg W (sFor it tg body)) := (ps_for hp hc hi hpg hb hs).imp fun _ _ _ q => rd_sFor hg q
/-! ### comprehensions -/
@[simp] def R.ne {α : Type} : R α → R α
  | .ok a c => .ok a c
  | _ => .stuck
@[simp] def wipeE : List Nat → En → En
  | [], e => e
  | v :: vs, e => (wipeE vs e).set v none
theorem Sl.del : ∀ {σ : L2.St} {e : En} {ws : List Addr} (i : Nat), Sl K ca F H σ e ws → ∃ vs, Sl K ca F H (σ.set i none) (e.set i none) vs ∧ vs.Sublist ws
  | _, _, _, _, .nil => ⟨[], .nil, List.Sublist.refl _⟩
  | _, _, _, 0, .no h => ⟨_, .no h, List.Sublist.refl _⟩
  | _, _, _, i + 1, .no h => by
    obtain ⟨vs, h1, h2⟩ := Sl.del i h
    exact ⟨vs, .no h1, h2⟩
  | _, _, _, 0, .so h1 h2 => ⟨_, .no h2, List.sublist_append_right _ _⟩
  | _, _, _, i + 1, .so (as := as) h1 h2 => by
    obtain ⟨vs, h3, h4⟩ := Sl.del i h2
    exact ⟨as ++ vs, .so h1 h3, (List.Sublist.refl as).append h4⟩
theorem Stt.wipe (st : Stt K ca F H σ e ws cs) : ∀ is : List Nat, ∃ vs, Stt K ca F H (L2.wipe σ is) (wipeE is e) vs cs ∧ vs.Sublist ws
  | [] => ⟨ws, st, List.Sublist.refl _⟩
  | i :: is => by
    obtain ⟨vs, h1, h2⟩ := Stt.wipe st is
    obtain ⟨us, h3, h4⟩ := Sl.del i h1.sl
    exact ⟨us, ⟨h1.same, h3, h1.nd.sublist (h4.append (List.Sublist.refl _)), h1.ce⟩, h4.trans h2⟩
theorem wipe_get {τ : L2.St} : ∀ (is : List Nat) (j : Nat), (L2.wipe τ is)[j]? = if j ∈ is ∧ j < τ.length then some none else τ[j]?
  | [], j => by simp [L2.wipe]
  | i :: is, j => by
    unfold L2.wipe
    have hl := L2.wipe_length τ is
    by_cases h : i = j
    · subst h
      by_cases hlt : i < τ.length
      · rw [List.getElem?_set_self (by rw [hl]; exact hlt)]; simp [hlt]
      · rw [List.getElem?_eq_none (by rw [List.length_set, hl]; omega)]
        simp [hlt, List.getElem?_eq_none (show τ.length ≤ i by omega)]
    · rw [List.getElem?_set_ne h, wipe_get is j]
      simp [Ne.symm h]
theorem Agree.wipe {is vs : List Nat} {τ ρ : L2.St} (h : Agree is τ (L2.wipe ρ vs)) (hs : ∀ i ∈ is, i ∈ vs) : L2.wipe τ vs = L2.wipe ρ vs := by
  apply List.ext_getElem?
  intro j
  have hl : τ.length = ρ.length := by rw [h.1, L2.wipe_length]
  rw [wipe_get, wipe_get, hl]
  by_cases c : j ∈ vs ∧ j < ρ.length
  · simp [c]
  · rw [if_neg c, if_neg c]
    by_cases hj : j ∈ vs
    · have : ρ.length ≤ j := by
        by_cases q : j < ρ.length
        · exact absurd ⟨hj, q⟩ c
        · omega
      rw [List.getElem?_eq_none (by omega), List.getElem?_eq_none this]
    · rw [h.2 j fun z => hj (hs j z), wipe_get, if_neg c]
def compL (tg : D → En → Option En) (t : En → Cs → R Bool) (f : MO) : List D → En → Cs → R (List T)
  | [], _, c => .ok [] c
  | d :: ds, e, c => match tg d e with
    | none => .stuck
    | some e1 => (t e1 c).ne.bind fun b c => if b = true then (f e1 c).ne.bind fun x c => (compL tg t f ds e c).bind fun xs c => .ok (x :: xs) c else compL tg t f ds e c
@[simp] def oComp (vs : List Nat) (it : MI) (tg : D → En → Option En) (t : En → Cs → R Bool) (f : MO) (e : En) (c : Cs) : R T := (it e c).bind fun ds c => if ds.length < LIM then (compL tg t f ds (wipeE vs e) c).bind fun ts c => .ok (.ol ts) c else .stuck
abbrev W0 : WX := fun _ _ _ _ => False
theorem bind_app {ts : List T} {x : T} (r : R (List T)) : ((r.bind fun xs c => R.ok (x :: xs) c).bind fun us c => R.ok (T.ol (ts ++ us)) c) = r.bind fun us c => R.ok (T.ol ((ts ++ [x]) ++ us)) c := by
  cases r with
  | ok a c => simp [R.bind]
  | err x c => rfl
  | stuck => rfl
/-- what holds between two turns of a comprehension -/
structure LcI (K : PySem.W.Frag) (mg : Str → Option Value) (W : WX) (ca : List Addr) (F0 H0 F1 : Hp) (σ : L2.St) (Q : VK) (D0 : Addr) (e1 : En) (tg : D → En → Option En) (t : En → Cs → R Bool) (f : MO) (rest : List D) (n : Nat) (F H : Hp) (ts : List T) (as : List Addr) (acc : List V) (c : Cs) : Prop where
  nx : Nxt ca F0 H0 F H
  ce : Ce K ca F H c
  s1 : Same F1 F
  fD : F D0 = none
  hD : H D0 = some (.lst acc)
  ow : OwnA K ca F H acc ts as
  nd : (D0 :: as).Nodup
  fr : ∀ a ∈ D0 :: as, H0 a = none
  ln : ts.length ≤ n
  po : PoO K mg W ca F0 H0 σ Q ((compL tg t f rest e1 c).bind fun us c => .ok (.ol (ts ++ us)) c)
theorem rd_oComp {vs is : List Nat} {it : MI} {g : TG} {tg : D → En → Option En} {t : En → Cs → R Bool} {f : MO} (hg : DG K g is tg) (hs : ∀ i ∈ is, i ∈ vs) {Q : VK} (h : rdO K mg W (oComp vs it tg t f) σ H Q) :
    tLc (rdI K mg W it) g (rdT K mg W0 t) (rdO K mg W0 f) vs σ H Q := by
  obtain ⟨ca, F, e, ws, cs, st, po⟩ := h
  refine ⟨ca, F, e, ws, cs, st, ?_⟩
  unfold oComp at po
  cases q : it e cs with
  | stuck => rw [q] at po; exact po.elim
  | err x c => rw [q] at po; exact fun F1 H1 nx ce => (show PoO K mg W ca F H σ Q (.err x c) from po) F1 H1 nx ce
  | ok ds c =>
    rw [q] at po
    simp only [R.bind_ok] at po
    by_cases hlim : ds.length < LIM
    · rw [if_pos hlim] at po
      intro F1 H1 J nx ce hJ D0 hD0
      have st1 := st.nxt nx ce
      have nca : D0 ∉ ca := fun z => by
        obtain ⟨_, xs, hx⟩ := ce.there z
        rw [hD0] at hx; cases hx
      have hH0 : H D0 = none := nfree nx (as := [D0]) (fun b mb => by rw [List.mem_singleton.mp mb]; exact hD0) D0 (by simp)
      have hF1 : F1 D0 = none := st1.same.free hD0
      have go : ∀ {i : Nat} {F2 H2 : Hp} {ts : List T} {as : List Addr} {acc : List V} {c2 : Cs} {F5 H5 : Hp} {c5 : Cs} {us : List T} {bs : List Addr} {y : List V},
          LcI K mg W ca F H F1 σ Q D0 (wipeE vs e) tg t f (ds.drop i) i F2 H2 ts as acc c2 → Nxt ca F2 H2 F5 H5 → Ce K ca F5 H5 c5 → OwnA K ca F5 H5 y us bs → bs.Nodup → (∀ a ∈ bs, H2 a = none) → us.length ≤ 1 →
          PoO K mg W ca F H σ Q ((compL tg t f (ds.drop (i + 1)) (wipeE vs e) c5).bind fun vs c => .ok (.ol ((ts ++ us) ++ vs)) c) →
          H5 D0 = some (.lst acc) ∧ LcI K mg W ca F H F1 σ Q D0 (wipeE vs e) tg t f (ds.drop (i + 1)) (i + 1) F5 (upd H5 D0 (.lst (acc ++ y))) (ts ++ us) (as ++ bs) (acc ++ y) c5 := fun {i F2 H2 ts as acc c2 F5 H5 c5 us bs y} I nx5 ce5 o5 n5 f5 ul po5 => by
        have k5 : ∀ a ∈ D0 :: as, H5 a = H2 a ∧ F5 a = none := keepO st.ce (fun a m => I.fr a m) (fun a m => by
          rcases List.mem_cons.mp m with rfl | m
          · exact ⟨I.fD, _, I.hD⟩
          · exact OwnA.ok _ _ _ I.ow a m) nx5
        obtain ⟨kD, fD5⟩ := k5 D0 List.mem_cons_self
        have hD5 : H5 D0 = some (.lst acc) := kD.trans I.hD
        obtain ⟨m1, m2⟩ := List.nodup_cons.mp I.nd
        have bD : ∀ a ∈ bs, a ≠ D0 := fun a m z => by subst z; rw [f5 _ m] at *; have := I.hD; rw [f5 _ m] at this; cases this
        have aD : ∀ a ∈ as, a ≠ D0 := fun a m z => m1 (by rw [← z]; exact m)
        have nW : Nxt ca F H F5 (upd H5 D0 (.lst (acc ++ y))) := by
          have n6 := I.nx.trans nx5
          refine ⟨n6.f, fun a o z => ?_, n6.n, fun a o h1 h2 => ?_, fun a h1 => ?_⟩
          · by_cases ha : a = D0
            · subst ha; rw [fD5] at z; cases z
            · rw [upd_ne ha]; exact n6.s a o z
          · by_cases ha : a = D0
            · subst ha; rw [hH0] at h2; cases h2
            · rw [upd_ne ha]; exact n6.k a o h1 h2
          · by_cases ha : a = D0
            · rw [ha, upd_same]; simp
            · rw [upd_ne ha]; exact n6.th a h1
        refine ⟨hD5, nW, ⟨ce5.1, fun n a es c1 c2 => ?_⟩, I.s1.trans nx5.f, fD5, upd_same, ?_, ?_, ?_, ?_, po5⟩
        · obtain ⟨e1, zs, e2, e3, e4⟩ := ce5.2 n a es c1 c2
          have ha : a ≠ D0 := fun z => nca (by rw [← z]; exact List.mem_of_getElem? c1)
          exact ⟨e1, zs, by rw [upd_ne ha]; exact e2, e3, e4⟩
        · exact (OwnA.fr nx5.f _ _ _ (fun a m => ⟨by rw [upd_ne (aD a m)]; exact (k5 a (List.mem_cons_of_mem _ m)).1, (k5 a (List.mem_cons_of_mem _ m)).2⟩) I.ow).app (OwnA.fr (Same.refl F5) _ _ _ (fun a m => ⟨upd_ne (bD a m), (OwnA.ok _ _ _ o5 a m).1⟩) o5)
        · refine List.nodup_cons.mpr ⟨fun z => ?_, List.nodup_append.mpr ⟨m2, n5, fun a m b mb z => ?_⟩⟩
          · rcases List.mem_append.mp z with z | z
            · exact m1 z
            · exact bD _ z rfl
          · subst z
            obtain ⟨_, xs, hx⟩ := OwnA.ok _ _ _ I.ow a m
            rw [f5 a mb] at hx; cases hx
        · intro a m
          rcases List.mem_cons.mp m with rfl | m
          · exact hH0
          · rcases List.mem_append.mp m with m | m
            · exact I.fr a (List.mem_cons_of_mem _ m)
            · exact nfree I.nx f5 a m
        · have := I.ln
          rw [List.length_append]; omega
      refine ⟨fun i m H9 => m = ds.length - i ∧ i ≤ ds.length ∧ ∃ F2 ts as acc c, LcI K mg W ca F H F1 σ Q D0 (wipeE vs e) tg t f (ds.drop i) i F2 H9 ts as acc c, ⟨ds.length, by simp, Nat.zero_le _, F1, [], [], [], c, ?_⟩, ?_⟩
      · have nn : Nxt ca F1 H1 F1 (upd H1 D0 (.lst [])) := Nxt.own st1.same hD0
        refine ⟨nx.trans nn, st1.ce.own hD0, Same.refl _, hF1, upd_same, .nil, by simp, fun a m => ?_, Nat.le_refl _, ?_⟩
        · rw [List.mem_singleton.mp m]; exact hH0
        · rw [List.drop_zero]; exact po
      · rintro i m H9 ⟨rfl, hi, F2, ts, as, acc, c2, I⟩
        by_cases hlt : i < ds.length
        · refine .inr ⟨hJ.go F2 H9 I.s1 I.nx.s i hlt, fun H' => i + 1 ≤ ds.length ∧ ∃ F2 ts as acc c, LcI K mg W ca F H F1 σ Q D0 (wipeE vs e) tg t f (ds.drop (i + 1)) (i + 1) F2 H' ts as acc c, fun H' ⟨l, w⟩ => ⟨ds.length - (i + 1), by omega, rfl, l, w⟩, fun x H' y => ?_⟩
          have hd : ds[i]? = some ds[i] := List.getElem?_eq_getElem hlt
          obtain ⟨F3, n3, ce3, dd⟩ := (hJ.yld F2 H9 I.s1 I.nx.s i x H' _ hd y).nxt I.nx.s I.ce
          have st3 := st.nxt (I.nx.trans n3) ce3
          obtain ⟨ws3, sw3, _⟩ := st3.wipe vs
          have po2 := I.po
          rw [List.drop_eq_getElem_cons hlt] at po2
          unfold compL at po2
          cases qt : tg ds[i] (wipeE vs e) with
          | none => rw [qt] at po2; exact po2.elim
          | some e3 =>
            rw [qt] at po2
            simp only at po2
            refine hg sw3 dd qt fun σ4 ws4 st4 hw ag => ⟨ag.wipe hs, ca, F3, e3, ws4, c2, st4, ?_⟩
            cases q4 : t e3 c2 with
            | stuck => rw [q4] at po2; exact po2.elim
            | err x c => rw [q4] at po2; exact po2.elim
            | ok b c4 =>
              rw [q4] at po2
              intro F4 H4 nx4 ce4
              have st5 := st4.nxt nx4 ce4
              have n24 := n3.trans nx4
              cases b with
              | false =>
                simp only [R.ne, R.bind_ok] at po2
                rw [if_neg Bool.false_ne_true] at po2 ⊢
                obtain ⟨g1, g2⟩ := go (us := []) (bs := []) (y := []) I n24 ce4 .nil List.nodup_nil (fun a m => by cases m) (by simp) (by simpa using po2)
                refine ⟨hlt, F4, ts ++ [], as ++ [], acc ++ [], c4, ?_⟩
                have : upd H4 D0 (.lst (acc ++ [])) = H4 := by
                  funext a
                  by_cases ha : a = D0
                  · rw [ha, upd_same, g1]; simp
                  · rw [upd_ne ha]
                rw [this] at g2
                exact g2
              | true =>
                simp only [R.ne, R.bind_ok, if_true] at po2
                rw [if_pos rfl]
                refine ⟨ca, F4, e3, ws4, c4, st5, ?_⟩
                cases q5 : f e3 c4 with
                | stuck => rw [q5] at po2; exact po2.elim
                | err x c => rw [q5] at po2; exact po2.elim
                | ok x c5 =>
                  rw [q5] at po2
                  intro F5 H5 v bs nx5 ce5 o5 n5 f5
                  simp only [R.bind_ok] at po2
                  rw [bind_app] at po2
                  have n25 := n24.trans nx5
                  obtain ⟨g1, g2⟩ := go (us := [x]) (bs := bs) (y := [v]) I n25 ce5 (own_one o5) n5 (nfree n24 f5) (by simp) po2
                  refine ⟨acc, g1, ?_, hlt, F5, _, _, _, c5, g2⟩
                  rw [OwnA.length I.ow]
                  have := I.ln
                  exact lim_line' (show ts.length < 1000000 by have h : ds.length < 1000000 := hlim; omega)
        · have ei : i = ds.length := by omega
          subst ei
          refine .inl ⟨hJ.stop F2 H9 I.s1 I.nx.s, ?_⟩
          have po2 := I.po
          rw [List.drop_length] at po2
          unfold compL at po2
          simp only [R.bind_ok, List.append_nil] at po2
          exact po2 F2 H9 _ (D0 :: as) I.nx I.ce (.l I.fD I.hD I.ow) I.nd I.fr
    · rw [if_neg hlim] at po; exact po.elim
end
end Dg

set_option Elab.async false
set_option linter.all false
set_option maxRecDepth 100000
set_option maxHeartbeats 4000000
namespace Dg
open PySem PySem.Spec PyProof.Rows L2
section
variable {K : PySem.W.Frag} {mg : Str → Option Value} {W : WX} {ca : List Addr} {F F' F'' H H' H'' : Hp} {σ σ' : L2.St} {e e' : En} {ws ws' ws'' : List Addr} {cs cs' : Cs}

theorem PTs.imp {X : Cx} {ifs : List Expr} {t t' : TT} (h : PTs X ifs t) (k : ∀ σ H Q, t' σ H Q → t σ H Q) : PTs X ifs t' := ⟨fun pins s σ H Q I q => h.run pins s σ H Q I (k σ H Q q)⟩
@[simp] def tY (_ : En) (c : Cs) : R Bool := .ok true c
theorem dts_nil {X : Cx} {W : WX} : PTs X [] (rdT X.K X.mg W tY) := PTs.imp pts_nil fun σ H Q h => by
  obtain ⟨ca, F, e, ws, cs, st, po⟩ := h
  exact PoT.ret st po
theorem dts_one {X : Cx} {W : WX} {t : En → Cs → R Bool} {c : Expr} (h : PT X c (rdT X.K X.mg W t)) : PTs X [c] (rdT X.K X.mg W t) := pts_one h
theorem do_comp {X : Cx} {W : WX} {elt tg iter : Expr} {ifs : List Expr} {scope : Scope} {own : List (Str × Nat)} {pos : Pos} {it : MI} {g : TG} {is : List Nat} {tgm : D → En → Option En} {t : En → Cs → R Bool} {f : MO} (hc : X.calm = true) (hN : X.N.Nodup) (hi : PI X tg iter (rdI X.K X.mg W it)) (ok : BlkOk X.N X.env.scope scope own)
    (hd : DG X.K g is tgm) (hs : ∀ i ∈ is, i ∈ own.map (·.2))
    (hg : ∀ (s : Shared) (H : Hp) (C : Addr) (cl : List (Str × Addr)) (fp : List Addr), PG (X.blk s H scope (compEnvC scope cl C X.env) fp) tg g) (ht : ∀ (s : Shared) (H : Hp) (C : Addr) (cl : List (Str × Addr)) (fp : List Addr), PTs (X.blk s H scope (compEnvC scope cl C X.env) fp) ifs (rdT X.K X.mg W0 t))
    (he : ∀ (s : Shared) (H : Hp) (C : Addr) (cl : List (Str × Addr)) (fp : List Addr), PE (X.blk s H scope (compEnvC scope cl C X.env) fp) elt (rdO X.K X.mg W0 f)) (hf : ∀ x, foldedSetIterable iter X.env x = pure x := by intro _; rfl) :
    PE X (.ListComp elt [⟨tg, iter, ifs, 0⟩] scope pos) (rdO X.K X.mg W (oComp (own.map (·.2)) it tgm t f)) := (pe_lc hc hN hi ok hg ht he hf).imp fun _ _ _ q => rd_oComp hd hs q
theorem ds_setLc {X : Cx} {W : WX} {i : Nat} {y : Str} {py : Pos} {elt tg iter : Expr} {ifs : List Expr} {scope : Scope} {own : List (Str × Nat)} {pos spos : Pos} {it : MI} {g : TG} {is : List Nat} {tgm : D → En → Option En} {t : En → Cs → R Bool} {f : MO} (hc : X.calm = true) (hN : X.N.Nodup) (hy : X.N[i]? = some y) (hyl : X.env.scope.names.lookup y = some .local)
    (hsw : swapsWith (.ListComp elt [⟨tg, iter, ifs, 0⟩] scope pos) (some (.Name y py)) spos.line X.env = pure true) (hi : PI X tg iter (rdI X.K X.mg W it)) (ok : BlkOk X.N X.env.scope scope own) (hd : DG X.K g is tgm) (hs : ∀ i ∈ is, i ∈ own.map (·.2))
    (hg : ∀ (s : Shared) (H : Hp) (C : Addr) (cl : List (Str × Addr)) (fp : List Addr), PG (X.blk s H scope (compEnvC scope cl C X.env) fp) tg g) (ht : ∀ (s : Shared) (H : Hp) (C : Addr) (cl : List (Str × Addr)) (fp : List Addr), PTs (X.blk s H scope (compEnvC scope cl C X.env) fp) ifs (rdT X.K X.mg W0 t))
    (he : ∀ (s : Shared) (H : Hp) (C : Addr) (cl : List (Str × Addr)) (fp : List Addr), PE (X.blk s H scope (compEnvC scope cl C X.env) fp) elt (rdO X.K X.mg W0 f)) (hf : ∀ x, foldedSetIterable iter X.env x = pure x := by intro _; rfl) :
    PS X (.Assign [.Name y py] (.ListComp elt [⟨tg, iter, ifs, 0⟩] scope pos) spos) (rdS X.K X.mg W (sSet i (oComp (own.map (·.2)) it tgm t f))) :=
  (ps_setLc hc hN hy hyl hsw hi ok hg ht he hf).imp fun _ _ _ q => rd_oComp hd hs (rd_sSet q)

/-! ### own defs -/
def spM (K : PySem.W.Frag) (mg : Str → Option Value) (n : Nat) (m : List D → Cs → R T) : Sp := fun vs H Q E => ∃ ca F ds cs, Same F H ∧ ca.Nodup ∧ DdA K ca F vs ds ∧ Ce K ca F H cs ∧ ds.length = n ∧ PoO K mg (fun cls d _ H => E cls d H) ca F H [] Q (m ds cs)
mutual
@[simp] def T.clean : T → Bool
  | .v d => d.flat
  | .ol ts => T.cleanA ts
  | .ot ts => T.cleanA ts
@[simp] def T.cleanA : List T → Bool
  | [] => true
  | t :: ts => t.clean && T.cleanA ts
end
def cutF (F : Hp) (ws : List Addr) : Hp := fun a => if a ∈ ws then none else F a
theorem cutF_same {F : Hp} {ws : List Addr} : Same (cutF F ws) F := fun a o e => by
  unfold cutF at e
  by_cases h : a ∈ ws
  · rw [if_pos h] at e; cases e
  · rw [if_neg h] at e; exact e
theorem cutF_out {F : Hp} {ws : List Addr} {a : Addr} (h : a ∉ ws) : cutF F ws a = F a := if_neg h
theorem cutF_in {F : Hp} {ws : List Addr} {a : Addr} (h : a ∈ ws) : cutF F ws a = none := if_pos h
theorem Bh_cutF {F H : Hp} {ws : List Addr} (k : ∀ a ∈ ws, F a = H a) : Bh (cutF F ws) H ws = F := by
  funext a
  by_cases h : a ∈ ws
  · rw [Bh_in h, k a h]
  · rw [Bh_out h, cutF_out h]
mutual
theorem Own.cut (hl : ∀ a ∈ ws, ∃ xs, H a = some (.lst xs)) (k : ∀ a ∈ ws, F a = H a) : ∀ (t : T) (x : V) (as : List Addr), t.clean = true → Own K ca F H x t as → Own K ca (cutF F ws) H x t as
  | .v d, _, _, f, h => by
    cases h with
    | v h1 =>
      rw [← Bh_cutF k] at h1
      exact .v (Dd.unB hl d _ f h1)
  | .ol ts, _, _, f, h => by
    cases h with
    | l h1 h2 h3 => exact .l (cutF_same.free h1) h2 (OwnA.cut hl k ts _ _ f h3)
  | .ot ts, _, _, f, h => by
    cases h with
    | t h1 h2 =>
      refine .t ?_ (OwnA.cut hl k ts _ _ f h2)
      rw [cutF_out]
      · exact h1
      · intro m
        obtain ⟨xs, e⟩ := hl _ m
        rw [k _ m, e] at h1; cases h1
theorem OwnA.cut (hl : ∀ a ∈ ws, ∃ xs, H a = some (.lst xs)) (k : ∀ a ∈ ws, F a = H a) : ∀ (ts : List T) (xs : List V) (as : List Addr), T.cleanA ts = true → OwnA K ca F H xs ts as → OwnA K ca (cutF F ws) H xs ts as
  | [], _, _, _, h => by cases h; exact .nil
  | t :: ts, _, _, f, h => by
    cases h with
    | cons h1 h2 =>
      have f' : t.clean = true ∧ T.cleanA ts = true := by simpa [T.cleanA] using f
      exact .cons (Own.cut hl k t _ _ f'.1 h1) (OwnA.cut hl k ts _ _ f'.2 h2)
end
/-- behind a call: what was owned is taken out of what the callee held -/
theorem call_back (st : Stt K ca F H σ e ws cs) (nx : Nxt ca (Bh F H ws) H F' H') (ce : Ce K ca F' H' cs') :
    Nxt ca F H (cutF F' ws) H' ∧ Ce K ca (cutF F' ws) H' cs' ∧ (∀ a ∈ ws, F' a = H' a) ∧ (∀ a ∈ ws, ∃ xs, H' a = some (.lst xs)) := by
  have hw : ∀ a ∈ ws, ∃ xs, F' a = some (.lst xs) ∧ H' a = some (.lst xs) := fun a m => by
    obtain ⟨_, xs, h⟩ := Sl.ok st.sl a m
    have h1 := nx.f a (.lst xs) (by rw [Bh_in m]; exact h)
    exact ⟨xs, h1, nx.s a _ h1⟩
  have hk : ∀ a ∈ ws, F' a = H' a := fun a m => by
    obtain ⟨xs, h1, h2⟩ := hw a m
    rw [h1, h2]
  have hl : ∀ a ∈ ws, ∃ xs, H' a = some (.lst xs) := fun a m => by
    obtain ⟨xs, _, h2⟩ := hw a m
    exact ⟨xs, h2⟩
  refine ⟨⟨fun a o h => ?_, cutF_same.trans nx.s, fun a h => ?_, nx.k, nx.th⟩, ⟨ce.1, fun n a ds h1 h2 => ?_⟩, hk, hl⟩
  · have nw : a ∉ ws := fun m => by rw [st.dis a m] at h; cases h
    rw [cutF_out nw]
    exact nx.f a o (by rw [Bh_out nw]; exact h)
  · by_cases m : a ∈ ws
    · rw [cutF_in m] at h; exact absurd rfl h
    · rw [cutF_out m] at h
      rcases nx.n a h with z | z
      · rw [Bh_out m] at z; exact .inl z
      · exact .inr z
  · obtain ⟨f, xs, g1, g2, g3⟩ := ce.2 n a ds h1 h2
    refine ⟨cutF_same.free f, xs, g1, ?_, g3⟩
    rw [← Bh_cutF hk] at g2
    exact DdA.unB hl _ _ g3 g2
theorem call_out (st : Stt K ca F H σ e ws cs) {vs : List V} {ds : List D} {n : Nat} {m : List D → Cs → R T} {Q : VK} {E : XK} (dd : DdA K ca (Bh F H ws) vs ds) (hn : ds.length = n) (po : PoO K mg (fun cls d _ H => E cls d H) ca (Bh F H ws) H [] Q (m ds cs)) : spM K mg n m vs H Q E :=
  ⟨ca, Bh F H ws, ds, cs, st.bsub, (List.nodup_append.mp st.nd).2.1, dd, st.ce.hold st.dis fun a m z => (List.nodup_append.mp st.nd).2.2 a m a z rfl, hn, po⟩
@[simp] def callP (m : List D → Cs → R T) (fs : List ME) (e : En) (c : Cs) : R D := (evA fs e c).bind fun ds c => (m ds c).bind fun t c => .ok t.d c
@[simp] def callO (m : List D → Cs → R T) (fs : List ME) (e : En) (c : Cs) : R T := (evA fs e c).bind fun ds c => (m ds c).bind fun t c => if (allV e || t.clean) = true then .ok t c else .stuck
theorem rd_callP {n : Nat} {m : List D → Cs → R T} {fs : List ME} (hn : fs.length = n) {Q : VK} (h : rdP K mg W (callP m fs) σ H Q) : tCallS (spM K mg n m) (WE W) (rdPA K mg W (evA fs)) σ H Q := by
  obtain ⟨ca, F, e, ws, cs, st, po⟩ := h
  refine rdPA_bind kindP st po fun ds c1 F1 H1 vs q nx st1 dd po1 => ?_
  refine call_out (mg := mg) st1 dd (by rw [evA_len q, hn]) ?_
  cases qm : m ds c1 with
  | stuck => rw [qm] at po1; exact po1.elim
  | err x c2 =>
    rw [qm] at po1
    intro F2 H2 nx2 ce2
    obtain ⟨a1, a2, _, _⟩ := call_back st1 nx2 ce2
    exact po1 _ H2 a1 a2
  | ok t c2 =>
    rw [qm] at po1
    intro F2 H2 v as nx2 ce2 o n2 f2
    obtain ⟨a1, a2, a3, a4⟩ := call_back st1 nx2 ce2
    have hF : ∀ a ∈ as, F2 a = none := fun a m => (Own.ok _ _ _ o a m).1
    have hC : ∀ a ∈ as, cutF F2 ws a = none := fun a m => cutF_same.free (hF a m)
    have fr := st1.fresh f2
    have nx3 := Nxt.hold a1.s hC a1 f2
    refine po1 (Bh (cutF F2 ws) H2 as) H2 v nx3 (a2.hold hC fr.c) (Dd.mono (fun a o z => ?_) _ _ (Own.dd hF t v as (fun _ m => m) o))
    by_cases m : a ∈ as
    · rw [Bh_in m] at z
      rw [Bh_out (fr.w a m), Bh_in m]; exact z
    · rw [Bh_out m] at z
      by_cases mw : a ∈ ws
      · rw [Bh_in mw, ← a3 a mw]; exact z
      · rw [Bh_out mw, Bh_out m, cutF_out mw]; exact z
theorem rd_callO {n : Nat} {m : List D → Cs → R T} {fs : List ME} (hn : fs.length = n) {Q : VK} (h : rdO K mg W (callO m fs) σ H Q) : tCallS (spM K mg n m) (WE W) (rdPA K mg W (evA fs)) σ H Q := by
  obtain ⟨ca, F, e, ws, cs, st, po⟩ := h
  refine rdPA_from (ws := ws) kindO (Nxt.refl st.same) st po fun ds c1 F1 H1 vs q nx _ st1 dd po1 => ?_
  refine call_out (mg := mg) st1 dd (by rw [evA_len q, hn]) ?_
  cases qm : m ds c1 with
  | stuck => rw [qm] at po1; exact po1.elim
  | err x c2 =>
    rw [qm] at po1
    intro F2 H2 nx2 ce2
    obtain ⟨a1, a2, _, _⟩ := call_back st1 nx2 ce2
    exact po1 _ H2 (nx.trans a1) a2
  | ok t c2 =>
    rw [qm] at po1
    intro F2 H2 v as nx2 ce2 o n2 f2
    obtain ⟨a1, a2, a3, a4⟩ := call_back st1 nx2 ce2
    simp only [R.bind_ok] at po1
    by_cases hf : (allV e || t.clean) = true
    · rw [if_pos hf] at po1
      refine po1 _ H2 v as (nx.trans a1) a2 ?_ n2 (nfree nx f2)
      rw [Bool.or_eq_true] at hf
      rcases hf with hf | hf
      · have := Sl.allV st1.sl hf
        subst this
        have e0 : cutF F2 [] = F2 := by funext a; exact cutF_out (by simp)
        rw [e0]; exact o
      · exact Own.cut a4 a3 t v as hf o
    · rw [if_neg hf] at po1; exact po1.elim
theorem dp_call {X : Cx} {W : WX} {n k : Nat} {m : List D → Cs → R T} {fs : List ME} {f : Addr} {fd : FuncData} {ps : List Str} {x : Str} {a : Expr} {as : List Expr} {p pos : Pos} (tk : Takes X W) (G : FnOk X.prog X.w X.K X.mg X.base (L2.CX X.prog X.w) k f fd ps (spM X.K X.mg n m)) (hr : Room k X.A) (hg : Gl X x) (hm : X.mg x = some (.ref f)) (hk : PySem.W.keepIn X.K (.ref f) = true) (hb : Binds X.K fd ps [])
    (hn : fs.length = n) (ha : PA X (a :: as) (rdPA X.K X.mg W (evA fs))) (hdb : (x == ("__debug__" : Str)) = false := by decide) (he : starEach (a :: as) X.env = (false, eval a X.env) :: starEach as X.env := by rfl) (hpl : (backTo pos (starEach as X.env)).any (·.1) = false := by rfl) :
    PE X (.Call (.Name x p) (a :: as) [] pos) (rdP X.K X.mg W (callP m fs)) := (pe_callS G hr hg hm hk hb (fun σ => passAt tk σ) ha hdb he hpl).imp fun _ _ _ q => rd_callP hn q
theorem do_call {X : Cx} {W : WX} {n k : Nat} {m : List D → Cs → R T} {fs : List ME} {f : Addr} {fd : FuncData} {ps : List Str} {x : Str} {a : Expr} {as : List Expr} {p pos : Pos} (tk : Takes X W) (G : FnOk X.prog X.w X.K X.mg X.base (L2.CX X.prog X.w) k f fd ps (spM X.K X.mg n m)) (hr : Room k X.A) (hg : Gl X x) (hm : X.mg x = some (.ref f)) (hk : PySem.W.keepIn X.K (.ref f) = true) (hb : Binds X.K fd ps [])
    (hn : fs.length = n) (ha : PA X (a :: as) (rdPA X.K X.mg W (evA fs))) (hdb : (x == ("__debug__" : Str)) = false := by decide) (he : starEach (a :: as) X.env = (false, eval a X.env) :: starEach as X.env := by rfl) (hpl : (backTo pos (starEach as X.env)).any (·.1) = false := by rfl) :
    PE X (.Call (.Name x p) (a :: as) [] pos) (rdO X.K X.mg W (callO m fs)) := (pe_callS G hr hg hm hk hb (fun σ => passAt tk σ) ha hdb he hpl).imp fun _ _ _ q => rd_callO hn q
/-! ### raise -/
@[simp] def sRaise (x : Str) (e : En) (c : Cs) : R Fl := .ok (.er x e) c
theorem ds_raise {X : Cx} {W : WX} {x : Str} {C : Addr} {e : Expr} {pos : Pos} (hc : X.calm = true) (tk : Takes X W) (he : PMk X e (fun _ H Q => Q (.ref C) none H)) (hm : X.mg x = some (.ref C)) : PS X (.Raise (some e) none pos) (rdS X.K X.mg W (sRaise x)) :=
  (ps_raise hc tk he).imp fun Dn σ H h => by
    obtain ⟨ca, F, e, ws, cs, st, po⟩ := h
    exact po F H σ ws NxS.refl st C hm
/-! ### isinstance of built-in classes -/
def tyN : D → String
  | .non => "NoneType"
  | .bl _ => "bool"
  | .int _ => "int"
  | .str _ => "str"
  | .lst _ => "list"
  | .tup _ => "tuple"
  | .scr _ => "list"
  | .cell _ => "list"
  | .exc _ => "?"
  | .ob _ _ _ => "?"
/-- as kitB; of what is caught nothing is told -/
def kitQ (a b : String) : Option Bool := if (a == "?") = true then none else kitB a b
theorem kitQ_ok {a b : String} {r : Bool} (h : kitQ a b = some r) : a ≠ "?" ∧ kitB a b = some r := by
  unfold kitQ at h
  split at h
  · cases h
  · rename_i n; exact ⟨fun z => n (by rw [z]; rfl), h⟩
theorem Dd.ty {v : V} {d : D} (st : Stt K ca F H σ e ws cs) (h : Dd K ca (Bh F H ws) v d) (nq : tyN d ≠ "?") : TyX K H v (.type (tyN d)) := by
  cases h with
  | non => exact .base .non
  | bl b => exact .base (.bl b)
  | int i => exact .base (.int i)
  | str x => exact .base (.str x)
  | lst h1 h2 => exact .base (.lst (st.bsub _ _ h1))
  | tup h1 h2 =>
    rcases h1 with (h1 | ⟨o, h1⟩) | ⟨o, its, n, k1, k2, _⟩
    · exact .base (.tup (st.bsub _ _ h1))
    · exact .fTuple (st.bsub _ _ h1)
    · exact .kTuple k1 k2
  | scr h1 =>
    rcases h1 with ⟨o, h1⟩ | ⟨o, its, n, k1, k2, _⟩
    · exact .base (.frz (st.bsub _ _ h1))
    · exact .kList k1 k2
  | cell h1 =>
    obtain ⟨_, xs, h2⟩ := st.ce.there (List.mem_of_getElem? h1)
    exact .base (.lst h2)
  | exc h1 h2 => exact absurd rfl nq
  | ob h1 h2 h3 h4 => exact absurd rfl nq
def kitBs (a : String) : List String → Option Bool
  | [] => if (a == "?") = true then none else some false
  | t :: ts => match kitQ a t with
    | some true => some true
    | some false => kitBs a ts
    | none => none
theorem kitBs_ok {a : String} : ∀ {ts : List String} {b : Bool}, kitBs a ts = some b → PySem.W.kitAny K (.type a) (ts.map Value.type) = some b
  | [], b, h => by
    unfold kitBs at h
    split at h
    · cases h
    · cases h; exact kitAny_nil
  | t :: ts, b, h => by
    unfold kitBs at h
    cases q : kitQ a t with
    | none => rw [q] at h; cases h
    | some c =>
      rw [q] at h
      cases c with
      | true => cases h; exact kitAny_cons (kit_ty (kitQ_ok q).2) (fun z => by cases z) (fun _ => rfl)
      | false => exact kitAny_cons (kit_ty (kitQ_ok q).2) (fun _ => kitBs_ok h) (fun z => by cases z)
theorem kitBs_nq {a : String} : ∀ {ts : List String} {b : Bool}, kitBs a ts = some b → a ≠ "?"
  | [], b, h => by
    unfold kitBs at h
    split at h
    · cases h
    · rename_i n; exact fun z => n (by rw [z]; rfl)
  | t :: ts, b, h => by
    unfold kitBs at h
    cases q : kitQ a t with
    | none => rw [q] at h; cases h
    | some c => exact (kitQ_ok q).1
@[simp] def isiP (t : String) (f : ME) (e : En) (c : Cs) : R D := (f e c).bind fun x c => R.of ((kitQ (tyN x) t).map .bl) c
@[simp] def isiPs (ts : List String) (f : ME) (e : En) (c : Cs) : R D := (f e c).bind fun x c => R.of ((kitBs (tyN x) ts).map .bl) c
theorem rd_isi {t : String} {f : ME} {Q : VK} (h : rdP K mg W (isiP t f) σ H Q) : tCB (rIsi K) (tCons (rdP K mg W f) (tCons (tC (.ty t)) tNil)) σ H Q := by
  obtain ⟨ca, F, e, ws, cs, st, po⟩ := h
  refine rdP_bind kindP st po fun x c1 F1 H1 v _ nx st1 dx po1 => ?_
  obtain ⟨d, hd, po2⟩ := po1.of
  simp only [Option.map_eq_some_iff] at hd
  obtain ⟨b, hb, rfl⟩ := hd
  exact ⟨v, .ty t, .type (tyN x), .type t, b, rfl, .ty t, Dd.ty st1 dx (kitQ_ok hb).1, kit_ty (kitQ_ok hb).2, PoP.ret st1 po2 (.bl b)⟩
theorem dp_isi {X : Cx} {W : WX} {t : String} {f : ME} {a : Expr} {tn : Str} {p p2 pos : Pos} (hg : Gl X "isinstance") (hm : X.mg "isinstance" = none) (hg2 : Gl X tn) (hm2 : X.mg tn = none) (hv2 : bootBuiltins tn = some (.type t)) (ha : PE X a (rdP X.K X.mg W f)) (hn : tn ≠ "__name__" := by decide) (hdb : (tn == ("__debug__" : Str)) = false := by decide)
    (he : starEach [a, .Name tn p2] X.env = (false, eval a X.env) :: starEach [.Name tn p2] X.env := by rfl) (he2 : starEach [.Name tn p2] X.env = (false, eval (.Name tn p2) X.env) :: starEach [] X.env := by rfl) (hpl : (backTo pos (starEach [.Name tn p2] X.env)).any (·.1) = false := by rfl) :
    PE X (.Call (.Name "isinstance" p) [a, .Name tn p2] [] pos) (rdP X.K X.mg W (isiP t f)) :=
  (pe_callB call_isi hg hm (by decide +kernel) (pa_cons ha (pa_cons (pe_bltn (v := .ty t) hg2 hm2 hv2 rfl hn hdb) pa_nil he2) he) (by decide) (by decide) he hpl).imp fun _ _ _ q => rd_isi q
/-- the classes of a written tuple -/
structure TyNames (X : Cx) (es : List Expr) (ts : List String) : Prop where
  pa : PA X es (fun _ H Q => Q (ts.map V.ty) H)
theorem tn_nil {X : Cx} : TyNames X [] [] := ⟨pa_nil⟩
theorem tn_cons {X : Cx} {tn : Str} {t : String} {ts : List String} {es : List Expr} {p2 : Pos} (hg2 : Gl X tn) (hm2 : X.mg tn = none) (hv2 : bootBuiltins tn = some (.type t)) (h : TyNames X es ts) (hn : tn ≠ "__name__" := by decide) (hdb : (tn == ("__debug__" : Str)) = false := by decide)
    (he2 : starEach (.Name tn p2 :: es) X.env = (false, eval (.Name tn p2) X.env) :: starEach es X.env := by rfl) : TyNames X (.Name tn p2 :: es) (t :: ts) :=
  ⟨(pa_cons (pe_bltn (v := .ty t) hg2 hm2 hv2 rfl hn hdb) h.pa he2).imp fun _ _ _ q => q⟩
theorem clsV_all : ∀ ts : List String, Paired ClsV (ts.map V.ty) (ts.map Value.type)
  | [] => .nil
  | t :: ts => .cons (.ty t) (clsV_all ts)
theorem rd_isis {ts : List String} (hl : ts.length ≤ 1000) {f : ME} {Q : VK} (h : rdP K mg W (isiPs ts f) σ H Q) : tCB (rIsiT K) (tCons (rdP K mg W f) (tCons (tTup fun _ H Q => Q (ts.map V.ty) H) tNil)) σ H Q := by
  obtain ⟨ca, F, e, ws, cs, st, po⟩ := h
  refine rdP_bind kindP st po fun x c1 F1 H1 v _ nx st1 dx po1 => ?_
  obtain ⟨d, hd, po2⟩ := po1.of
  simp only [Option.map_eq_some_iff] at hd
  obtain ⟨b, hb, rfl⟩ := hd
  refine ⟨by rw [List.length_map, sizeLine_eq]; omega, fun p hp => ?_⟩
  have nn : Nxt ca F1 H1 (upd F1 p (.tup (ts.map V.ty))) (upd H1 p (.tup (ts.map V.ty))) := Nxt.new st1.same hp
  have st2 := st1.nxt nn (st1.ce.new st1.same hp)
  exact ⟨v, p, ts.map V.ty, .type (tyN x), ts.map Value.type, b, rfl, upd_same, clsV_all ts, Dd.ty st2 (Dd.mono (st1.bmono nn) _ _ dx) (kitBs_nq hb), kitBs_ok hb, PoP.ret st2 (PoP.step po2 nn) (.bl b)⟩
theorem dp_isis {X : Cx} {W : WX} {ts : List String} {f : ME} {a : Expr} {es : List Expr} {k1 : Nat} {p p2 pos : Pos} (hg : Gl X "isinstance") (hm : X.mg "isinstance" = none) (hT : TyNames X es ts) (ha : PE X a (rdP X.K X.mg W f)) (hl : ts.length ≤ 1000 := by decide)
    (he : starEach [a, .Tuple es k1 p2] X.env = (false, eval a X.env) :: starEach [.Tuple es k1 p2] X.env := by rfl) (he2 : starEach [.Tuple es k1 p2] X.env = (false, eval (.Tuple es k1 p2) X.env) :: starEach [] X.env := by rfl) (hpl : (backTo pos (starEach [.Tuple es k1 p2] X.env)).any (·.1) = false := by rfl) :
    PE X (.Call (.Name "isinstance" p) [a, .Tuple es k1 p2] [] pos) (rdP X.K X.mg W (isiPs ts f)) :=
  (pe_callB call_isiT hg hm (by decide +kernel) (pa_cons ha (pa_cons (pe_tup hT.pa) pa_nil he2) he) (by decide) (by decide) he hpl).imp fun _ _ _ q => rd_isis hl q
/-! ### a def of the text -/
@[simp] def en0 (n : Nat) (ds : List D) : En := ds.map (fun d => some (T.v d)) ++ List.replicate (n - ds.length) none
@[simp] def runB (n : Nat) (ms : MS) (ds : List D) (c : Cs) : R T := match ms (en0 n ds) c with
  | .ok (.rt t) c => .ok t c
  | .ok (.nx _) c => .ok (.v .non) c
  | .ok (.er x _) c => .err x c
  | _ => .stuck
theorem sl_nones : ∀ n : Nat, Sl K ca F H (List.replicate n none) (List.replicate n none) []
  | 0 => .nil
  | n + 1 => .no (sl_nones n)
theorem sl_start : ∀ {vs : List V} {ds : List D} (n : Nat), DdA K ca F vs ds → Sl K ca F H (vs.map some ++ List.replicate n none) (ds.map (fun d => some (T.v d)) ++ List.replicate n none) []
  | _, _, n, .nil => sl_nones n
  | _, _, n, .cons h1 h2 => Sl.so (as := []) (ws := []) (.v h1) (sl_start n h2)
theorem NxS.toNxt (x : NxS ca F H [] F' H' ws) (s : Same F' H') : Nxt ca F H F' H' := ⟨x.f, s, fun a h => by
  rcases x.n a (.inl h) with z | z | z
  · exact .inl z
  · cases z
  · exact .inr z, fun a o h q => x.k a o h (by simp) q, x.th⟩
theorem rd_def {N : List Str} {ms : MS} {n : Nat} {vs : List V} {Q : VK} {E : XK} (h : spM K mg n (runB N.length ms) vs H Q E) : rdS K mg (fun cls d _ H => E cls d H) ms { nx := fun _ H' => Q .non H', rt := Q } (L2.start N vs) H := by
  obtain ⟨ca, F, ds, cs, ss, nd, dd, ce, hn, po⟩ := h
  have hl := dd.length
  have st : Stt K ca F H (L2.start N vs) (en0 N.length ds) [] cs := ⟨ss, by unfold L2.start en0; rw [hl]; exact sl_start _ dd, by simpa using nd, ce⟩
  refine ⟨ca, F, _, [], cs, st, ?_⟩
  unfold runB at po
  cases q : ms (en0 N.length ds) cs with
  | stuck => rw [q] at po; exact po.elim
  | err x c => rw [q] at po; exact po.elim
  | ok fl c =>
    rw [q] at po
    cases fl with
    | nx e' => exact fun F' H' σ' ws' x st' => po F' H' .non [] (x.toNxt st'.same) st'.ce (.v .non) List.nodup_nil fun a m => by cases m
    | rt t =>
      intro F' H' v as x s' ce' o n'
      refine po F' H' v as (x.toNxt s') ce' o n' fun a m => ?_
      rcases x.n a (.inr m) with z | z | z
      · exfalso
        cases g : F a with
        | none => exact z g
        | some u =>
          have := x.f a u g
          rw [(Own.ok _ _ _ o a m).1] at this; cases this
      · cases z
      · exact z
    | bk e' => exact po.elim
    | ct e' => exact po.elim
    | er x e' => exact fun F' H' σ' ws' y st' => po F' H' (y.toNxt st'.same) st'.ce
end
section
variable {P : Program} {w : World} {K : PySem.W.Frag} {mg : Str → Option Value} {base : Heap}
theorem spM_len {n : Nat} {m : List D → Cs → R T} {vs : List V} {H : Hp} {Q : VK} {E : XK} (h : spM K mg n m vs H Q E) : vs.length = n := by
  obtain ⟨ca, F, ds, cs, ss, nd, dd, ce, hn, po⟩ := h
  rw [dd.length, hn]
theorem ok_def {x qual : Str} {st : Stmt} {f : Addr} {fd : FuncData} {N ps : List Str} {k n : Nat} {ms : MS} {m : List D → Cs → R T} (Fn : Fun K x qual st f fd) (S : FnScope N ps (defScope st)) (hn : ps.length = n) (hm : m = runB N.length ms)
    (body : ∀ (cdv : Value) (A : Around) (outer : List Env) (s : Shared) (H : Hp) (E : XK), Room k (A.deeper (envOfC qual (defScope st) s.heap.objs.size f cdv)) →
      PSs (cxOf (L2.CX P w) P w K mg base N qual (defScope st) f cdv A outer s H E) (defBody st) (rdS K mg (fun cls d _ H => E cls d H) ms)) : FnOk P w K mg base (L2.CX P w) (k + 1) f fd ps (spM K mg n m) := by
  subst hm
  refine Fn.okX S (fun vs H Q E h => by rw [spM_len h, hn]) fun cdv A outer s H vs Q E hr h => ⟨_, body cdv A outer s H E hr, rd_def h⟩
/-- a law without cells: the script -/
theorem law_sp {m : List D → Cs → R T} {H : Hp} {a : Addr} {ns : List Int} (hO : Only H) (hS : SqL K H a (ns.map V.int)) (h : m [.scr ns] [] = .ok (.v (.bl true)) []) : spM K mg 1 m [.ref a] H (fun v _ => v = .bl true) fun _ _ _ => False := by
  have hl : Lk K H a ns := by
    rcases hS with (z | ⟨o, z⟩) | z
    · rcases hO a with g | ⟨o, xs, g⟩
      · rw [g] at z; cases z
      · rw [g] at z; cases z
    · exact .inl ⟨o, z⟩
    · exact .inr z
  refine ⟨[], H, [.scr ns], [], Same.refl H, List.nodup_nil, .cons (.scr hl) .nil, ⟨rfl, fun n a ds h => by simp at h⟩, rfl, ?_⟩
  rw [h]
  intro F' H' v as _ _ o _ _
  cases o with
  | v o => cases o; rfl
theorem cx_end {H : Hp} {s : Shared} {e : Value} {s' : Shared} (h : L2.CX P w [] H s (fun _ _ _ => False) e s') : False := by
  obtain ⟨_, _, _, _, _, _, _, _, _, _, _, _, z⟩ := h
  exact z
end
end Dg

set_option Elab.async false
set_option linter.all false
set_option maxRecDepth 100000
set_option maxHeartbeats 4000000
namespace Dg
open PySem PySem.Spec PyProof.Rows L2
section
variable {K : PySem.W.Frag} {mg : Str → Option Value} {W : WX} {ca : List Addr} {F F' F'' H H' H'' : Hp} {σ σ' : L2.St} {e e' : En} {ws ws' ws'' : List Addr} {cs cs' : Cs}
/-! ### held from here on -/
@[simp] def oF (f : MO) (e : En) (c : Cs) : R T := (f e c).bind fun t c => .ok (.v t.d) c
theorem rd_oF {f : MO} {Q : VK} (h : rdO K mg W (oF f) σ H Q) : rdO K mg W f σ H Q := by
  obtain ⟨ca, F, e, ws, cs, st, po⟩ := h
  refine rdO_from (ws := ws) kindO (Nxt.refl st.same) st po fun x c1 F1 H1 v as _ nx _ st1 dx n1 f1 po1 => ?_
  obtain ⟨a1, a2, a3, _⟩ := held st.ce nx st1.ce dx f1
  exact po1 _ H1 v [] a1 a2 (.v a3) List.nodup_nil fun a m => by cases m
theorem do_f {X : Cx} {W : WX} {f : MO} {a : Expr} (h : PE X a (rdO X.K X.mg W f)) : PE X a (rdO X.K X.mg W (oF f)) := h.imp fun _ _ _ q => rd_oF q
theorem ds_setLcF {X : Cx} {W : WX} {i : Nat} {y : Str} {py : Pos} {elt tg iter : Expr} {ifs : List Expr} {scope : Scope} {own : List (Str × Nat)} {pos spos : Pos} {it : MI} {g : TG} {is : List Nat} {tgm : D → En → Option En} {t : En → Cs → R Bool} {f : MO} (hc : X.calm = true) (hN : X.N.Nodup) (hy : X.N[i]? = some y) (hyl : X.env.scope.names.lookup y = some .local)
    (hsw : swapsWith (.ListComp elt [⟨tg, iter, ifs, 0⟩] scope pos) (some (.Name y py)) spos.line X.env = pure true) (hi : PI X tg iter (rdI X.K X.mg W it)) (ok : BlkOk X.N X.env.scope scope own) (hd : DG X.K g is tgm) (hs : ∀ i ∈ is, i ∈ own.map (·.2))
    (hg : ∀ (s : Shared) (H : Hp) (C : Addr) (cl : List (Str × Addr)) (fp : List Addr), PG (X.blk s H scope (compEnvC scope cl C X.env) fp) tg g) (ht : ∀ (s : Shared) (H : Hp) (C : Addr) (cl : List (Str × Addr)) (fp : List Addr), PTs (X.blk s H scope (compEnvC scope cl C X.env) fp) ifs (rdT X.K X.mg W0 t))
    (he : ∀ (s : Shared) (H : Hp) (C : Addr) (cl : List (Str × Addr)) (fp : List Addr), PE (X.blk s H scope (compEnvC scope cl C X.env) fp) elt (rdO X.K X.mg W0 f)) (hf : ∀ x, foldedSetIterable iter X.env x = pure x := by intro _; rfl) :
    PS X (.Assign [.Name y py] (.ListComp elt [⟨tg, iter, ifs, 0⟩] scope pos) spos) (rdS X.K X.mg W (sSet i (oF (oComp (own.map (·.2)) it tgm t f)))) :=
  (ps_setLc hc hN hy hyl hsw hi ok hg ht he hf).imp fun _ _ _ q => rd_oComp hd hs (rd_oF (rd_sSet q))
/-- a slot's own lists are held from here on -/
@[simp] def sFrz (i : Nat) (f : MS) (e : En) (c : Cs) : R Fl := match e[i]? with
  | some (some t) => f (e.set i (some (.v t.d))) c
  | _ => f e c
theorem rd_sFrz {i : Nat} {f : MS} {Dn : Ends} (h : rdS K mg W (sFrz i f) Dn σ H) : rdS K mg W f Dn σ H := by
  obtain ⟨ca, F, e, ws, cs, st, po⟩ := h
  unfold sFrz at po
  cases q : e[i]? with
  | none => rw [q] at po; exact ⟨ca, F, e, ws, cs, st, po⟩
  | some o =>
    cases o with
    | none => rw [q] at po; exact ⟨ca, F, e, ws, cs, st, po⟩
    | some t =>
      rw [q] at po
      simp only at po
      obtain ⟨x, pre, as, post, h1, h2, h3, f4⟩ := Sl.rep st.sl i t q
      have hF : ∀ a ∈ as, F a = none := fun a m => (Own.ok _ _ _ h3 a m).1
      have nd := st.nd
      rw [h2] at nd
      have nd2 := nd
      simp only [List.nodup_append, List.mem_append] at nd2
      obtain ⟨⟨⟨n1, n2, n3⟩, n4, n5⟩, n6, n7⟩ := nd2
      have hpp : ∀ a ∈ pre ++ post, a ∉ as := fun a m z => by
        rcases List.mem_append.mp m with m | m
        · exact n3 a m a z rfl
        · exact n5 a (.inr z) a m rfl
      have sl := f4 (Bh F H as) H (.v t.d) [] (Bh_same hF) (fun a m => ⟨rfl, by
        rw [Bh_out (hpp a m)]
        exact st.dis a (by rw [h2]; simp only [List.mem_append] at m ⊢; rcases m with m | m <;> simp [m])⟩) (.v (Own.dd hF t x as (fun _ m => m) h3))
      have nca : ∀ a ∈ as, a ∉ ca := fun a m z => n7 a (.inl (.inr m)) a z rfl
      have st2 : Stt K ca (Bh F H as) H σ (e.set i (some (.v t.d))) (pre ++ [] ++ post) cs := ⟨Bh_sub st.same, sl, nodup3 nd List.nodup_nil fun a m => (by cases m), st.ce.hold hF nca⟩
      refine ⟨ca, _, _, _, cs, st2, PoS.step po ⟨Bh_same hF, fun a h => ?_, fun a o _ _ q => q, fun a h => h⟩ st2.dis⟩
      rcases h with h | h
      · by_cases m : a ∈ as
        · exact .inr (.inl (by rw [h2]; simp [m]))
        · rw [Bh_out m] at h; exact .inl h
      · refine .inr (.inl ?_)
        rw [h2]
        simp only [List.append_nil, List.mem_append] at h ⊢
        rcases h with h | h <;> simp [h]
theorem ds_frz {X : Cx} {W : WX} {f : MS} {st : Stmt} (i : Nat) (h : PS X st (rdS X.K X.mg W f)) : PS X st (rdS X.K X.mg W (sFrz i f)) := h.imp fun _ _ _ q => rd_sFrz q
/-- an item of what is held -/
@[simp] def oIx (f : MO) (g : ME) (e : En) (c : Cs) : R T := (f e c).bind fun t c => (g e c).bind fun k c => (R.of (ixD c t.d k) c).bind fun d c => .ok (.v d) c
theorem rd_oIx {f : MO} {g : ME} {Q : VK} (h : rdO K mg W (oIx f g) σ H Q) : tOp (rIx K) (rdO K mg W f) (rdP K mg W g) σ H Q := by
  obtain ⟨ca, F, e, ws, cs, st, po⟩ := h
  refine rdO_from (ws := ws) kindO (Nxt.refl st.same) st po fun t c1 F1 H1 v as _ nx b1 st1 dx n1 f1 po1 => ?_
  obtain ⟨a1, a2, a3, a4⟩ := held st.ce nx st1.ce dx f1
  have st1' := st.nxt a1 a2
  refine rdP_from (ws := ws) kindO a1 st1' po1 fun k c2 F2 H2 u _ nx2 b2 st2 dk po2 => ?_
  cases q : ixD c2 t.d k with
  | none => rw [q] at po2; exact po2.elim
  | some d =>
    rw [q] at po2
    have st0 : Stt K ca F2 H2 [] [] [] c2 := ⟨st2.same, .nil, by simpa using (List.nodup_append.mp st2.nd).2.1, st2.ce⟩
    have hk : Dd K ca (Bh F2 H2 []) u k := by
      rw [Bh_nil]
      cases k with
      | int i => cases dk; exact .int i
      | _ => cases ht : t.d <;> rw [ht] at q <;> cases q
    refine sem_ix (mg := mg) (W := W) (σ := []) (e := []) st0 (by rw [Bh_nil]; exact Dd.mono nx2.f _ _ a3) hk q ?_
    intro F3 H3 w nx3 ce3 dd
    rw [Bh_nil] at dd
    exact po2 F3 H3 w [] (b2.trans nx3) ce3 (.v dd) List.nodup_nil fun a m => by cases m
theorem do_ix {X : Cx} {W : WX} {f : MO} {g : ME} {a b : Expr} {pos : Pos} (ha : PE X a (rdO X.K X.mg W f)) (hb : PE X b (rdP X.K X.mg W g)) (hp : PlainIx b) : PE X (.Subscript a b pos) (rdO X.K X.mg W (oIx f g)) := (pe_ix ix_seq ha hb hp).imp fun _ _ _ q => rd_oIx q
end
end Dg

set_option Elab.async false
set_option linter.all false
set_option maxRecDepth 100000
set_option maxHeartbeats 4000000
namespace Dg
open PySem PySem.Spec PyProof.Rows L2
/-- what a law promises -/
def spLaw (K : PySem.W.Frag) : Sp := fun vs H Q _ => ∃ (a : Addr) (ns : List Int), vs = [.ref a] ∧ Only H ∧ SqL K H a (ns.map V.int) ∧ ns.length ≤ 63 ∧ ∀ H', Q (.bl true) H'
theorem law_imp {K : PySem.W.Frag} {mg : Str → Option Value} {m : List D → Cs → R T} (hm : ∀ ns : List Int, ns.length ≤ 63 → m [.scr ns] [] = .ok (.v (.bl true)) []) (vs : List V) (H : Hp) (Q : VK) (E : XK) (h : spLaw K vs H Q E) : spM K mg 1 m vs H Q E := by
  obtain ⟨a, ns, rfl, hO, hS, hl, q⟩ := h
  have hk : Lk K H a ns := by
    rcases hS with (z | ⟨o, z⟩) | z
    · rcases hO a with g | ⟨o, xs, g⟩
      · rw [g] at z; cases z
      · rw [g] at z; cases z
    · exact .inl ⟨o, z⟩
    · exact .inr z
  refine ⟨[], H, [.scr ns], [], Same.refl H, List.nodup_nil, .cons (.scr hk) .nil, ⟨rfl, fun n a ds h => by simp at h⟩, rfl, ?_⟩
  rw [hm ns hl]
  intro F' H' v as _ _ o _ _
  cases o with
  | v o => cases o; exact q _
theorem walk_law {l : PySem.W.OpenLaw} {k : Nat} {q : Program} {loose : List Str} {XP : (Str → Option Value) → Heap → Prop} {YP : World → Heap → Prop} {d : DefRec} {K : Params → PySem.W.Frag} {x : Str} {m : List D → Cs → R T} (hn : l.most = some 63) (hdf : d.params.defaults = []) (hr : Room k callerA)
    (hY : ∀ (w : World) (h : Heap), YP w h → (K w.params).In h) (hm : ∀ ns : List Int, ns.length ≤ 63 → m [.scr ns] [] = .ok (.v (.bl true)) [])
    (F : ∀ (w : World) (mg : Str → Option Value) (fa : Addr) (h : Heap), (K w.params).In h → h.Ns mainGlobals mg → mg d.name = some (.ref fa) →
      ∃ fd : FuncData, (∀ (s : Shared) (u : Value), BindsTo s fd ⟨[u], []⟩ [(x, u)]) ∧ ∀ base : Heap, (K w.params).In base → base.Ns mainGlobals mg → FnOk l.prog w (K w.params) mg base (L2.CX l.prog w) k fa fd [x] (spM (K w.params) mg 1 m)) :
    PySem.W.WalkO q loose XP YP l.row.toRowW d [] (fun f vs => PySem.call f vs) :=
  L2.walk_of (n := 63) (k := k) (x := x) (CX := fun w => L2.CX l.prog w) (sp := fun w => spLaw (K w.params)) hn (by decide) hdf hr hY
    (fun w mg fa h KX G e => by
      obtain ⟨fd, h1, h2⟩ := F w mg fa h KX G e
      exact ⟨fd, h1, fun base a b => (h2 base a b).imp (fun vs H Q E z => law_imp hm vs H Q E z)⟩)
    (fun _ _ a ns hl hO hS => ⟨a, ns, rfl, hO, hS, hl, fun _ => rfl⟩) fun _ _ _ _ _ h => cx_end h
end Dg

set_option Elab.async false
set_option linter.all false
set_option maxRecDepth 100000
set_option maxHeartbeats 4000000
namespace Dg
open PySem PySem.Spec PyProof.Rows L2
/-! ### loops, turn by turn -/
theorem whileN_succ {t : En → Cs → R Bool} {body : MS} {n : Nat} {e e2 : En} {c c1 c2 : Cs} (ht : t e c = .ok true c1) (hb : body e c1 = .ok (.nx e2) c2) : whileN t body (n + 1) e c = whileN t body n e2 c2 := by
  rw [whileN, ht]
  simp only [R.toS, if_true, hb]
theorem while_t {t : En → Cs → R Bool} {body : MS} {e e2 : En} {c c1 c2 : Cs} (ht : t e c = .ok true c1) (hb : body e c1 = .ok (.nx e2) c2) : sWhile t body e c = sWhile t body e2 c2 := by
  by_cases h : sWhile t body e2 c2 = .stuck
  · by_cases h2 : sWhile t body e c = .stuck
    · rw [h, h2]
    · obtain ⟨n, hn⟩ := sWhile_some h2
      cases n with
      | zero => rw [← hn] at h2; exact absurd rfl h2
      | succ n =>
        rw [whileN_succ ht hb] at hn
        have h3 := sWhile_eq hn h2
        rw [h] at h3; exact absurd h3.symm h2
  · obtain ⟨n, hn⟩ := sWhile_some h
    exact sWhile_eq (n := n + 1) ((whileN_succ ht hb).trans hn) h
theorem while_f {t : En → Cs → R Bool} {body : MS} {e : En} {c c1 : Cs} (ht : t e c = .ok false c1) : sWhile t body e c = .ok (.nx e) c1 := by
  refine sWhile_eq (n := 1) ?_ (by intro z; cases z)
  rw [whileN, ht]
  rfl
theorem forL_nil {tg : D → En → Option En} {body : MS} {e : En} {c : Cs} : forL tg body [] e c = .ok (.nx e) c := rfl
theorem forL_nx {tg : D → En → Option En} {body : MS} {d : D} {ds : List D} {e e1 e2 : En} {c c2 : Cs} (ht : tg d e = some e1) (hb : body e1 c = .ok (.nx e2) c2) : forL tg body (d :: ds) e c = forL tg body ds e2 c2 := by
  rw [forL, ht]; simp only [hb]
theorem forL_ct {tg : D → En → Option En} {body : MS} {d : D} {ds : List D} {e e1 e2 : En} {c c2 : Cs} (ht : tg d e = some e1) (hb : body e1 c = .ok (.ct e2) c2) : forL tg body (d :: ds) e c = forL tg body ds e2 c2 := by
  rw [forL, ht]; simp only [hb]
theorem forL_bk {tg : D → En → Option En} {body : MS} {d : D} {ds : List D} {e e1 e2 : En} {c c2 : Cs} (ht : tg d e = some e1) (hb : body e1 c = .ok (.bk e2) c2) : forL tg body (d :: ds) e c = .ok (.nx e2) c2 := by
  rw [forL, ht]; simp only [hb]
theorem forL_rt {tg : D → En → Option En} {body : MS} {d : D} {ds : List D} {e e1 : En} {t : T} {c c2 : Cs} (ht : tg d e = some e1) (hb : body e1 c = .ok (.rt t) c2) : forL tg body (d :: ds) e c = .ok (.rt t) c2 := by
  rw [forL, ht]; simp only [hb]
theorem forL_er {tg : D → En → Option En} {body : MS} {d : D} {ds : List D} {e e1 e2 : En} {x : Str} {c c2 : Cs} (ht : tg d e = some e1) (hb : body e1 c = .ok (.er x e2) c2) : forL tg body (d :: ds) e c = .ok (.er x e2) c2 := by
  rw [forL, ht]; simp only [hb]
/-! ### comparisons of ints -/
@[simp] theorem eqD_int (c : Cs) (i j : Int) : eqD c (.int i) (.int j) = some (.bl (i == j)) := rfl
@[simp] theorem neD_int (c : Cs) (i j : Int) : neD c (.int i) (.int j) = some (.bl (!(i == j))) := rfl
@[simp] theorem addD_int (c : Cs) (i j : Int) : addD c (.int i) (.int j) = some (.int (i + j)) := rfl
@[simp] theorem subD_int (c : Cs) (i j : Int) : subD c (.int i) (.int j) = some (.int (i - j)) := rfl
@[simp] theorem ltD_int (g : Int → Int → Bool) (c : Cs) (i j : Int) : intCmp g c (.int i) (.int j) = some (.bl (g i j)) := rfl
theorem mulD_int {c : Cs} {i j : Int} (h : okMul i j = true) : mulD c (.int i) (.int j) = some (.int (i * j)) := by simp only [mulD, h, if_true]
theorem divD_int {c : Cs} {i j : Int} (h : okDiv i j = true) : divD c (.int i) (.int j) = some (.int (dvI i j)) := by simp only [intOp, h, if_true]
theorem modD_int {c : Cs} {i j : Int} (h : 0 < j) : modD c (.int i) (.int j) = some (.int (i % j)) := by simp only [intOp, okMod, decide_eq_true h, if_true]
@[simp] theorem inR_0 : inR 0 := ⟨by decide, by decide⟩
@[simp] theorem inR_1 : inR 1 := ⟨by decide, by decide⟩
@[simp] theorem inR_2 : inR 2 := ⟨by decide, by decide⟩
@[simp] theorem inR_3 : inR 3 := ⟨by decide, by decide⟩
@[simp] theorem inR_4 : inR 4 := ⟨by decide, by decide⟩
@[simp] theorem inR_5 : inR 5 := ⟨by decide, by decide⟩
@[simp] theorem inR_6 : inR 6 := ⟨by decide, by decide⟩
@[simp] theorem inR_7 : inR 7 := ⟨by decide, by decide⟩
@[simp] theorem inR_8 : inR 8 := ⟨by decide, by decide⟩
@[simp] theorem inR_9 : inR 9 := ⟨by decide, by decide⟩
@[simp] theorem inR_10 : inR 10 := ⟨by decide, by decide⟩
@[simp] theorem inR_11 : inR 11 := ⟨by decide, by decide⟩
@[simp] theorem inR_12 : inR 12 := ⟨by decide, by decide⟩
@[simp] theorem inR_13 : inR 13 := ⟨by decide, by decide⟩
@[simp] theorem inR_14 : inR 14 := ⟨by decide, by decide⟩
@[simp] theorem inR_15 : inR 15 := ⟨by decide, by decide⟩
@[simp] theorem inR_16 : inR 16 := ⟨by decide, by decide⟩
@[simp] theorem inR_17 : inR 17 := ⟨by decide, by decide⟩
@[simp] theorem inR_18 : inR 18 := ⟨by decide, by decide⟩
@[simp] theorem inR_19 : inR 19 := ⟨by decide, by decide⟩
@[simp] theorem inR_20 : inR 20 := ⟨by decide, by decide⟩
@[simp] theorem inR_21 : inR 21 := ⟨by decide, by decide⟩
@[simp] theorem inR_22 : inR 22 := ⟨by decide, by decide⟩
@[simp] theorem inR_23 : inR 23 := ⟨by decide, by decide⟩
@[simp] theorem inR_24 : inR 24 := ⟨by decide, by decide⟩
/-! ### kept, by kind -/
@[simp] theorem keepD_int (e : En) (i : Int) : keepD e (.int i) = some (.v (.int i)) := by simp [keepD]
@[simp] theorem keepD_bl (e : En) (b : Bool) : keepD e (.bl b) = some (.v (.bl b)) := by simp [keepD]
@[simp] theorem keepD_str (e : En) (x : Str) : keepD e (.str x) = some (.v (.str x)) := by simp [keepD]
@[simp] theorem keepD_non (e : En) : keepD e .non = some (.v .non) := by simp [keepD]
@[simp] theorem keepD_scr (e : En) (l : List Int) : keepD e (.scr l) = some (.v (.scr l)) := by simp [keepD]
@[simp] theorem keepD_cell (e : En) (n : Nat) : keepD e (.cell n) = some (.v (.cell n)) := by simp [keepD]
@[simp] theorem keepD_tup (e : En) (l : List D) : keepD e (.tup l) = if allV e = true ∨ D.flatA l = true then some (.v (.tup l)) else none := by simp [keepD]
@[simp] theorem keepD_lst (e : En) (l : List D) : keepD e (.lst l) = if allV e = true ∨ D.flatA l = true then some (.ol (l.map T.v)) else none := by simp [keepD]
@[simp] theorem isNonD_non : isNonD .non = true := rfl
@[simp] theorem isNonD_int (i : Int) : isNonD (.int i) = false := rfl
@[simp] theorem isNonD_bl (i : Bool) : isNonD (.bl i) = false := rfl
@[simp] theorem isNonD_str (i : Str) : isNonD (.str i) = false := rfl
@[simp] theorem isNonD_tup (i : List D) : isNonD (.tup i) = false := rfl
@[simp] theorem isNonD_lst (i : List D) : isNonD (.lst i) = false := rfl
@[simp] theorem tyN_non : tyN .non = "NoneType" := rfl
@[simp] theorem tyN_int (i : Int) : tyN (.int i) = "int" := rfl
@[simp] theorem tyN_bl (i : Bool) : tyN (.bl i) = "bool" := rfl
@[simp] theorem tyN_str (i : Str) : tyN (.str i) = "str" := rfl
@[simp] theorem tyN_tup (i : List D) : tyN (.tup i) = "tuple" := rfl
@[simp] theorem tyN_lst (i : List D) : tyN (.lst i) = "list" := rfl
@[simp] theorem tyN_scr (i : List Int) : tyN (.scr i) = "list" := rfl
/-! ### places -/
@[simp] theorem ix_0 {α : Type} (a0 : α) (l : List α) : atI (a0 :: l) 0 = some a0 := atI_nat (j := 0) rfl
@[simp] theorem ix_1 {α : Type} (a0 a1 : α) (l : List α) : atI (a0 :: a1 :: l) 1 = some a1 := atI_nat (j := 1) rfl
@[simp] theorem ix_2 {α : Type} (a0 a1 a2 : α) (l : List α) : atI (a0 :: a1 :: a2 :: l) 2 = some a2 := atI_nat (j := 2) rfl
@[simp] theorem ix_3 {α : Type} (a0 a1 a2 a3 : α) (l : List α) : atI (a0 :: a1 :: a2 :: a3 :: l) 3 = some a3 := atI_nat (j := 3) rfl
@[simp] theorem ix_4 {α : Type} (a0 a1 a2 a3 a4 : α) (l : List α) : atI (a0 :: a1 :: a2 :: a3 :: a4 :: l) 4 = some a4 := atI_nat (j := 4) rfl
@[simp] theorem ix_5 {α : Type} (a0 a1 a2 a3 a4 a5 : α) (l : List α) : atI (a0 :: a1 :: a2 :: a3 :: a4 :: a5 :: l) 5 = some a5 := atI_nat (j := 5) rfl
@[simp] theorem ix_6 {α : Type} (a0 a1 a2 a3 a4 a5 a6 : α) (l : List α) : atI (a0 :: a1 :: a2 :: a3 :: a4 :: a5 :: a6 :: l) 6 = some a6 := atI_nat (j := 6) rfl
@[simp] theorem ix_7 {α : Type} (a0 a1 a2 a3 a4 a5 a6 a7 : α) (l : List α) : atI (a0 :: a1 :: a2 :: a3 :: a4 :: a5 :: a6 :: a7 :: l) 7 = some a7 := atI_nat (j := 7) rfl
@[simp] theorem ix_8 {α : Type} (a0 a1 a2 a3 a4 a5 a6 a7 a8 : α) (l : List α) : atI (a0 :: a1 :: a2 :: a3 :: a4 :: a5 :: a6 :: a7 :: a8 :: l) 8 = some a8 := atI_nat (j := 8) rfl
@[simp] theorem ix_9 {α : Type} (a0 a1 a2 a3 a4 a5 a6 a7 a8 a9 : α) (l : List α) : atI (a0 :: a1 :: a2 :: a3 :: a4 :: a5 :: a6 :: a7 :: a8 :: a9 :: l) 9 = some a9 := atI_nat (j := 9) rfl
@[simp] theorem ix_10 {α : Type} (a0 a1 a2 a3 a4 a5 a6 a7 a8 a9 a10 : α) (l : List α) : atI (a0 :: a1 :: a2 :: a3 :: a4 :: a5 :: a6 :: a7 :: a8 :: a9 :: a10 :: l) 10 = some a10 := atI_nat (j := 10) rfl
@[simp] theorem ix_11 {α : Type} (a0 a1 a2 a3 a4 a5 a6 a7 a8 a9 a10 a11 : α) (l : List α) : atI (a0 :: a1 :: a2 :: a3 :: a4 :: a5 :: a6 :: a7 :: a8 :: a9 :: a10 :: a11 :: l) 11 = some a11 := atI_nat (j := 11) rfl
@[simp] theorem ix_12 {α : Type} (a0 a1 a2 a3 a4 a5 a6 a7 a8 a9 a10 a11 a12 : α) (l : List α) : atI (a0 :: a1 :: a2 :: a3 :: a4 :: a5 :: a6 :: a7 :: a8 :: a9 :: a10 :: a11 :: a12 :: l) 12 = some a12 := atI_nat (j := 12) rfl
@[simp] theorem ix_13 {α : Type} (a0 a1 a2 a3 a4 a5 a6 a7 a8 a9 a10 a11 a12 a13 : α) (l : List α) : atI (a0 :: a1 :: a2 :: a3 :: a4 :: a5 :: a6 :: a7 :: a8 :: a9 :: a10 :: a11 :: a12 :: a13 :: l) 13 = some a13 := atI_nat (j := 13) rfl
@[simp] theorem ix_14 {α : Type} (a0 a1 a2 a3 a4 a5 a6 a7 a8 a9 a10 a11 a12 a13 a14 : α) (l : List α) : atI (a0 :: a1 :: a2 :: a3 :: a4 :: a5 :: a6 :: a7 :: a8 :: a9 :: a10 :: a11 :: a12 :: a13 :: a14 :: l) 14 = some a14 := atI_nat (j := 14) rfl
@[simp] theorem ixD_tup (c : Cs) (l : List D) (i : Int) : ixD c (.tup l) (.int i) = atI l i := rfl
@[simp] theorem ixD_lst (c : Cs) (l : List D) (i : Int) : ixD c (.lst l) (.int i) = atI l i := rfl
@[simp] theorem ixD_scr (c : Cs) (l : List Int) (i : Int) : ixD c (.scr l) (.int i) = (atI l i).map .int := rfl
theorem ix_nat {α : Type} {l : List α} {j : Nat} (h : j < l.length) : atI l (j : Int) = some l[j] := atI_nat (by rw [List.getElem?_eq_getElem h])
@[simp] theorem lenD_lst (c : Cs) (l : List D) : lenD c [.lst l] = some (.int l.length) := rfl
@[simp] theorem lenD_tup (c : Cs) (l : List D) : lenD c [.tup l] = some (.int l.length) := rfl
@[simp] theorem lenD_scr (c : Cs) (l : List Int) : lenD c [.scr l] = some (.int l.length) := rfl
@[simp] theorem addD_lst (c : Cs) (l m : List D) : addD c (.lst l) (.lst m) = if l.length + m.length < LIM then some (.lst (l ++ m)) else none := rfl
@[simp] theorem addD_tup (c : Cs) (l m : List D) : addD c (.tup l) (.tup m) = if l.length + m.length < LIM then some (.tup (l ++ m)) else none := rfl
@[simp] theorem addD_scr (c : Cs) (ns : List Int) (m : List D) : addD c (.scr ns) (.lst m) = if ns.length + m.length < LIM then some (.lst (ns.map .int ++ m)) else none := by
  simp [addD]
/-! ### classes -/
@[simp] theorem kit_NoneType_int : kitQ "NoneType" "int" = some false := by decide +kernel
@[simp] theorem kit_NoneType_bool : kitQ "NoneType" "bool" = some false := by decide +kernel
@[simp] theorem kit_NoneType_str : kitQ "NoneType" "str" = some false := by decide +kernel
@[simp] theorem kit_NoneType_list : kitQ "NoneType" "list" = some false := by decide +kernel
@[simp] theorem kit_NoneType_tuple : kitQ "NoneType" "tuple" = some false := by decide +kernel
@[simp] theorem kit_NoneType_dict : kitQ "NoneType" "dict" = some false := by decide +kernel
@[simp] theorem kit_bool_int : kitQ "bool" "int" = some true := by decide +kernel
@[simp] theorem kit_bool_bool : kitQ "bool" "bool" = some true := by decide +kernel
@[simp] theorem kit_bool_str : kitQ "bool" "str" = some false := by decide +kernel
@[simp] theorem kit_bool_list : kitQ "bool" "list" = some false := by decide +kernel
@[simp] theorem kit_bool_tuple : kitQ "bool" "tuple" = some false := by decide +kernel
@[simp] theorem kit_bool_dict : kitQ "bool" "dict" = some false := by decide +kernel
@[simp] theorem kit_int_int : kitQ "int" "int" = some true := by decide +kernel
@[simp] theorem kit_int_bool : kitQ "int" "bool" = some false := by decide +kernel
@[simp] theorem kit_int_str : kitQ "int" "str" = some false := by decide +kernel
@[simp] theorem kit_int_list : kitQ "int" "list" = some false := by decide +kernel
@[simp] theorem kit_int_tuple : kitQ "int" "tuple" = some false := by decide +kernel
@[simp] theorem kit_int_dict : kitQ "int" "dict" = some false := by decide +kernel
@[simp] theorem kit_str_int : kitQ "str" "int" = some false := by decide +kernel
@[simp] theorem kit_str_bool : kitQ "str" "bool" = some false := by decide +kernel
@[simp] theorem kit_str_str : kitQ "str" "str" = some true := by decide +kernel
@[simp] theorem kit_str_list : kitQ "str" "list" = some false := by decide +kernel
@[simp] theorem kit_str_tuple : kitQ "str" "tuple" = some false := by decide +kernel
@[simp] theorem kit_str_dict : kitQ "str" "dict" = some false := by decide +kernel
@[simp] theorem kit_list_int : kitQ "list" "int" = some false := by decide +kernel
@[simp] theorem kit_list_bool : kitQ "list" "bool" = some false := by decide +kernel
@[simp] theorem kit_list_str : kitQ "list" "str" = some false := by decide +kernel
@[simp] theorem kit_list_list : kitQ "list" "list" = some true := by decide +kernel
@[simp] theorem kit_list_tuple : kitQ "list" "tuple" = some false := by decide +kernel
@[simp] theorem kit_list_dict : kitQ "list" "dict" = some false := by decide +kernel
@[simp] theorem kit_tuple_int : kitQ "tuple" "int" = some false := by decide +kernel
@[simp] theorem kit_tuple_bool : kitQ "tuple" "bool" = some false := by decide +kernel
@[simp] theorem kit_tuple_str : kitQ "tuple" "str" = some false := by decide +kernel
@[simp] theorem kit_tuple_list : kitQ "tuple" "list" = some false := by decide +kernel
@[simp] theorem kit_tuple_tuple : kitQ "tuple" "tuple" = some true := by decide +kernel
@[simp] theorem kit_tuple_dict : kitQ "tuple" "dict" = some false := by decide +kernel
end Dg

set_option Elab.async false
set_option linter.all false
set_option maxRecDepth 100000
set_option maxHeartbeats 4000000
namespace Dg
open PySem PySem.Spec PyProof.Rows L2
/-! ### range with a step -/
def rngN (i j k : Int) : Nat := if i < j then ((j - i - 1) / k + 1).toNat else 0
def rngS (i j k : Int) : List D := (List.range (rngN i j k)).map fun m : Nat => D.int (i + m * k)
theorem rgc_up {i j k : Int} (hi : inR i) (hj : inR j) (hk : 0 < k) (hk2 : k < 1000) : RgC i j k (rngN i j k) := by
  obtain ⟨h1, h2⟩ := hi
  obtain ⟨h3, h4⟩ := hj
  have e : Builtin.Range.rangeSize i j k = rngN i j k := by
    unfold Builtin.Range.rangeSize rngN
    rw [if_pos hk]
    split
    · have : 0 ≤ (j - i - 1) / k := Int.ediv_nonneg (by omega) (by omega)
      omega
    · rfl
  have hn : (rngN i j k : Int) ≤ 2000000 := by
    unfold rngN
    split
    · have : (j - i - 1) / k ≤ j - i - 1 := Int.ediv_le_self _ (by omega)
      omega
    · omega
  refine ⟨by omega, by omega, ?_, e⟩
  unfold Builtin.Range.small
  rw [e]
  simp only [Builtin.Range.rangeFitsLong, Bool.and_eq_true, Bool.or_eq_true, decide_eq_true_eq, beq_iff_eq, gt_iff_lt, hk, if_true]
  omega
theorem rngS_mem {i j k : Int} {d : D} (h : d ∈ rngS i j k) (hk : 0 < k) : ∃ m : Nat, i + m * k < j ∧ d = .int (i + m * k) := by
  obtain ⟨m, hm, rfl⟩ := List.mem_map.mp h
  have hm := List.mem_range.mp hm
  refine ⟨m, ?_, rfl⟩
  unfold rngN at hm
  split at hm
  · have h1 : (m : Int) ≤ (j - i - 1) / k := by omega
    have h2 := (Int.le_ediv_iff_mul_le hk).mp h1
    omega
  · omega
section
variable {K : PySem.W.Frag} {mg : Str → Option Value} {W : WX} {ca : List Addr} {F F' H H' : Hp} {σ : L2.St} {e : En} {ws : List Addr} {cs cs' : Cs}
@[simp] noncomputable def itRng3 (fs : List ME) (e : En) (c : Cs) : R (List D) := (evA fs e c).bind fun ds c => match ds with
  | [.int i, .int j, .int k] => if (inR i ∧ inR j) ∧ (0 < k ∧ k < 1000) then .ok (rngS i j k) c else .stuck
  | _ => .stuck
theorem DdA.three {vs : List V} {d d' d'' : D} (h : DdA K ca F vs [d, d', d'']) : ∃ v u w, vs = [v, u, w] ∧ Dd K ca F v d ∧ Dd K ca F u d' ∧ Dd K ca F w d'' := by
  cases h with
  | cons h1 h2 =>
    cases h2 with
    | cons h2 h3 =>
      cases h3 with
      | cons h3 h4 => cases h4; exact ⟨_, _, _, rfl, h1, h2, h3⟩
theorem di_rng3 {X : Cx} {W : WX} {f g k : ME} {a b c tg : Expr} {p pos : Pos} (hg : Gl X "range") (hm : X.mg "range" = none) (h : PA X [a, b, c] (rdPA X.K X.mg W (evA [f, g, k])))
    (hs : starEach [a, b, c] X.env = (false, eval a X.env) :: starEach [b, c] X.env := by rfl) (hpl : (backTo pos (starEach [b, c] X.env)).any (·.1) = false := by rfl) : PI X tg (.Call (.Name "range" p) [a, b, c] [] pos) (rdI X.K X.mg W (itRng3 [f, g, k])) :=
  PI.imp (pi_range3 hg hm h hs hpl) fun σ H Q h => by
    obtain ⟨ca, F, e, ws, cs, st, po⟩ := h
    refine rdPA_bind kindI st po fun x c1 F1 H1 v q nx st1 dx po1 => ?_
    have hl := evA_len q
    match x, hl with
    | [d, d', d''], _ =>
      obtain ⟨v, u, w, rfl, dv, du, dw⟩ := dx.three
      cases d with
      | int i =>
        cases d' with
        | int j =>
          cases d'' with
          | int k =>
            cases dv; cases du; cases dw
            simp only at po1
            split at po1
            · rename_i hp
              exact ⟨i, j, k, rngN i j k, rfl, rgc_up hp.1.1 hp.1.2 hp.2.1 hp.2.2, po1 F1 H1 _ (Nxt.refl st1.same) st1.ce (itD_rngC i k (rngN i j k))⟩
            · exact po1.elim
          | _ => exact po1.elim
        | _ => exact po1.elim
      | _ => exact po1.elim
end
end Dg

set_option Elab.async false
set_option linter.all false
set_option maxRecDepth 100000
set_option maxHeartbeats 4000000
namespace Dg
open PySem PySem.Spec PyProof.Rows L2
/-! ### zip of a list or a tuple with a list or a tuple -/
def SqB (K : PySem.W.Frag) (H : Hp) (t : Bool) (a : Addr) (xs : List V) : Prop := if t then SqT K H a xs else SqL K H a xs
def ItrB (h : Heap) (t : Bool) (it a : Addr) (i : Nat) : Prop := if t then h.IsTupleIter it a i else h.IsListIter it a i
def SrcB (h : Heap) (t : Bool) (a : Addr) (its : Array Value) : Prop := if t then h.IsTuple a its else h.IsList a its
def itrObj (t : Bool) (a : Addr) : Obj := if t then { cls := .type "tuple_iterator", data := .fields #[.ref a, .int 0 0] } else { cls := .type "list_iterator", data := .fields #[.ref a, .int 0 0] }
theorem drawsB {prog : Program} {w : World} {A : Around} (hh : A.handled = none) (t : Bool) (it a : Addr) (hne : a ≠ it) (items : Array Value) :
    Draws prog w A it [it, a] items.size (fun i v => items[i]? = some v) (fun i h => ItrB h t it a i ∧ SrcB h t a items) := by
  cases t
  · exact Draws.list hh it a hne items
  · exact Draws.tuple hh it a hne items
theorem beginsB (t : Bool) (a : Addr) (items : Array Value) : Begins (.ref a) (itrObj t a) fun h => SrcB h t a items := by
  cases t
  · exact begins_list a items
  · exact begins_tuple a items
theorem itrB_new {h : Heap} {t : Bool} {it a : Addr} (e : h.get? it = some (itrObj t a)) : ItrB h t it a 0 := by
  cases t <;> exact ⟨_, e, rfl, rfl⟩
theorem ItrB.obj {h : Heap} {t : Bool} {it a : Addr} {i : Nat} (x : ItrB h t it a i) : ∃ o, h.get? it = some o ∧ ∀ v, o.data ≠ .cell v := by
  cases t <;> (obtain ⟨o, e, _, d⟩ := x; exact ⟨o, e, fun v q => by rw [d] at q; cases q⟩)
theorem ItrB.keep {h h' : Heap} {t : Bool} {it a : Addr} {i : Nat} (x : ItrB h t it a i) (k : ∀ o, h.get? it = some o → h'.get? it = some o) : ItrB h' t it a i := by
  cases t <;> (obtain ⟨o, e, r⟩ := x; exact ⟨o, k o e, r⟩)
theorem Same.sqB {K : PySem.W.Frag} {F F' : Hp} {t : Bool} {a : Addr} {xs : List V} (e : Same F F') (h : SqB K F t a xs) : SqB K F' t a xs := by
  cases t
  · exact e.seq h
  · exact Same.tup e h
section
variable {X : Cx} {pins : List (Addr × Obj)} {σ : L2.St} {H : Hp} {s : Shared}
theorem inv_sqB (I : Inv X pins σ H s) {t : Bool} {a : Addr} {xs : List V} (h : SqB X.K H t a xs) : ∃ its : List Value, Vals xs its ∧ SrcB s.heap t a its.toArray ∧ (∃ o, s.heap.get? a = some o) := by
  cases t
  · obtain ⟨its, r, p, _⟩ := I.list h
    have q := p.isList
    exact ⟨its, r, q, by obtain ⟨o, e, _⟩ := q; exact ⟨o, e⟩⟩
  · obtain ⟨its, r, p, _⟩ := I.tuple h
    exact ⟨its, r, p, by obtain ⟨o, e, _⟩ := p; exact ⟨o, e⟩⟩
theorem sqB_inj (I : Inv X pins σ H s) {t : Bool} {a : Addr} {xs ys : List V} (h : SqB X.K H t a xs) (h' : SqB X.K H t a ys) : xs = ys := by
  cases t
  · exact I.list_inj h h'
  · exact I.tuple_inj h h'
end
def ItzB (K : PySem.W.Frag) (ta tb : Bool) (a b : Addr) : It :=
  ⟨fun i H => ∃ (xs ys : List V), SqB K H ta a xs ∧ SqB K H tb b ys ∧ i < xs.length ∧ i < ys.length,
    fun i H v H' => ∃ T x y, v = .ref T ∧ H T = none ∧ H' = upd H T (.tup [x, y]) ∧ (∀ xs, SqB K H ta a xs → xs[i]? = some x) ∧ ∀ ys, SqB K H tb b ys → ys[i]? = some y,
    fun i H => ∃ xs ys : List V, SqB K H ta a xs ∧ SqB K H tb b ys ∧ i = min xs.length ys.length⟩
def ZSt (ta tb : Bool) (a b z TI TO i1 i2 : Addr) (i : Nat) (h : Heap) : Prop :=
  IsZip h z TI TO .none ∧ IsTupOf2 h TI (.ref i1) (.ref i2) ∧ (∃ x y, IsTupOf2 h TO x y) ∧ ItrB h ta i1 a i ∧ ItrB h tb i2 b i
theorem turn_zipB {P : Program} {w : World} {K : PySem.W.Frag} {elts : List Expr} {kk : Nat} {tpos : Pos} {ta tb : Bool} {a b z TI TO i1 i2 : Addr} (S : ZipSep2 z TI TO i1 i2 [i1, a] [i2, b]) (na : a ≠ i1) (nb : b ≠ i2) :
    Turn P w K (.Tuple elts kk tpos) (ItzB K ta tb a b) [z, TI, TO, i1, i2] z (ZSt ta tb a b z TI TO i1 i2) where
  mem := List.mem_cons_self
  obj := fun i h st c hc => by
    obtain ⟨q1, q2, ⟨x, y, q3⟩, q4, q5⟩ := st
    simp only [List.mem_cons, List.not_mem_nil, or_false] at hc
    rcases hc with rfl | rfl | rfl | rfl | rfl
    · exact ⟨_, q1, nofun⟩
    · exact ⟨_, q2, nofun⟩
    · exact ⟨_, q3, nofun⟩
    · exact q4.obj
    · exact q5.obj
  keep := fun i h h' st k => by
    obtain ⟨q1, q2, ⟨x, y, q3⟩, q4, q5⟩ := st
    exact ⟨k z (by simp) _ q1, k TI (by simp) _ q2, ⟨x, y, k TO (by simp) _ q3⟩, q4.keep (k i1 (by simp)), q5.keep (k i2 (by simp))⟩
  item := by
    intro X hP hw hK hc i pins s σ H E I hf st hg
    subst hP hw hK
    obtain ⟨q1, q2, q3, q4, q5⟩ := st
    obtain ⟨xs, ys, hx, hy, lx, ly⟩ := hg
    obtain ⟨us, ru, su, _⟩ := inv_sqB I hx
    obtain ⟨ws, rw', sw, _⟩ := inv_sqB I hy
    have hh := I.ok.hd hc
    have Wk := WalksT.zipD2 (prog := X.prog) (w := X.w) (A := X.A) S (drawsB (A := X.A.in1) hh ta i1 a na us.toArray) (drawsB (A := X.A.in1) hh tb i2 b nb ws.toArray)
    have l1 := ru.length
    have l2 := rw'.length
    refine Wk.item i s _ _ (by simp only [List.size_toArray]; omega) ⟨q1, q2, q3, ⟨q4, su⟩, q5, sw⟩ fun T vals h1 tk pv hT isT mid k1 => ⟨_, rfl, Wk.go elts kk tpos i T { s with heap := h1, toks := tk } _ _ mid fun h2 st2 k2 => ?_⟩
    obtain ⟨v1, v2, p1, p2, rfl⟩ := pv
    obtain ⟨x, ex⟩ : ∃ x, xs[i]? = some x := ⟨xs[i], List.getElem?_eq_getElem lx⟩
    obtain ⟨y, ey⟩ : ∃ y, ys[i]? = some y := ⟨ys[i], List.getElem?_eq_getElem ly⟩
    obtain ⟨v1', e1, r1⟩ := ru.get ex
    obtain ⟨v2', e2, r2⟩ := rw'.get ey
    have e1' : us.toArray[i]? = some v1' := by simpa using e1
    have e2' : ws.toArray[i]? = some v2' := by simpa using e2
    rw [e1'] at p1; cases p1
    rw [e2'] at p2; cases p2
    obtain ⟨oT, gT, cT, nT, dT⟩ := isT
    have gT2 := k2 T oT (Wk.apart _ _ _ mid) gT
    have new : ObjOk X.prog X.w (upd H T (.tup [x, y])) h2 T (.tup [x, y]) := ⟨by show 2 ≤ sizeLine; decide, [v1, v2], .cons r1 (.cons r2 .nil), oT, gT2, cT, nT, dT⟩
    have I1 : Inv X pins σ (upd H T (.tup [x, y])) { s with heap := h2, toks := tk } :=
      I.turnedNew (t' := tk) (ch := [z, TI, TO, i1, i2]) (fun c o hb q => k2 c o (fun m => hb (by simp only [List.mem_cons, List.not_mem_nil, or_false] at m ⊢; rcases m with m | m | m | m <;> simp [m])) (k1 c o (fun m => hb (by simp only [List.mem_cons, List.not_mem_nil, or_false] at m ⊢; rcases m with m | m | m | m <;> simp [m])) q)) hf hT new
    obtain ⟨z1, z2, z3, z4, z5⟩ := st2
    refine ⟨.ref T, _, I1, rfl, ⟨T, x, y, rfl, I.hok.fresh hT, rfl, fun l hl => by rw [sqB_inj I hl hx]; exact ex, fun l hl => by rw [sqB_inj I hl hy]; exact ey⟩, ⟨z1, z2, z3, z4.1, z5.1⟩, fun c hcm => ?_⟩
    have hlt : c < s.heap.objs.size := by
      have ob : ∃ o, s.heap.get? c = some o := by
        simp only [List.mem_cons, List.not_mem_nil, or_false] at hcm
        rcases hcm with rfl | rfl | rfl | rfl | rfl
        · exact ⟨_, q1⟩
        · exact ⟨_, q2⟩
        · obtain ⟨_, _, q3⟩ := q3; exact ⟨_, q3⟩
        · obtain ⟨o, e, _⟩ := q4.obj; exact ⟨o, e⟩
        · obtain ⟨o, e, _⟩ := q5.obj; exact ⟨o, e⟩
      obtain ⟨o, e⟩ := ob
      exact Heap.lt_size e
    rw [upd_ne (Nat.ne_of_lt (Nat.lt_of_lt_of_le hlt hT))]
    exact (hf c hcm).1
  done := by
    intro X hP hw hK hc i pins s σ H E I hf st hg
    subst hP hw hK
    obtain ⟨q1, q2, q3, q4, q5⟩ := st
    obtain ⟨xs, ys, hx, hy, hi⟩ := hg
    obtain ⟨us, ru, su, _⟩ := inv_sqB I hx
    obtain ⟨ws, rw', sw, _⟩ := inv_sqB I hy
    have hh := I.ok.hd hc
    have Wk := WalksT.zipD2 (prog := X.prog) (w := X.w) (A := X.A) S (drawsB (A := X.A.in1) hh ta i1 a na us.toArray) (drawsB (A := X.A.in1) hh tb i2 b nb ws.toArray)
    have l1 := ru.length
    have l2 := rw'.length
    have hn : min us.toArray.size ws.toArray.size = i := by simp only [List.size_toArray]; omega
    refine Wk.done s _ _ (by rw [hn]; exact ⟨q1, q2, q3, ⟨q4, su⟩, q5, sw⟩) fun h1 tk k1 => ⟨rfl, I.turnedL (t' := tk) (ch := [z, TI, TO, i1, i2]) (fun c o hb q => k1 c o (fun m => hb (by simp only [List.mem_cons, List.not_mem_nil, or_false] at m ⊢; rcases m with m | m | m | m <;> simp [m])) q) hf⟩
  self := fun A i s Q E st h => wpAny_pyIter_zip st.1 h
def iZipB (K : PySem.W.Frag) (te : TA) : TI := fun σ H R => te σ H fun vs H1 => ∃ ta tb a b xs ys, vs = [.ref a, .ref b] ∧ SqB K H1 ta a xs ∧ SqB K H1 tb b ys ∧ R (ItzB K ta tb a b) H1
theorem pi_zipB {X : Cx} {e e2 : Expr} {te : TA} {p pos tpos : Pos} {elts : List Expr} {kk : Nat} (hg : Gl X "zip") (hm : X.mg "zip" = none) (ha : PA X [e, e2] te)
    (hs : starEach [e, e2] X.env = (false, eval e X.env) :: starEach [e2] X.env := by rfl) (hpl : (backTo pos (starEach [e2] X.env)).any (·.1) = false := by rfl) :
    PI X (.Tuple elts kk tpos) (.Call (.Name "zip" p) [e, e2] [] pos) (iZipB X.K te) := by
  constructor
  intro pins s σ H R I h
  refine Call_ (ld_blt I hg hm PyProof.Rows.boot_zip (PyProof.Rows.callWith_type1 (thn (ha.run pos pins s σ H _ I h) fun us s1 ⟨vs, H1, I1, r1, q1⟩ => ?_) hs hpl))
  obtain ⟨ta, tb, a, b, xs, ys, rfl, qa, qb, q⟩ := q1
  obtain ⟨u1, u2, rfl, ra, rb⟩ := vals2 r1
  · cases ra
    cases rb
    obtain ⟨us, ru, su, oa, ea⟩ := inv_sqB I1 qa
    obtain ⟨ws, rw', sw, ob, eb⟩ := inv_sqB I1 qb
    have la := Heap.lt_size ea
    have lb := Heap.lt_size eb
    refine zip_begins2 (beginsB ta a us.toArray) (beginsB tb b ws.toArray) su sw fun h1 g1 g2 g3 g4 g5 _ k1 => wpAny_pyIter_zip g1 ?_
    have I2 : Inv X pins σ H1 { s1 with heap := h1 } := I1.kept (t' := s1.toks) k1
    refine ⟨s1.heap.objs.size + 4, [s1.heap.objs.size + 4, s1.heap.objs.size + 2, s1.heap.objs.size + 3, s1.heap.objs.size, s1.heap.objs.size + 1], _, _, H1, rfl, I2,
      turn_zipB (ta := ta) (tb := tb) (zip_sep2 (fp1 := [a]) (fp2 := [b]) (fun c m => by rw [List.mem_singleton.mp m]; exact la) (fun c m => by rw [List.mem_singleton.mp m]; exact lb)) (Nat.ne_of_lt la) (Nat.ne_of_lt (Nat.lt_succ_of_lt lb)),
      ⟨g1, g2, ⟨_, _, g3⟩, itrB_new g4, itrB_new g5⟩, fun c m => ?_, q⟩
    have hle : s1.heap.objs.size ≤ c := by
      simp only [List.mem_cons, List.not_mem_nil, or_false] at m
      rcases m with rfl | rfl | rfl | rfl | rfl
      · exact Nat.le_add_right _ _
      · exact Nat.le_add_right _ _
      · exact Nat.le_add_right _ _
      · exact Nat.le_refl _
      · exact Nat.le_add_right _ _
    exact I1.fpOk hle (I1.hok.fresh hle)
section
variable {K : PySem.W.Frag} {mg : Str → Option Value} {W : WX} {ca : List Addr} {F F' H H' : Hp} {σ : L2.St} {e : En} {ws : List Addr} {cs cs' : Cs}
theorem itD_zipB {ta tb : Bool} {a b : Addr} {xs ys : List V} {ds es : List D} (h : SqB K F ta a xs) (h2 : SqB K F tb b ys) (d : DdA K ca F xs ds) (d2 : DdA K ca F ys es) : ItD K ca (ItzB K ta tb a b) F (zipL ds es) := by
  have l1 := d.length
  have l2 := d2.length
  constructor
  · intro F' H' s s' i hi
    rw [zipL_len] at hi
    exact ⟨xs, ys, Same.sqB (s.trans s') h, Same.sqB (s.trans s') h2, by omega, by omega⟩
  · intro F' H' s s'
    exact ⟨xs, ys, Same.sqB (s.trans s') h, Same.sqB (s.trans s') h2, by rw [zipL_len]; omega⟩
  · intro F' H' s s' i x H'' e he y
    obtain ⟨p, x0, y0, rfl, hp, rfl, y, y'⟩ := y
    obtain ⟨e1, he1, dd1⟩ := d.getV (y xs (Same.sqB (s.trans s') h))
    obtain ⟨e2, he2, dd2⟩ := d2.getV (y' ys (Same.sqB (s.trans s') h2))
    rw [zipL_get, he1, he2] at he
    cases he
    exact .inr ⟨p, _, _, hp, rfl, rfl, rfl, .cons (Dd.mono s _ _ dd1) (.cons (Dd.mono s _ _ dd2) .nil)⟩
/-- what is walked of a list, a tuple -/
def seqB : D → Option (Bool × List D)
  | .tup l => some (true, l)
  | .lst l => some (false, l)
  | .scr ns => some (false, ns.map .int)
  | _ => none
@[simp] theorem seqB_tup (l : List D) : seqB (.tup l) = some (true, l) := rfl
@[simp] theorem seqB_lst (l : List D) : seqB (.lst l) = some (false, l) := rfl
theorem Dd.seqB {v : V} {d : D} {t : Bool} {l : List D} (h : Dd K ca F v d) (e : seqB d = some (t, l)) : ∃ a xs, v = .ref a ∧ SqB K F t a xs ∧ DdA K ca F xs l := by
  cases d with
  | tup l' => cases e; obtain ⟨a, xs, rfl, s, d1⟩ := h.tu rfl; exact ⟨a, xs, rfl, s, d1⟩
  | lst l' => cases e; obtain ⟨a, xs, rfl, s, d1⟩ := h.li rfl; exact ⟨a, xs, rfl, s, d1⟩
  | scr l' => cases e; obtain ⟨a, xs, rfl, s, d1⟩ := h.li rfl; exact ⟨a, xs, rfl, s, d1⟩
  | _ => cases e
def zipB (x y : D) : Option (List D) := match seqB x, seqB y with
  | some (_, xs), some (_, ys) => some (zipL xs ys)
  | _, _ => none
@[simp] theorem zipB_tt (l m : List D) : zipB (.tup l) (.tup m) = some (zipL l m) := rfl
@[simp] theorem zipB_tl (l m : List D) : zipB (.tup l) (.lst m) = some (zipL l m) := rfl
@[simp] theorem zipB_lt (l m : List D) : zipB (.lst l) (.tup m) = some (zipL l m) := rfl
@[simp] theorem zipB_ll (l m : List D) : zipB (.lst l) (.lst m) = some (zipL l m) := rfl
@[simp] def itZipB (f g : MO) (e : En) (c : Cs) : R (List D) := (evO [f, g] e c).bind fun ts c => match ts with
  | [t, u] => R.of (zipB t.d u.d) c
  | _ => .stuck
theorem di_zipB {X : Cx} {W : WX} {f g : MO} {a b : Expr} {p pos tpos : Pos} {elts : List Expr} {kk : Nat} (hg : Gl X "zip") (hm : X.mg "zip" = none) (h : PA X [a, b] (rdOA X.K X.mg W (evO [f, g])))
    (hs : starEach [a, b] X.env = (false, eval a X.env) :: starEach [b] X.env := by rfl) (hpl : (backTo pos (starEach [b] X.env)).any (·.1) = false := by rfl) :
    PI X (.Tuple elts kk tpos) (.Call (.Name "zip" p) [a, b] [] pos) (rdI X.K X.mg W (itZipB f g)) :=
  PI.imp (pi_zipB hg hm h hs hpl) fun σ H Q h => by
    obtain ⟨ca, F, e, ws, cs, st, po⟩ := h
    refine rdOA_from (ws := ws) kindI (Nxt.refl st.same) st po fun ts c1 F1 H1 v as q nx _ st1 dx n f1 po1 => ?_
    obtain ⟨n2, ce2, dd⟩ := heldA st.ce nx st1.ce dx f1
    have hl := evO_len q
    match ts, hl with
    | [t, u], _ =>
      simp only [T.dA] at dd
      obtain ⟨v1, v2, rfl, d1, d2⟩ := dd.two
      simp only at po1
      cases q1 : Dg.seqB t.d with
      | none => simp only [zipB, q1] at po1; exact po1.elim
      | some x =>
        obtain ⟨ta, xs⟩ := x
        cases q2 : Dg.seqB u.d with
        | none => simp only [zipB, q1, q2] at po1; exact po1.elim
        | some y =>
          obtain ⟨tb, ys⟩ := y
          simp only [zipB, q1, q2] at po1
          obtain ⟨a, vs, rfl, s1, e1⟩ := Dd.seqB d1 q1
          obtain ⟨b, us, rfl, s2, e2⟩ := Dd.seqB d2 q2
          exact ⟨ta, tb, a, b, vs, us, rfl, Same.sqB n2.s s1, Same.sqB n2.s s2, po1 _ H1 _ n2 ce2 (itD_zipB s1 s2 e1 e2)⟩
end
/-! ### enumerate of a list or a tuple -/
def enumOb (it : Addr) : Obj := { cls := .type "enumerate", data := .fields #[.none, .bool false, .ref it, rawInt 0, .none, .none] }
theorem enum_made {v : Value} {ob : Obj} {Hh : Heap → Prop} (B : Begins v ob Hh) : Meets (Builtin.«enumerate.__new__» ⟨[.type "enumerate", v], []⟩) (fun _ R s => Hh s.heap ∧ R (.ok (.ret (.ref (s.heap.push ob).objs.size))) { s with heap := (s.heap.push ob).push (enumOb s.heap.objs.size) }) :=
  .of_wp fun prog w A R s hyp => by
    obtain ⟨hp, gs, dr, tok, osx⟩ := s
    obtain ⟨hB, hR⟩ := hyp
    have isub := sub_enumerate
    have first : ∀ {A' : Around} {E : Value → Shared → Prop} {Q : Value → Shared → Prop}, Q (.ref hp.objs.size) ⟨hp.push ob, gs, dr, tok, osx⟩ → wpAny (model prog w) A' (pyIter v) Q E ⟨hp, gs, dr, tok, osx⟩ := fun q => B.iter prog w _ _ ⟨hp, gs, dr, tok, osx⟩ _ hB q
    wp_walk using first
    refine wpAny_stack_any fun stk => wpAny_pure ?_
    split
    · rename_i cc _ _ _ _ _
      cases (cc == Value.type "enumerate") <;> (wp_walk using first; exact ⟨_, rfl, hR⟩)
    · wp_walk using first
      exact ⟨_, rfl, hR⟩
theorem enum_call {prog : Program} {w : World} {A : Around} {E : Value → Shared → Prop} {s : Shared} {v : Value} {ob : Obj} {Hh : Heap → Prop} {Q : Value → Shared → Prop} (B : Begins v ob Hh) (hB : Hh s.heap)
    (hQ : ∀ h', IsEnum h' (s.heap.objs.size + 1) s.heap.objs.size 0 .none → h'.get? s.heap.objs.size = some ob → (∀ b o, s.heap.get? b = some o → h'.get? b = some o) → Q (.ref (s.heap.objs.size + 1)) { s with heap := h' }) : wpAny (model prog w) A (call (.type "enumerate") [v]) Q E s := by
  refine callType_new F.called_enumerate (by decide) (F.typeCall_enumerate_1 _) (F.newCall_enumerate_1 _) (fun obj => F.args_object_init_2 obj _) F.entry_enumerate_new (enum_made B) ⟨hB, ?_⟩
  have sz : (s.heap.push ob).objs.size = s.heap.objs.size + 1 := Heap.size_push ..
  have g := Heap.get?_push_size (s.heap.push ob) (o := enumOb s.heap.objs.size) rfl
  show _ ∧ _
  rw [sz] at g ⊢
  exact ⟨⟨_, g, rfl⟩, hQ _ g (Heap.get?_push_of_some _ (Heap.get?_push_size _ B.free)) fun b o e => Heap.get?_push_of_some _ (Heap.get?_push_of_some _ e)⟩
def IteB (K : PySem.W.Frag) (t : Bool) (a : Addr) : It :=
  ⟨fun i H => ∃ xs : List V, SqB K H t a xs ∧ i < xs.length,
    fun i H v H' => ∃ T x, v = .ref T ∧ H T = none ∧ H' = upd H T (.tup [.int (i : Nat), x]) ∧ ∀ xs, SqB K H t a xs → xs[i]? = some x,
    fun i H => ∃ xs : List V, SqB K H t a xs ∧ i = xs.length⟩
theorem turn_enumB {P : Program} {w : World} {K : PySem.W.Frag} {elts : List Expr} {kk : Nat} {tpos : Pos} {t : Bool} {a en it : Addr} (ne : en ≠ it) (na : a ≠ it) (nea : en ≠ a) :
    Turn P w K (.Tuple elts kk tpos) (IteB K t a) [en, it] en (fun i h => (∃ old, IsEnum h en it (i : Nat) old) ∧ ItrB h t it a i) where
  mem := List.mem_cons_self
  obj := fun i h st c hc => by
    obtain ⟨⟨old, q1⟩, q2⟩ := st
    simp only [List.mem_cons, List.not_mem_nil, or_false] at hc
    rcases hc with rfl | rfl
    · exact ⟨_, q1, nofun⟩
    · exact q2.obj
  keep := fun i h h' st k => by
    obtain ⟨⟨old, q1⟩, q2⟩ := st
    exact ⟨⟨old, k en (by simp) _ q1⟩, q2.keep (k it (by simp))⟩
  item := by
    intro X hP hw hK hc i pins s σ H E I hf st hg
    subst hP hw hK
    obtain ⟨q1, q2⟩ := st
    obtain ⟨xs, hx, lx⟩ := hg
    obtain ⟨us, ru, su, _⟩ := inv_sqB I hx
    have hh := I.ok.hd hc
    have Wk := WalksT.enumerateD (prog := X.prog) (w := X.w) (A := X.A) (drawsB (A := X.A.in1) hh t it a na us.toArray) en ne (by simp [ne, nea]) (by simp)
    have l1 := ru.length
    refine Wk.item i s _ _ (by simp only [List.size_toArray]; omega) ⟨q1, q2, su⟩ fun T vals h1 tk pv hT isT mid k1 => ⟨_, rfl, Wk.go elts kk tpos i T { s with heap := h1, toks := tk } _ _ mid fun h2 st2 k2 => ?_⟩
    obtain ⟨tt, v1, p1, rfl⟩ := pv
    obtain ⟨x, ex⟩ : ∃ x, xs[i]? = some x := ⟨xs[i], List.getElem?_eq_getElem lx⟩
    obtain ⟨v1', e1, r1⟩ := ru.get ex
    have e1' : us.toArray[i]? = some v1' := by simpa using e1
    rw [e1'] at p1; cases p1
    obtain ⟨oT, gT, cT, nT, dT⟩ := isT
    have gT2 := k2 T oT (Wk.apart _ _ _ mid) gT
    have new : ObjOk X.prog X.w (upd H T (.tup [.int (i : Nat), x])) h2 T (.tup [.int (i : Nat), x]) := ⟨by show 2 ≤ sizeLine; decide, [.int i tt, v1], .cons ⟨tt, rfl⟩ (.cons r1 .nil), oT, gT2, cT, nT, dT⟩
    have I1 : Inv X pins σ (upd H T (.tup [.int (i : Nat), x])) { s with heap := h2, toks := tk } :=
      I.turnedNew (t' := tk) (ch := [en, it]) (fun c o hb q => k2 c o hb (k1 c o hb q)) hf hT new
    obtain ⟨z1, z2, _⟩ := st2
    refine ⟨.ref T, _, I1, rfl, ⟨T, x, rfl, I.hok.fresh hT, rfl, fun l hl => by rw [sqB_inj I hl hx]; exact ex⟩, ⟨z1, z2⟩, fun c hcm => ?_⟩
    have hlt : c < s.heap.objs.size := by
      simp only [List.mem_cons, List.not_mem_nil, or_false] at hcm
      rcases hcm with rfl | rfl
      · obtain ⟨_, q1⟩ := q1; exact Heap.lt_size q1
      · obtain ⟨o, e, _⟩ := q2.obj; exact Heap.lt_size e
    rw [upd_ne (Nat.ne_of_lt (Nat.lt_of_lt_of_le hlt hT))]
    exact (hf c hcm).1
  done := by
    intro X hP hw hK hc i pins s σ H E I hf st hg
    subst hP hw hK
    obtain ⟨q1, q2⟩ := st
    obtain ⟨xs, hx, hi⟩ := hg
    obtain ⟨us, ru, su, _⟩ := inv_sqB I hx
    have hh := I.ok.hd hc
    have Wk := WalksT.enumerateD (prog := X.prog) (w := X.w) (A := X.A) (drawsB (A := X.A.in1) hh t it a na us.toArray) en ne (by simp [ne, nea]) (by simp)
    have l1 := ru.length
    have hn : us.toArray.size = i := by simp only [List.size_toArray]; omega
    refine Wk.done s _ _ (by rw [hn]; exact ⟨q1, q2, su⟩) fun h1 tk k1 => ⟨rfl, I.turnedL (t' := tk) (ch := [en, it]) (fun c o hb q => k1 c o hb q) hf⟩
  self := fun A i s Q E st h => by
    obtain ⟨⟨old, q1⟩, _⟩ := st
    exact wpAny_pyIter_enum q1 h
def iEnumB (K : PySem.W.Frag) (te : TA) : TI := fun σ H R => te σ H fun vs H1 => ∃ t a xs, vs = [.ref a] ∧ SqB K H1 t a xs ∧ R (IteB K t a) H1
theorem pi_enumB {X : Cx} {e : Expr} {te : TA} {p pos tpos : Pos} {elts : List Expr} {kk : Nat} (hg : Gl X "enumerate") (hm : X.mg "enumerate" = none) (ha : PA X [e] te) (hs : starEach [e] X.env = [(false, eval e X.env)] := by rfl) :
    PI X (.Tuple elts kk tpos) (.Call (.Name "enumerate" p) [e] [] pos) (iEnumB X.K te) := by
  constructor
  intro pins s σ H R I h
  refine Call_ (ld_blt I hg hm boot_enumerate (PyProof.Rows.callWith_type1 (thn (ha.run pos pins s σ H _ I h) fun us s1 ⟨vs, H1, I1, r1, q1⟩ => ?_) hs rfl))
  obtain ⟨t, a, xs, rfl, qa, q⟩ := q1
  rw [Vals.ref1 r1]
  obtain ⟨us, ru, su, oa, ea⟩ := inv_sqB I1 qa
  have la := Heap.lt_size ea
  refine enum_call (beginsB t a us.toArray) su fun h1 g1 g2 k1 => wpAny_pyIter_enum g1 ?_
  have I2 : Inv X pins σ H1 { s1 with heap := h1 } := I1.kept (t' := s1.toks) k1
  refine ⟨s1.heap.objs.size + 1, [s1.heap.objs.size + 1, s1.heap.objs.size], _, _, H1, rfl, I2, turn_enumB (t := t) (a := a) (Nat.succ_ne_self _) (Nat.ne_of_lt la) (Nat.ne_of_gt (Nat.lt_succ_of_lt la)), ⟨⟨_, g1⟩, itrB_new g2⟩, fun c m => ?_, q⟩
  have hle : s1.heap.objs.size ≤ c := by
    simp only [List.mem_cons, List.not_mem_nil, or_false] at m
    rcases m with rfl | rfl
    · exact Nat.le_add_right _ _
    · exact Nat.le_refl _
  exact I1.fpOk hle (I1.hok.fresh hle)
section
variable {K : PySem.W.Frag} {mg : Str → Option Value} {W : WX} {ca : List Addr} {F F' H H' : Hp} {σ : L2.St} {e : En} {ws : List Addr} {cs cs' : Cs}
theorem itD_enumB {t : Bool} {a : Addr} {xs : List V} {ds : List D} (h : SqB K F t a xs) (d : DdA K ca F xs ds) : ItD K ca (IteB K t a) F (enumL 0 ds) := by
  have l1 := d.length
  constructor
  · intro F' H' s s' i hi
    rw [enumL_len] at hi
    exact ⟨xs, Same.sqB (s.trans s') h, by omega⟩
  · intro F' H' s s'
    exact ⟨xs, Same.sqB (s.trans s') h, by rw [enumL_len]; omega⟩
  · intro F' H' s s' i x H'' e he y
    obtain ⟨p, x0, rfl, hp, rfl, y⟩ := y
    obtain ⟨e1, he1, dd1⟩ := d.getV (y xs (Same.sqB (s.trans s') h))
    rw [enumL_get, he1] at he
    cases he
    rw [Nat.zero_add]
    exact .inr ⟨p, _, _, hp, rfl, rfl, rfl, .cons (.int _) (.cons (Dd.mono s _ _ dd1) .nil)⟩
def enumB (x : D) : Option (List D) := (seqB x).map fun y => enumL 0 y.2
@[simp] theorem enumB_t (l : List D) : enumB (.tup l) = some (enumL 0 l) := rfl
@[simp] theorem enumB_l (l : List D) : enumB (.lst l) = some (enumL 0 l) := rfl
@[simp] theorem enumB_s (l : List Int) : enumB (.scr l) = some (enumL 0 (l.map .int)) := rfl
@[simp] def itEnumB (f : MO) (e : En) (c : Cs) : R (List D) := (f e c).bind fun t c => R.of (enumB t.d) c
theorem di_enumB {X : Cx} {W : WX} {f : MO} {a : Expr} {p pos tpos : Pos} {elts : List Expr} {kk : Nat} (hg : Gl X "enumerate") (hm : X.mg "enumerate" = none) (h : PE X a (rdO X.K X.mg W f)) (hs : starEach [a] X.env = [(false, eval a X.env)] := by rfl) (hs1 : starEach [a] X.env = (false, eval a X.env) :: starEach [] X.env := by rfl) :
    PI X (.Tuple elts kk tpos) (.Call (.Name "enumerate" p) [a] [] pos) (rdI X.K X.mg W (itEnumB f)) :=
  PI.imp (pi_enumB hg hm (pa_cons h pa_nil hs1) hs) fun σ H Q h => by
    obtain ⟨ca, F, e, ws, cs, st, po⟩ := h
    refine rdO_from (ws := ws) kindI (Nxt.refl st.same) st po fun t c1 F1 H1 v as q nx _ st1 dx n f1 po1 => ?_
    obtain ⟨n2, ce2, dd, ss⟩ := held st.ce nx st1.ce dx f1
    cases ql : Dg.seqB t.d with
    | none => simp only [enumB, ql] at po1; exact po1.elim
    | some x =>
      obtain ⟨tb, ds⟩ := x
      simp only [enumB, ql] at po1
      obtain ⟨a, xs, rfl, s, d1⟩ := Dd.seqB dd ql
      exact ⟨tb, a, xs, rfl, Same.sqB n2.s s, po1 _ H1 _ n2 ce2 (itD_enumB s d1)⟩
end
end Dg
namespace Dg
open PySem PySem.Spec PyProof.Rows L2
section
variable {K : PySem.W.Frag} {mg : Str → Option Value} {W : WX} {ca : List Addr} {F F' H H' : Hp} {σ : L2.St} {e : En} {ws : List Addr} {cs cs' : Cs}
/-! ### x.extend(a list that is made there) -/
@[simp] def sExt (i : Nat) (f : MO) (e : En) (c : Cs) : R Fl := match e[i]? with
  | some (some (.ol ts)) => (f e c).toS e fun t c => match t with
    | .ol us => if ts.length + us.length < LIM then .ok (.nx (e.set i (some (.ol (ts ++ us))))) c else .stuck
    | _ => .stuck
  | _ => .stuck
theorem rd_sExt {i : Nat} {f : MO} {Dn : Ends} (h : rdS K mg W (sExt i f) Dn σ H) : tDrop (tBM K "list" rExtend (tVar i) (tCons (rdO K mg W f) tNil)) Dn σ H := by
  obtain ⟨ca, F, e, ws, cs, st, po⟩ := h
  unfold sExt at po
  cases q : e[i]? with
  | none => rw [q] at po; exact po.elim
  | some o =>
    cases o with
    | none => rw [q] at po; exact po.elim
    | some t =>
      cases t with
      | v d => rw [q] at po; exact po.elim
      | ot d => rw [q] at po; exact po.elim
      | ol ts =>
        rw [q] at po
        obtain ⟨l, xs, as, h1, h2, _, _, _⟩ := st.change q
        refine ⟨.ref l, h1, .inl ⟨rfl, xs, SqL.of h2⟩, ?_⟩
        refine toS_O st po fun t c1 F1 H1 v bs nx st1 dx n f1 fr po1 => ?_
        cases t with
        | v d => exact po1.elim
        | ot d => exact po1.elim
        | ol us =>
          obtain ⟨l', xs', as', g1, g2, g3, g4, gn, gw, g5⟩ := st1.change q
          have el : l' = l := by rw [h1] at g1; cases g1; rfl
          subst el
          cases dx with
          | @l b ys _ bs' fb hb ow =>
            simp only at po1
            split at po1
            · rename_i hlim
              have le1 := OwnA.length g4
              have le2 := OwnA.length ow
              refine ⟨l', b, xs', ys, rfl, rfl, g2, hb, by rw [le1, le2]; exact lim_line hlim, ?_⟩
              have nb := List.nodup_cons.mp n
              obtain ⟨vs, st2, hv⟩ := g5 (bw := bs') (g4.app ow) (List.nodup_append.mpr ⟨gn, nb.2, fun a m c m2 z => fr.w c (List.mem_cons_of_mem _ m2) (by rw [← z]; exact gw a m)⟩) (fun a m => (List.mem_append.mp m)) ⟨fun a m => fr.w a (List.mem_cons_of_mem _ m), fun a m => fr.c a (List.mem_cons_of_mem _ m)⟩
              have hl : l' ∈ ws := by
                obtain ⟨x, pre, as0, post, k1, k2, k3, _⟩ := Sl.rep st.sl i _ q
                cases k3 with
                | l k4 k5 k6 => rw [h1] at k1; cases k1; rw [k2]; simp
              exact po1 F1 _ σ vs (NxS.change hl hv (fun a m => f1 a (List.mem_cons_of_mem _ m)) nx) st2
            · exact po1.elim
theorem ds_ext {X : Cx} {W : WX} {f : MO} {a : Expr} {x : Str} {p ap cp pos : Pos} (i : Nat) (hv : PE X (.Name x p) (tVar i)) (ha : PE X a (rdO X.K X.mg W f))
    (hs1 : starEach [a] X.env = (false, eval a X.env) :: starEach [] X.env := by rfl)
    (hbase : attributeBase (.Name x p) "extend" X.env (eval (.Name x p) X.env) = eval (.Name x p) X.env := by rfl)
    (hfew : ((backTo cp (starEach [a] X.env)).all (fun x => !x.1) && (backToKw cp (keywordEach [] X.env)).all (fun x => x.1.isSome) && decide ([a].length + ([] : List Keyword).length + (if ([] : List Keyword).isEmpty then 0 else 1) < 30)) = true := by rfl)
    (hline : (ap.endLine == cp.line) = true := by rfl) (hplain : (backTo cp (starEach [] X.env)).any (·.1) = false := by rfl)
    (hsw : swapsWith (.Call (.Attribute (.Name x p) "extend" ap) [a] [] cp) none pos.line X.env = pure false := by rfl) :
    PS X (.Expr (.Call (.Attribute (.Name x p) "extend" ap) [a] [] cp) pos) (rdS X.K X.mg W (sExt i f)) :=
  (ps_expr (pe_bm PySem.F.plainAttrs_list PySem.F.slot_list_extend PySem.F.type_list_extend mt_extend hv (pa_cons ha pa_nil hs1) hbase hfew hline hs1 hplain) hsw).imp fun _ _ _ q => rd_sExt q
end
end Dg

set_option Elab.async false
set_option linter.all false
set_option maxRecDepth 100000
set_option maxHeartbeats 4000000
namespace Dg
open PySem PySem.Spec PyProof.Rows L2
/-! ### an exception that is caught and kept -/
theorem inv_adopt {X : Cx} {pins : List (Addr × Obj)} {σ : L2.St} {H : Hp} {s : Shared} {a C : Addr} {oe : Obj} (I : Inv X pins σ H s) (g : s.heap.get? a = some oe) (hz : Zc (.ref C) none oe) (hd : ∃ vs, oe.data = .fields vs) (na : H a = none)
    (nL : a ≠ X.env.locals) (nP : ∀ p ∈ X.pn ++ pins, p.1 ≠ a) (fr : ∀ o, X.s_0.heap.get? a = some o → a ∈ X.ex) : Inv X pins σ (upd H a (excO a C)) s := by
  have other : ∀ {b : Addr} {u : HO}, H b = some u → upd H a (excO a C) b = some u := fun {b u} e => by
    rw [upd_ne fun z => by rw [z, na] at e; cases e]; exact e
  refine ⟨I.ok, I.os, I.bare, ⟨I.base.keep, I.base.slot, fun b o e n hx => ?_, I.base.there, fun b xs e => other (I.base.tups b xs e), fun b o u e => other (I.base.frzs b o u e), fun b ps e => ?_⟩, I.loc, I.cell, ?_, fun x c e => ?_, fun p hp => ?_, fun b u e => ?_, I.len⟩
  · by_cases hb : b = a
    · subst hb; exact absurd (fr o e) hx
    · rw [upd_ne hb]; exact I.base.free b o e n hx
  · obtain ⟨more, q⟩ := I.base.tbls b ps e
    exact ⟨more, other q⟩
  · rw [upd_ne (Ne.symm nL)]; exact I.free
  · obtain ⟨v, oc, gc, dc⟩ := I.cell x c e
    rw [upd_ne fun z => ?_]
    · exact I.freeC x c e
    · obtain ⟨vs, hd⟩ := hd
      rw [z, g] at gc
      cases gc
      rw [hd] at dc; cases dc
  · obtain ⟨p1, p2, p3⟩ := I.pin p hp
    exact ⟨p1, by rw [upd_ne (nP p hp)]; exact p2, p3⟩
  · by_cases hb : b = a
    · subst hb
      rw [upd_same] at e
      cases e
      exact ⟨⟨oe, g, hz, hd⟩, ⟨oe, g⟩, fun h1 h2 p k => by
        obtain ⟨o1, q1, q2, q3⟩ := p
        exact ⟨o1, k o1 q1, q2, q3⟩⟩
    · rw [upd_ne hb] at e
      exact (I.hok b u e).stay (fun _ _ _ r => r) (fun _ q => other q) fun _ _ q => other q
/-- what such a clause wishes of the body -/
def wHeld (K : PySem.W.Frag) (c : Value) (i : Nat) (ts : Addr → TS) (D : Ends) : WX := fun cls d σ H =>
  ∃ C : Addr, cls = .ref C ∧ d = none ∧ PySem.W.exmOne K cls c = some true ∧
    ∀ a, H a = none → ts a { nx := fun σ' H' => D.nx (σ'.set i none) (upd H' a (excO a C)), rt := fun _ _ => False, bk := fun _ _ => False, ct := fun _ _ => False } (σ.set i (some (.ref a))) H
theorem ps_try_held {X : Cx} {x n : Str} {c : Value} {i : Nat} {body suite : List Stmt} {b₀ : Stmt} {np pos pos' : Pos} {tb : WX → TS} {ts : Addr → TS} (hs : X.stack = X.env :: X.outer) (hf : X.env.frame = some X.env.locals) (hN : X.N.Nodup) (hi : X.N[i]? = some n) (hln : X.env.kindOf n = some .local) (hc : Names X x c)
    (hb : ∀ (W : WX) (pn : List (Addr × Obj)) (xe : Value → Shared → Prop), Takes (X.tr pn xe) W → PassesOwn (model X.prog X.w) X.A X.env xe → PSs (X.tr pn xe) body (tb W))
    (hsu : ∀ (a : Addr) (oe : Obj) (pn : List (Addr × Obj)), PSs (X.suite a ((a, oe) :: pn)) (b₀ :: suite) (ts a)) :
    PS X (.Try body [.ExceptHandler (some (.Name x np)) (some n) (b₀ :: suite) pos'] [] [] pos) (fun D σ H => tb (wHeld X.K c i ts D) D σ H) := by
  constructor
  intro pins s σ H D I hyp
  have ok := I.ok
  have frs1 : X.A.frames = some (X.env :: X.outer) := by rw [ok.frames, hs]
  have locn : Loc X.env.scope n := .inl hln
  refine wpAny_Try_except ?_
  have run := (hb (wHeld X.K c i ts D) (X.pn ++ pins)
    (fun ev s₁ => wpAny (model X.prog X.w) X.A (noteFrame ev X.env) (fun _ s₂ => wpAny (model X.prog X.w) X.A (setFlight ev none)
      (fun _ s₃ => wpAny (model X.prog X.w) X.A (handleBy ev X.env [.ExceptHandler (some (.Name x np)) (some n) (b₀ :: suite) pos']) (SP X pins D) X.xe s₃) X.xe s₂) X.xe s₁)
    (fun u s' out => ?_) PassesOwn.looking).run [] s σ H D (I.toTry _) hyp
  · refine wpAny_mono run (fun fl s1 sp => ?_) fun _ _ z => z
    cases fl with
    | next =>
      obtain ⟨σ1, H1, I1, q⟩ := sp
      exact wpAny_execs_nil ⟨σ1, H1, I1.ofTry ok, q⟩
    | ret u =>
      obtain ⟨v, σ1, H1, I1, r, q⟩ := sp
      exact ⟨v, σ1, H1, I1.ofTry ok, r, q⟩
    | brk =>
      obtain ⟨σ1, H1, I1, q⟩ := sp
      exact ⟨σ1, H1, I1.ofTry ok, q⟩
    | cont =>
      obtain ⟨σ1, H1, I1, q⟩ := sp
      exact ⟨σ1, H1, I1.ofTry ok, q⟩
  · obtain ⟨a, B, sI, pins', σ1, H1, cls, d, rfl, I0, nb, up, sky, na, os, ag, C, rfl, rfl, exm, wish⟩ := out
    have J : Inv X pins σ1 H1 sI := I0.ofTry ok
    rw [show (X.tr (X.pn ++ pins) _).stack = X.env :: X.outer from hs] at sky
    show wpAny (model X.prog X.w) X.A (noteFrame (.ref a) X.env) _ _ _
    refine Sky.land Zc.steady frs1 hf sky fun h3 fly3 up3 => ?_
    have J3 : Inv X pins σ1 H1 { s' with heap := h3 } := J.landed nb fly3.1 (up.trans up3) os ag
    obtain ⟨oe3, vs3, g3, z3, d3⟩ := fly3.there
    have afr : a ∉ frs (X.env :: X.outer) := fun m => by
      obtain ⟨_, o', e', nf⟩ := fly3.2.2.1.mem m
      rw [g3] at e'
      cases e'
      exact nf _ d3
    have aL : a ≠ X.env.locals := fun z => afr (List.mem_filterMap.mpr ⟨X.env, List.mem_cons_self, by rw [hf, z]⟩)
    have aF : a ∉ X.fs := fun m => by
      obtain ⟨ev, he, q⟩ := List.mem_filterMap.mp m
      exact afr (List.mem_filterMap.mpr ⟨ev, List.mem_cons_of_mem _ he, q⟩)
    have Ba : B.get? a = none := fly3.2.1
    have inB : ∀ b o, sI.heap.get? b = some o → b ≠ X.env.locals → b ∉ X.fs → b ≠ a := fun b o e h1 h2 z => by
      have q := nb b o e fun m => by
        rw [show (X.tr (X.pn ++ pins) _).stack = X.env :: X.outer from hs] at m
        obtain ⟨ev, he, q⟩ := List.mem_filterMap.mp m
        rcases List.mem_cons.mp he with rfl | he
        · rw [hf] at q; cases q; exact h1 rfl
        · exact h2 (List.mem_filterMap.mpr ⟨ev, he, q⟩)
      rw [z, Ba] at q; cases q
    have pinsA : ∀ p ∈ X.pn ++ pins, p.1 ≠ a := fun p hp => by
      obtain ⟨p1, _, p3, p4, _⟩ := J.pin p hp
      exact inB p.1 p.2 p1 p3 p4
    have newA : ∀ o, X.s_0.heap.get? a = some o → a ∈ X.ex := fun o e => by
      by_cases hx : a ∈ X.ex
      · exact hx
      · obtain ⟨o', e'⟩ := J.base.there a o e hx
        exact absurd rfl (inB a o' e' aL aF)
    have S3 := J3.suite g3 d3 na aL aF
    refine wpAny_handleBy_cons (codeAny_handlers_test ?_) (by intro q; cases q)
    have tells : PySem.W.Looks (model X.prog X.w) h3 (typeOf (.ref a)) (.ref C) := fun A Q E s k q => wpAny_typeOf_ref (k _ _ g3) (by rw [z3.1]; exact q)
    have match1 := PySem.W.exm_one (M := model X.prog X.w) (J3.kIn) tells exm
    have named : ∀ {Q : Value → Shared → Prop} {E : Value → Shared → Prop}, Q c { s' with heap := h3 } → wpAny (model X.prog X.w) (X.A.mark (some (.ref a))) (eval (.Name x np) X.env) Q E { s' with heap := h3 } := fun {Q E} q => by
      obtain ⟨n1, n2, m | ⟨m, v, nn⟩⟩ := hc
      · exact ld_glob (X := X.suite a ((a, oe3) :: (X.pn ++ pins))) S3 n1 m q n2
      · exact ld_blt (X := X.suite a ((a, oe3) :: (X.pn ++ pins))) S3 n1 m v q nn n2
    refine named (match1.here ?_)
    refine codeAny_handlers_suite_as ?_
    refine HandSPX.lands_againZ fly3 fun h4 fly4 up4 => ?_
    have J4 : Inv X pins σ1 H1 { s' with heap := h4 } := J.landed nb fly4.1 ((up.trans up3).trans up4) os ag
    obtain ⟨oe4, vs4, g4, z4, d4⟩ := fly4.there
    have S4 := J4.suite g4 d4 na aL aF
    refine store_ok (X := X.suite a ((a, oe4) :: (X.pn ++ pins))) (v := .ref a) S4 hN hi locn rfl (fun s5 S5 => ?_) (.inr hln)
    refine wpAny_mono ((hsu a oe4 (X.pn ++ pins)).run [] s5 _ H1 _ S5 (wish a na)) (fun fl s6 sp => ?_) fun _ _ z => z.elim
    cases fl with
    | next =>
      obtain ⟨σ6, H6, S6, q6⟩ := sp
      obtain ⟨k1, k2, k3, k4, _⟩ := S6.pin (a, oe4) (List.mem_append.mpr (.inl List.mem_cons_self))
      have I6 := inv_adopt (C := C) (S6.unsuite ok) k1 z4 ⟨_, d4⟩ k2 aL pinsA newA
      exact gone_ok I6 hN hi hln fun s7 I7 => ⟨_, _, I7, q6⟩
    | ret u =>
      obtain ⟨v6, σ6, H6, S6, r6, q6⟩ := sp
      exact q6.elim
    | brk =>
      obtain ⟨σ6, H6, S6, q6⟩ := sp
      exact q6.elim
    | cont =>
      obtain ⟨σ6, H6, S6, q6⟩ := sp
      exact q6.elim
/-! ### try, with one clause whose name is kept -/
def sTry (L : List Str) (i j : Nat) (body : MS) (e : En) (c : Cs) : R Fl := match body e c with
  | .ok (.er x e') c' => if L.contains x = true ∧ i < e'.length then .ok (.nx ((e'.set j (some (.v (.exc x)))).set i none)) c' else .stuck
  | r => r
/-- the classes that may be raised: what is known of them -/
def HeldT (K : PySem.W.Frag) (mg : Str → Option Value) (c : Value) (L : List Str) : Prop := ∀ x, L.contains x = true → ∀ C : Addr, mg x = some (.ref C) → PySem.W.nsIn K mainGlobals x = some (some (.ref C)) ∧ PySem.W.exmOne K (.ref C) c = some true
theorem held_nil {K : PySem.W.Frag} {mg : Str → Option Value} {c : Value} : HeldT K mg c [] := fun x h => by cases h
theorem held_cons {K : PySem.W.Frag} {mg : Str → Option Value} {c : Value} {L : List Str} {x : Str} {C : Addr} (g : mg x = some (.ref C)) (m : PySem.W.nsIn K mainGlobals x = some (some (.ref C))) (q : PySem.W.exmOne K (.ref C) c = some true) (h : HeldT K mg c L) : HeldT K mg c (x :: L) := fun y hy D gy => by
  simp only [List.contains_cons, Bool.or_eq_true, beq_iff_eq] at hy
  rcases hy with rfl | hy
  · rw [g] at gy; cases gy; exact ⟨m, q⟩
  · exact h y hy D gy
section
variable {K : PySem.W.Frag} {mg : Str → Option Value} {W : WX} {ca : List Addr} {F F' H H' : Hp} {σ : L2.St} {e : En} {ws : List Addr} {cs cs' : Cs}
theorem Sl.len : ∀ {σ : L2.St} {e : En} {ws : List Addr}, Sl K ca F H σ e ws → σ.length = e.length
  | _, _, _, .nil => rfl
  | _, _, _, .no h => by simp [Sl.len h]
  | _, _, _, .so _ h => by simp [Sl.len h]
theorem rd_sTry {L : List Str} {i j : Nat} {c : Value} {f : MS} {Dn : Ends} (hij : i ≠ j) (hL : HeldT K mg c L) (h : rdS K mg W (sTry L i j f) Dn σ H) : rdS K mg (wHeld K c i (fun _ => tAsg (tVar i) (gName j)) Dn) f Dn σ H := by
  obtain ⟨ca, F, e, ws, cs, st, po⟩ := h
  refine ⟨ca, F, e, ws, cs, st, ?_⟩
  unfold sTry at po
  cases q : f e cs with
  | stuck => rw [q] at po; exact po
  | err x c' => rw [q] at po; exact po
  | ok fl c' =>
    rw [q] at po
    cases fl with
    | nx e' => exact po
    | rt t => exact po
    | bk e' => exact po
    | ct e' => exact po
    | er x e' =>
      simp only at po
      split at po
      · rename_i hx
        intro F1 H1 σ1 ws1 n1 st1 C gC
        obtain ⟨m, ex⟩ := hL x hx.1 C gC
        refine ⟨C, rfl, rfl, ex, fun a ha => ?_⟩
        have hl : i < σ1.length := by rw [Sl.len st1.sl]; exact hx.2
        refine ⟨.ref a, List.getElem?_set_self hl, ?_⟩
        have nn : Nxt ca F1 H1 (upd F1 a (excO a C)) (upd H1 a (excO a C)) := Nxt.new st1.same ha
        have st2 := st1.nxt nn (st1.ce.new st1.same ha)
        have ow : Own K ca (upd F1 a (excO a C)) (upd H1 a (excO a C)) (.ref a) (.v (.exc x)) [] := .v (.exc upd_same m)
        obtain ⟨vs, st3, hv⟩ := st2.put j ow List.nodup_nil ⟨fun b z => (by cases z), fun b z => (by cases z)⟩
        obtain ⟨us, sl4, sub⟩ := Sl.del i st3.sl
        have st4 : Stt K ca (upd F1 a (excO a C)) (upd H1 a (excO a C)) ((σ1.set j (some (.ref a))).set i none) ((e'.set j (some (.v (.exc x)))).set i none) us c' := ⟨st3.same, sl4, st3.nd.sublist (sub.append (List.Sublist.refl _)), st3.ce⟩
        have n2 : NxS ca F1 H1 ws1 (upd F1 a (excO a C)) (upd H1 a (excO a C)) us := ⟨nn.f, (fun b hb => by
          rcases hb with hb | hb
          · exact (nn.n b hb).elim .inl fun z => .inr (.inr z)
          · rcases hv b (sub.subset hb) with z | z
            · exact .inr (.inl z)
            · cases z), fun b o h1 _ h3 => nn.k b o h1 h3, nn.th⟩
        have fin := po _ _ _ us (n1.trans st1.dis n2) st4
        have eqs : ((σ1.set i (some (V.ref a))).set j (some (V.ref a))).set i none = (σ1.set j (some (V.ref a))).set i none := by
          rw [List.set_comm _ _ hij, List.set_set]
        show Dn.nx (((σ1.set i (some (V.ref a))).set j (some (V.ref a))).set i none) (upd H1 a (excO a C))
        rw [eqs]
        exact fin
      · exact po.elim
theorem ds_try {X : Cx} {W : WX} {L : List Str} {i j : Nat} {f : MS} {h n y : Str} {c : Value} {body : List Stmt} {np p1 p2 p3 pos pos' : Pos} (hij : i ≠ j) (hs : X.stack = X.env :: X.outer) (hf : X.env.frame = some X.env.locals) (hN : X.N.Nodup) (hi : X.N[i]? = some n) (hln : X.env.kindOf n = some .local) (hc : Names X h c)
    (hL : HeldT X.K X.mg c L)
    (hb : ∀ (W : WX) (pn : List (Addr × Obj)) (xe : Value → Shared → Prop), Takes (X.tr pn xe) W → PassesOwn (model X.prog X.w) X.A X.env xe → PSs (X.tr pn xe) body (rdS X.K X.mg W f))
    (hset : ∀ (a : Addr) (oe : Obj) (pn : List (Addr × Obj)), PSs (X.suite a ((a, oe) :: pn)) [.Assign [.Name y p1] (.Name n p2) p3] (tAsg (tVar i) (gName j))) :
    PS X (.Try body [.ExceptHandler (some (.Name h np)) (some n) [.Assign [.Name y p1] (.Name n p2) p3] pos'] [] [] pos) (rdS X.K X.mg W (sTry L i j f)) :=
  (ps_try_held (tb := fun W => rdS X.K X.mg W f) (ts := fun _ => tAsg (tVar i) (gName j)) hs hf hN hi hln hc hb hset).imp fun _ _ _ q => rd_sTry hij hL q
end
/-! ### isinstance of what was caught -/
def subE (e y : Str) : Bool := e == y || y == "GlassError" || y == "ValueError"
def rIsH (K : PySem.W.Frag) : List V → Hp → VK → Prop := fun xs H Q => ∃ (a C : Addr) (cv : V) (u : Value) (b : Bool), xs = [.ref a, cv] ∧ H a = some (excO a C) ∧ ExcC K C ∧ ClsV cv u ∧ PySem.W.kitOne K (.ref C) u = some b ∧ Q (.bl b) H
def rIsHT (K : PySem.W.Frag) : List V → Hp → VK → Prop := fun xs H Q => ∃ (a C tp : Addr) (cv : List V) (us : List Value) (b : Bool), xs = [.ref a, .ref tp] ∧ H a = some (excO a C) ∧ H tp = some (.tup cv) ∧ ExcC K C ∧ Paired ClsV cv us ∧ PySem.W.kitAny K (.ref C) us = some b ∧ Q (.bl b) H
theorem exc_inst {X : Cx} {pins : List (Addr × Obj)} {σ : L2.St} {H : Hp} {s : Shared} {a C : Addr} (I : Inv X pins σ H s) (h : H a = some (excO a C)) : ∃ oe, PySem.W.InstAt s.heap a oe C none := by
  obtain ⟨⟨oe, g, z, vs, hv⟩, _⟩ := (show ObjOk X.prog X.w H s.heap a (excO a C) from I.hok a _ h)
  refine ⟨oe, ?_⟩
  obtain ⟨c1, c2, c3, c4⟩ := oe
  obtain ⟨z1, z2⟩ := z
  dsimp only at z1 z2 hv
  subst z1 z2 hv
  exact ⟨g, rfl, rfl, trivial⟩
theorem call_isH {X : Cx} : CallR X (.builtin "isinstance") (rIsH X.K) := by
  intro pins s σ H xs us Q I r h
  obtain ⟨a, C, cv, u, b, rfl, ha, E, k, kit, q⟩ := h
  obtain ⟨u1, u2, rfl, r1, r2⟩ := vals2 r
  cases (show u1 = Value.ref a from r1)
  have := k.eq r2
  subst this
  obtain ⟨oe, J⟩ := exc_inst I ha
  exact PySem.W.kia_one (PySem.W.handS_kitx_exc E.hg E.hk E.hs E.hd E.ha E.hn E.ht E.hm) I.kIn J kit (fun z => nomatch z) fun tk => ⟨.bl b, H, I.tok tk, rfl, q⟩
theorem call_isHT {X : Cx} : CallR X (.builtin "isinstance") (rIsHT X.K) := by
  intro pins s σ H xs us Q I r h
  obtain ⟨a, C, tp, cv, ws, b, rfl, ha, hT, E, k, kit, q⟩ := h
  obtain ⟨u1, u2, rfl, r1, r2⟩ := vals2 r
  cases (show u1 = Value.ref a from r1)
  cases (show u2 = Value.ref tp from r2)
  obtain ⟨oe, J⟩ := exc_inst I ha
  obtain ⟨_, its, rv, o, h1, h2, n, h3⟩ := (show ObjOk X.prog X.w H s.heap tp (.tup cv) from I.hok tp _ hT)
  have := ClsV.all k rv
  subst this
  obtain ⟨oc, od, dt, sl⟩ := o
  simp only at h2 h3
  subst h2 h3
  exact PySem.W.kia_tup (PySem.W.handS_kitx_exc E.hg E.hk E.hs E.hd E.ha E.hn E.ht E.hm) I.kIn J h1 kit (fun z => nomatch z) fun tk => ⟨.bl b, H, I.tok tk, rfl, q⟩
/-- the raised classes L and a class (or several) that is asked for -/
structure IsT (K : PySem.W.Frag) (L : List Str) (u : Value) (y : Str) : Prop where
  non : PySem.W.kitOne K (.type "NoneType") u = some false
  exc : ∀ x, L.contains x = true → ∀ C : Addr, PySem.W.nsIn K mainGlobals x = some (some (.ref C)) → PySem.W.kitOne K (.ref C) u = some (subE x y)
def ExT (K : PySem.W.Frag) (L : List Str) : Prop := ∀ x, L.contains x = true → ∀ C : Addr, PySem.W.nsIn K mainGlobals x = some (some (.ref C)) → ExcC K C
theorem ext_nil {K : PySem.W.Frag} : ExT K [] := fun x h => by cases h
theorem ext_cons {K : PySem.W.Frag} {L : List Str} {x : Str} {C : Addr} (m : PySem.W.nsIn K mainGlobals x = some (some (.ref C))) (q : ExcC K C) (h : ExT K L) : ExT K (x :: L) := fun y hy D gy => by
  simp only [List.contains_cons, Bool.or_eq_true, beq_iff_eq] at hy
  rcases hy with rfl | hy
  · rw [m] at gy; cases gy; exact q
  · exact h y hy D gy
theorem ist_nil {K : PySem.W.Frag} {u : Value} {y : Str} (n : PySem.W.kitOne K (.type "NoneType") u = some false) : IsT K [] u y := ⟨n, fun x h => by cases h⟩
theorem ist_cons {K : PySem.W.Frag} {L : List Str} {x y : Str} {C : Addr} {u : Value} {b : Bool} (m : PySem.W.nsIn K mainGlobals x = some (some (.ref C))) (q : PySem.W.kitOne K (.ref C) u = some b) (hb : subE x y = b) (h : IsT K L u y) : IsT K (x :: L) u y := ⟨h.non, fun z hz D gz => by
  simp only [List.contains_cons, Bool.or_eq_true, beq_iff_eq] at hz
  rcases hz with rfl | hz
  · rw [m] at gz; cases gz; rw [hb]; exact q
  · exact h.exc z hz D gz⟩
inductive IsTs (K : PySem.W.Frag) (L : List Str) : List Value → List Str → Prop
  | nil : IsTs K L [] []
  | cons {u : Value} {us : List Value} {y : Str} {ys : List Str} : IsT K L u y → IsTs K L us ys → IsTs K L (u :: us) (y :: ys)
theorem IsTs.non {K : PySem.W.Frag} {L : List Str} : ∀ {us : List Value} {ys : List Str}, IsTs K L us ys → PySem.W.kitAny K (.type "NoneType") us = some false
  | _, _, .nil => kitAny_nil
  | _, _, .cons h t => kitAny_cons h.non (fun _ => t.non) fun z => by cases z
theorem IsTs.exc {K : PySem.W.Frag} {L : List Str} {x : Str} (hx : L.contains x = true) {C : Addr} (g : PySem.W.nsIn K mainGlobals x = some (some (.ref C))) : ∀ {us : List Value} {ys : List Str}, IsTs K L us ys → PySem.W.kitAny K (.ref C) us = some (ys.any (subE x))
  | _, _, .nil => kitAny_nil
  | _, _, .cons (y := y) h t => by
    refine kitAny_cons (h.exc x hx C g) (fun z => ?_) fun z => ?_
    · rw [List.any_cons, z, Bool.false_or]; exact IsTs.exc hx g t
    · rw [List.any_cons, z, Bool.true_or]
def isiE (L ys : List Str) : D → Option D
  | .exc x => if L.contains x = true then some (.bl (ys.any (subE x))) else none
  | .non => some (.bl false)
  | _ => none
@[simp] theorem isiE_non (L ys : List Str) : isiE L ys .non = some (.bl false) := rfl
@[simp] theorem isiE_exc (L ys : List Str) (x : Str) : isiE L ys (.exc x) = if L.contains x = true then some (.bl (ys.any (subE x))) else none := rfl
@[simp] def isiC (L ys : List Str) (f : ME) (e : En) (c : Cs) : R D := (f e c).bind fun x c => R.of (isiE L ys x) c
theorem isiE_cases {L ys : List Str} {d r : D} (h : isiE L ys d = some r) : (d = .non ∧ r = .bl false) ∨ ∃ x, d = .exc x ∧ L.contains x = true ∧ r = .bl (ys.any (subE x)) := by
  cases d with
  | non => cases h; exact .inl ⟨rfl, rfl⟩
  | exc x =>
    simp only [isiE_exc] at h
    split at h
    · rename_i hx; cases h; exact .inr ⟨x, rfl, hx, rfl⟩
    · cases h
  | _ => cases h
section
variable {K : PySem.W.Frag} {mg : Str → Option Value} {W : WX} {ca : List Addr} {F F' H H' : Hp} {σ : L2.St} {e : En} {ws : List Addr} {cs cs' : Cs}
theorem rd_isiC {L : List Str} {y : Str} {cv : V} {u : Value} (kc : ClsV cv u) (E : ExT K L) (Y : IsT K L u y) {f : ME} {Q : VK} (h : rdP K mg W (isiC L [y] f) σ H Q) : tCB (fun xs H Q => rIsi K xs H Q ∨ rIsH K xs H Q) (tCons (rdP K mg W f) (tCons (tC cv) tNil)) σ H Q := by
  obtain ⟨ca, F, e, ws, cs, st, po⟩ := h
  refine rdP_bind kindP st po fun x c1 F1 H1 v _ nx st1 dx po1 => ?_
  obtain ⟨d, hd, po2⟩ := po1.of
  rcases isiE_cases hd with ⟨rfl, rfl⟩ | ⟨z, rfl, hz, rfl⟩
  · cases dx
    exact .inl ⟨.non, cv, .type "NoneType", u, false, rfl, kc, .base .non, Y.non, PoP.ret st1 po2 (.bl _)⟩
  · cases dx with
    | @exc a C _ h1 h2 =>
      refine .inr ⟨a, C, cv, u, subE z y, rfl, st1.bsub _ _ h1, E z hz C h2, kc, Y.exc z hz C h2, ?_⟩
      have : ([y].any (subE z)) = subE z y := by simp
      rw [this] at po2
      exact PoP.ret st1 po2 (.bl _)
theorem rd_isiCs {L ys : List Str} {cvs : List V} {us : List Value} (hl : cvs.length ≤ 1000) (kc : Paired ClsV cvs us) (E : ExT K L) (Y : IsTs K L us ys) {f : ME} {Q : VK} (h : rdP K mg W (isiC L ys f) σ H Q) : tCB (fun xs H Q => rIsiT K xs H Q ∨ rIsHT K xs H Q) (tCons (rdP K mg W f) (tCons (tTup fun _ H Q => Q cvs H) tNil)) σ H Q := by
  obtain ⟨ca, F, e, ws, cs, st, po⟩ := h
  refine rdP_bind kindP st po fun x c1 F1 H1 v _ nx st1 dx po1 => ?_
  obtain ⟨d, hd, po2⟩ := po1.of
  refine ⟨by rw [sizeLine_eq]; omega, fun p hp => ?_⟩
  have nn : Nxt ca F1 H1 (upd F1 p (.tup cvs)) (upd H1 p (.tup cvs)) := Nxt.new st1.same hp
  have st2 := st1.nxt nn (st1.ce.new st1.same hp)
  have dx2 := Dd.mono (st1.bmono nn) _ _ dx
  rcases isiE_cases hd with ⟨rfl, rfl⟩ | ⟨z, rfl, hz, rfl⟩
  · cases dx
    exact .inl ⟨.non, p, cvs, .type "NoneType", us, false, rfl, upd_same, kc, .base .non, Y.non, PoP.ret st2 (PoP.step po2 nn) (.bl _)⟩
  · cases dx2 with
    | @exc a C _ h1 h2 =>
      exact .inr ⟨a, C, p, cvs, us, _, rfl, st2.bsub _ _ h1, upd_same, E z hz C h2, kc, Y.exc hz h2, PoP.ret st2 (PoP.step po2 nn) (.bl _)⟩
theorem callR_or {X : Cx} {f : Value} {r r' : List V → Hp → VK → Prop} (h : CallR X f r) (h' : CallR X f r') : CallR X f (fun xs H Q => r xs H Q ∨ r' xs H Q) := fun pins s σ H xs us Q I v q => q.elim (h pins s σ H xs us Q I v) (h' pins s σ H xs us Q I v)
theorem dp_isiC {X : Cx} {W : WX} {L : List Str} {y : Str} {cv : V} {u : Value} {f : ME} {a cl : Expr} {p pos : Pos} (hg : Gl X "isinstance") (hm : X.mg "isinstance" = none) (hcl : PE X cl (tC cv)) (kc : ClsV cv u) (E : ExT X.K L) (Y : IsT X.K L u y) (ha : PE X a (rdP X.K X.mg W f))
    (he : starEach [a, cl] X.env = (false, eval a X.env) :: starEach [cl] X.env := by rfl) (he2 : starEach [cl] X.env = (false, eval cl X.env) :: starEach [] X.env := by rfl) (hpl : (backTo pos (starEach [cl] X.env)).any (·.1) = false := by rfl) :
    PE X (.Call (.Name "isinstance" p) [a, cl] [] pos) (rdP X.K X.mg W (isiC L [y] f)) :=
  (pe_callB (callR_or call_isi call_isH) hg hm (by decide +kernel) (pa_cons ha (pa_cons hcl pa_nil he2) he) (by decide) (by decide) he hpl).imp fun _ _ _ q => rd_isiC kc E Y q
structure ClNames (X : Cx) (es : List Expr) (cvs : List V) (us : List Value) : Prop where
  pa : PA X es (fun _ H Q => Q cvs H)
  kc : Paired ClsV cvs us
theorem cn_nil {X : Cx} : ClNames X [] [] [] := ⟨pa_nil, .nil⟩
theorem cn_cons {X : Cx} {cl : Expr} {es : List Expr} {cv : V} {cvs : List V} {u : Value} {us : List Value} (hcl : PE X cl (tC cv)) (k : ClsV cv u) (h : ClNames X es cvs us) (he : starEach (cl :: es) X.env = (false, eval cl X.env) :: starEach es X.env := by rfl) : ClNames X (cl :: es) (cv :: cvs) (u :: us) :=
  ⟨(pa_cons hcl h.pa he).imp fun _ _ _ q => q, .cons k h.kc⟩
theorem dp_isiCs {X : Cx} {W : WX} {L ys : List Str} {cvs : List V} {us : List Value} {f : ME} {a : Expr} {es : List Expr} {k1 : Nat} {p p2 pos : Pos} (hg : Gl X "isinstance") (hm : X.mg "isinstance" = none) (hT : ClNames X es cvs us) (E : ExT X.K L) (Y : IsTs X.K L us ys) (ha : PE X a (rdP X.K X.mg W f)) (hl : cvs.length ≤ 1000 := by simp)
    (he : starEach [a, .Tuple es k1 p2] X.env = (false, eval a X.env) :: starEach [.Tuple es k1 p2] X.env := by rfl) (he2 : starEach [.Tuple es k1 p2] X.env = (false, eval (.Tuple es k1 p2) X.env) :: starEach [] X.env := by rfl) (hpl : (backTo pos (starEach [.Tuple es k1 p2] X.env)).any (·.1) = false := by rfl) :
    PE X (.Call (.Name "isinstance" p) [a, .Tuple es k1 p2] [] pos) (rdP X.K X.mg W (isiC L ys f)) :=
  (pe_callB (callR_or call_isiT call_isHT) hg hm (by decide +kernel) (pa_cons ha (pa_cons (pe_tup hT.pa) pa_nil he2) he) (by decide) (by decide) he hpl).imp fun _ _ _ q => rd_isiCs hl hT.kc E Y q
end
/-! ### the classes' own facts -/
theorem kitCls_own {K : PySem.W.Frag} {t : Value} {C : Addr} {b : Bool} (hd : PySem.W.hasDictIn K C = true) (ht : PySem.W.typeIn K (.ref C) = some (.type "type")) (h : PySem.W.subIn K t (.ref C) = some b) : PySem.W.kitCls K t (.ref C) = some b := by
  obtain ⟨cd, hc, _⟩ := PySem.W.any_some hd
  have q : ((PySem.W.clsIn K C).isSome && PySem.W.typeIn K (.ref C) == some (.type "type")) = true := by rw [hc, ht] <;> rfl
  unfold PySem.W.kitCls
  simp only [q, if_true]
  exact h
theorem kit_same {K : PySem.W.Frag} {C : Addr} : PySem.W.kitOne K (.ref C) (.ref C) = some true := by
  unfold PySem.W.kitOne
  rw [if_pos (by simp)]
theorem kit_own {K : PySem.W.Frag} {E C : Addr} {b : Bool} (hne : (E == C) = false) (hd : PySem.W.hasDictIn K C = true) (ht : PySem.W.typeIn K (.ref C) = some (.type "type")) (h : PySem.W.subIn K (.ref E) (.ref C) = some b) : PySem.W.kitOne K (.ref E) (.ref C) = some b := by
  unfold PySem.W.kitOne
  rw [if_neg fun z => ?_]
  · exact kitCls_own hd ht h
  · have e : (Value.ref E) = Value.ref C := beq_iff_eq.mp z
    cases e
    simp at hne
theorem kit_non {K : PySem.W.Frag} {t : String} {C : Addr} {b : Bool} (hd : PySem.W.hasDictIn K C = true) (ht : PySem.W.typeIn K (.ref C) = some (.type "type")) (h : PySem.W.subIn K (.type t) (.ref C) = some b) : PySem.W.kitOne K (.type t) (.ref C) = some b := by
  unfold PySem.W.kitOne
  rw [if_neg fun z => ?_]
  · exact kitCls_own hd ht h
  · have e : (Value.type t) = Value.ref C := beq_iff_eq.mp z
    cases e
theorem kit_blt {K : PySem.W.Frag} {T : String} {C : Addr} {b : Bool} (hm : PySem.W.kitMeta T = true) (h : PySem.W.subIn K (.ref C) (.type T) = some b) : PySem.W.kitOne K (.ref C) (.type T) = some b := by
  unfold PySem.W.kitOne
  rw [if_neg fun z => ?_]
  · unfold PySem.W.kitCls
    simp only [hm, if_true]
    exact h
  · have e : (Value.ref C) = Value.type T := beq_iff_eq.mp z
    cases e
end Dg

set_option Elab.async false
set_option linter.all false
set_option maxRecDepth 100000
set_option maxHeartbeats 4000000
namespace Dg
open PySem PySem.Spec PyProof.Rows L2
/-! ### a comparison of four places -/
def tChain3 (r r' r'' : R2) (ta tb tc td : TE) : TE := fun σ H Q => ta σ H fun x H1 => tb σ H1 fun y H2 => r x y H2 fun z H3 => ∃ k, z = .bl k ∧
  (if k = true then tc σ H3 fun w H4 => r' y w H4 fun z2 H5 => ∃ k2, z2 = .bl k2 ∧ (if k2 = true then td σ H5 fun u H6 => r'' w u H6 Q else Q (.bl false) H5) else Q (.bl false) H3)
theorem pe_chain3 {X : Cx} {ta tb tc td : TE} {a b c d : Expr} {pos : Pos} {op op' op'' : CmpOp} {r r' r'' : R2} (ho : OpR X (compareOp op) r) (ho' : OpR X (compareOp op') r') (ho'' : OpR X (compareOp op'') r'') (ha : PE X a ta) (hb : PE X b tb) (hc : PE X c tc) (hd : PE X d td)
    (hm : lastMarks [op, op', op''] [b, c, d] = false := by with_unfolding_all rfl) : PE X (.Compare a [op, op', op''] [b, c, d] pos) (tChain3 r r' r'' ta tb tc td) := by
  refine ⟨fun pins s σ H Q I h => ?_⟩
  refine Compare_chain (thn (ha.run pins s σ H _ I h) fun v s1 ⟨x, H1, I1, r1, q1⟩ => chain_link (thn (hb.run pins s1 σ H1 _ I1 q1) fun u s2 ⟨y, H2, I2, r2, q2⟩ =>
    thn (ho pins s2 σ H2 x y v u _ I2 r1 r2 q2) fun d s3 ⟨z, H3, I3, r3, k, e, q3⟩ => ?_)) hm
  subst e
  cases r3
  refine wpAny_truthy_bool ?_
  cases k with
  | false => exact ite_ff ⟨.bl false, H3, I3, rfl, q3⟩
  | true =>
    refine ite_tt (chain_link (thn (hc.run pins s3 σ H3 _ I3 q3) fun w' s4 ⟨z', H4, I4, r4, q4⟩ => thn (ho' pins s4 σ H4 y z' u w' _ I4 r2 r4 q4) fun d5 s5 ⟨z5, H5, I5, r5, k2, e2, q5⟩ => ?_))
    subst e2
    cases r5
    refine wpAny_truthy_bool ?_
    cases k2 with
    | false => exact ite_ff ⟨.bl false, H5, I5, rfl, q5⟩
    | true => exact ite_tt (chain_last (thn (hd.run pins s5 σ H5 _ I5 q5) fun w6 s6 ⟨z6, H6, I6, r6, q6⟩ => ho'' pins s6 σ H6 z' z6 w' w6 Q I6 r4 r6 q6))
theorem pt_chain3 {X : Cx} {ta tb tc td : TE} {a b c d : Expr} {pos : Pos} {op op' op'' : CmpOp} {r r' r'' : R2} (ho : OpR X (compareOp op) r) (ho' : OpR X (compareOp op') r') (ho'' : OpR X (compareOp op'') r'') (ha : PE X a ta) (hb : PE X b tb) (hc : PE X c tc) (hd : PE X d td)
    (hm : lastMarks [op, op', op''] [b, c, d] = false := by with_unfolding_all rfl) : PT X (.Compare a [op, op', op''] [b, c, d] pos) (tTest (tChain3 r r' r'' ta tb tc td)) := by
  refine ⟨fun pins s σ H Q I h => ?_⟩
  refine isTrue_chain (thn (ha.run pins s σ H _ I h) fun v s1 ⟨x, H1, I1, r1, q1⟩ => test_link (thn (hb.run pins s1 σ H1 _ I1 q1) fun u s2 ⟨y, H2, I2, r2, q2⟩ =>
    thn (ho pins s2 σ H2 x y v u _ I2 r1 r2 q2) fun d s3 ⟨z, H3, I3, r3, k, e, q3⟩ => ?_)) hm
  subst e
  cases r3
  refine wpAny_truthy_bool ?_
  cases k with
  | false =>
    obtain ⟨k', e', q'⟩ := q3
    cases e'
    exact ite_ff ⟨H3, I3, q'⟩
  | true =>
    refine ite_tt (test_link (thn (hc.run pins s3 σ H3 _ I3 q3) fun w' s4 ⟨z', H4, I4, r4, q4⟩ => thn (ho' pins s4 σ H4 y z' u w' _ I4 r2 r4 q4) fun d' s5 ⟨z2, H5, I5, r5, k2, e2, q5⟩ => ?_))
    subst e2
    cases r5
    refine wpAny_truthy_bool ?_
    cases k2 with
    | false =>
      obtain ⟨k', e', q'⟩ := q5
      cases e'
      exact ite_ff ⟨H5, I5, q'⟩
    | true =>
      refine ite_tt (test_last (thn (hd.run pins s5 σ H5 _ I5 q5) fun w6 s6 ⟨z6, H6, I6, r6, q6⟩ => thn (ho'' pins s6 σ H6 z' z6 w' w6 _ I6 r4 r6 q6) fun d7 s7 ⟨z7, H7, I7, r7, k7, e7, q7⟩ => ?_))
      subst e7
      cases r7
      exact wpAny_truthy_bool ⟨H7, I7, q7⟩
@[simp] def chain3 (o o' o'' : Cs → D → D → Option D) (f g h i : ME) (e : En) (c : Cs) : R D := (f e c).bind fun x c => (g e c).bind fun y c => match o c x y with
  | some (.bl b) => if b = true then (h e c).bind fun z c => match o' c y z with
    | some (.bl b2) => if b2 = true then (i e c).bind fun w c => R.of (o'' c z w) c else .ok (.bl false) c
    | _ => .stuck else .ok (.bl false) c
  | _ => .stuck
section
variable {K : PySem.W.Frag} {mg : Str → Option Value} {W : WX} {σ : L2.St} {H : Hp}
theorem rd_chain3 {r r' r'' : R2} {o o' o'' : Cs → D → D → Option D} (hs : Sem2 K r o) (hs' : Sem2 K r' o') (hs'' : Sem2 K r'' o'') {f g h i : ME} {Q : VK} (hw : rdP K mg W (chain3 o o' o'' f g h i) σ H Q) : tChain3 r r' r'' (rdP K mg W f) (rdP K mg W g) (rdP K mg W h) (rdP K mg W i) σ H Q := by
  obtain ⟨ca, F, e, ws, cs, st, po⟩ := hw
  refine rdP_bind kindP st po fun x c1 F1 H1 v _ nx st1 dx po1 => ?_
  refine rdP_bind kindP st1 po1 fun y c2 F2 H2 u _ nx2 st2 dy po2 => ?_
  cases q : o c2 x y with
  | none => rw [q] at po2; exact po2.elim
  | some d =>
    rw [q] at po2
    cases d with
    | bl b =>
      refine hs (mg := mg) (W := W) (σ := σ) (e := e) st2 (Dd.mono (st1.bmono nx2) _ _ dx) dy q ?_
      intro F3 H3 z nx3 ce3 dz
      have st3 := st2.nxt nx3 ce3
      cases dz
      refine ⟨b, rfl, ?_⟩
      have po3 := po2.step nx3
      cases b with
      | false => exact PoP.ret st3 po3 (.bl false)
      | true =>
        refine rdP_bind kindP st3 po3 fun z c4 F4 H4 w _ nx4 st4 dz po4 => ?_
        have dy4 := Dd.mono (st3.bmono nx4) _ _ (Dd.mono (st2.bmono nx3) _ _ dy)
        cases q4 : o' c4 y z with
        | none => rw [q4] at po4; exact po4.elim
        | some d =>
          rw [q4] at po4
          cases d with
          | bl b =>
            refine hs' (mg := mg) (W := W) (σ := σ) (e := e) st4 dy4 dz q4 ?_
            intro F5 H5 z5 nx5 ce5 dz5
            have st5 := st4.nxt nx5 ce5
            cases dz5
            refine ⟨b, rfl, ?_⟩
            have po5 := po4.step nx5
            cases b with
            | false => exact PoP.ret st5 po5 (.bl false)
            | true =>
              refine rdP_bind kindP st5 po5 fun z6 c6 F6 H6 w6 _ nx6 st6 dz6 po6 => ?_
              obtain ⟨d, hd, po7⟩ := po6.of
              exact hs'' st6 (Dd.mono (st5.bmono nx6) _ _ (Dd.mono (st4.bmono nx5) _ _ dz)) dz6 hd po7
          | _ => exact po4.elim
    | _ => exact po2.elim
end
theorem dp_chain3 {X : Cx} {W : WX} {op op' op'' : CmpOp} {r r' r'' : R2} {o o' o'' : Cs → D → D → Option D} {f g h i : ME} {a b c d : Expr} {pos : Pos} (ho : OpR X (compareOp op) r) (ho' : OpR X (compareOp op') r') (ho'' : OpR X (compareOp op'') r'') (hs : Sem2 X.K r o) (hs' : Sem2 X.K r' o') (hs'' : Sem2 X.K r'' o'')
    (ha : PE X a (rdP X.K X.mg W f)) (hb : PE X b (rdP X.K X.mg W g)) (hc : PE X c (rdP X.K X.mg W h)) (hd : PE X d (rdP X.K X.mg W i)) (hm : lastMarks [op, op', op''] [b, c, d] = false := by with_unfolding_all rfl) :
    PE X (.Compare a [op, op', op''] [b, c, d] pos) (rdP X.K X.mg W (chain3 o o' o'' f g h i)) := (pe_chain3 ho ho' ho'' ha hb hc hd hm).imp fun _ _ _ q => rd_chain3 hs hs' hs'' q
theorem dt_chain3 {X : Cx} {W : WX} {op op' op'' : CmpOp} {r r' r'' : R2} {o o' o'' : Cs → D → D → Option D} {f g h i : ME} {a b c d : Expr} {pos : Pos} (ho : OpR X (compareOp op) r) (ho' : OpR X (compareOp op') r') (ho'' : OpR X (compareOp op'') r'') (hs : Sem2 X.K r o) (hs' : Sem2 X.K r' o') (hs'' : Sem2 X.K r'' o'')
    (ha : PE X a (rdP X.K X.mg W f)) (hb : PE X b (rdP X.K X.mg W g)) (hc : PE X c (rdP X.K X.mg W h)) (hd : PE X d (rdP X.K X.mg W i)) (hm : lastMarks [op, op', op''] [b, c, d] = false := by with_unfolding_all rfl) :
    PT X (.Compare a [op, op', op''] [b, c, d] pos) (rdT X.K X.mg W (toT (chain3 o o' o'' f g h i))) := (pt_chain3 ho ho' ho'' ha hb hc hd hm).imp fun _ _ _ q => rd_chain3 hs hs' hs'' (rd_toT q)
end Dg

set_option Elab.async false
set_option linter.all false
set_option maxRecDepth 100000
set_option maxHeartbeats 4000000
namespace Dg
open PySem PySem.Spec PyProof.Rows L2
/-! ### x.index(y), x.count(y): a list of whole numbers, truths, texts -/
@[simp] def D.v0 : D → Option V
  | .non => some .non
  | .bl b => some (.bl b)
  | .int i => some (.int i)
  | .str s => some (.str s)
  | _ => none
@[simp] def vs0 : List D → Option (List V)
  | [] => some []
  | d :: l => (d.v0).bind fun v => (vs0 l).map (v :: ·)
def firstV (y : V) : List V → Nat → Option Nat
  | [], _ => none
  | x :: xs, n => if eqV x y = true then some n else firstV y xs (n + 1)
def indexD (l : List D) (y : D) : Option D := (vs0 l).bind fun vs => y.v0.bind fun v => (firstV v vs 0).map fun j => .int (j : Nat)
def countD (l : List D) (y : D) : Option D := (vs0 l).bind fun vs => y.v0.map fun v => .int (vs.countP fun z => eqV z v : Nat)
@[simp] def mth2 (o : List D → D → Option D) (f g : ME) (e : En) (c : Cs) : R D := (f e c).bind fun x c => match x.li with
  | some l => (g e c).bind fun y c => R.of (o l y) c
  | none => .stuck
section
variable {K : PySem.W.Frag} {mg : Str → Option Value} {W : WX} {ca : List Addr} {F F' H H' : Hp} {σ : L2.St} {e : En} {ws : List Addr} {cs cs' : Cs}
theorem v0_eq {v v' : V} {d : D} (h : Dd K ca F v d) (q : d.v0 = some v') : v = v' ∧ flatV v = true := by
  cases h <;> cases q <;> exact ⟨rfl, rfl⟩
theorem vs0_eq : ∀ {xs vs : List V} {l : List D}, DdA K ca F xs l → vs0 l = some vs → xs = vs ∧ xs.all flatV = true
  | _, _, _, .nil, q => by cases q; exact ⟨rfl, rfl⟩
  | _, _, _, .cons h t, q => by
    simp only [vs0, Option.bind_eq_some_iff, Option.map_eq_some_iff] at q
    obtain ⟨v, h1, vs, h2, rfl⟩ := q
    obtain ⟨a, b⟩ := v0_eq h h1
    obtain ⟨a2, b2⟩ := vs0_eq t h2
    subst a a2
    exact ⟨rfl, by rw [List.all_cons, b, b2]; rfl⟩
theorem firstV_spec {y : V} : ∀ {vs : List V} {n j : Nat}, firstV y vs n = some j → ∃ k z, j = n + k ∧ vs[k]? = some z ∧ eqV z y = true ∧ ∀ m z', m < k → vs[m]? = some z' → eqV z' y = false
  | [], n, j, h => by cases h
  | x :: xs, n, j, h => by
    unfold firstV at h
    by_cases q : eqV x y = true
    · rw [if_pos q] at h
      cases h
      exact ⟨0, x, rfl, rfl, q, fun m z' hm => by omega⟩
    · rw [if_neg q] at h
      obtain ⟨k, z, h1, h2, h3, h4⟩ := firstV_spec h
      refine ⟨k + 1, z, by omega, h2, h3, fun m z' hm hz => ?_⟩
      cases m with
      | zero => cases hz; simpa using q
      | succ m => exact h4 m z' (by omega) hz
/-- of one method: where the data answer, so does it -/
def SemM (K : PySem.W.Frag) (r : V → List V → Hp → VK → Prop) (o : List D → D → Option D) : Prop :=
  ∀ {l : List D} {y d : D}, o l y = some d → ∃ vs v i, vs0 l = some vs ∧ y.v0 = some v ∧ d = .int i ∧ ∀ (a : Addr) (H : Hp) (Q : VK), SqL K H a vs → flatV v = true → vs.all flatV = true → Q (.int i) H → r (.ref a) [v] H Q
theorem rd_mth2 {r : V → List V → Hp → VK → Prop} {o : List D → D → Option D} (hs : SemM K r o) {f g : ME} {Q : VK} (h : rdP K mg W (mth2 o f g) σ H Q) : tBM K "list" r (rdP K mg W f) (tCons (rdP K mg W g) tNil) σ H Q := by
  obtain ⟨ca, F, e, ws, cs, st, po⟩ := h
  refine rdP_bind kindP st po fun x c1 F1 H1 v _ nx st1 dx po1 => ?_
  cases hl : x.li with
  | none => rw [hl] at po1; exact po1.elim
  | some l =>
    rw [hl] at po1
    simp only at po1
    obtain ⟨a, xs, rfl, s1, d1⟩ := dx.li hl
    refine ⟨.inl ⟨rfl, xs, st1.bsub.seq s1⟩, ?_⟩
    refine rdP_bind kindP st1 po1 fun y c2 F2 H2 u _ nx2 st2 dy po2 => ?_
    obtain ⟨a', xs', e', s2, d2⟩ := (Dd.mono (st1.bmono nx2) _ _ dx).li hl
    cases e'
    obtain ⟨d, hd, po3⟩ := po2.of
    obtain ⟨vs, v, i, h1, h2, rfl, h4⟩ := hs hd
    obtain ⟨q1, q2⟩ := vs0_eq d2 h1
    obtain ⟨q3, q4⟩ := v0_eq dy h2
    subst q1 q3
    exact h4 a H2 _ (st2.bsub.seq s2) q4 q2 (PoP.ret st2 po3 (.int i))
theorem sem_index : SemM K (rIndex K) indexD := fun {l y d} h => by
  simp only [indexD, Option.bind_eq_some_iff, Option.map_eq_some_iff] at h
  obtain ⟨vs, h1, v, h2, j, h3, rfl⟩ := h
  obtain ⟨k, z, e, h4, h5, h6⟩ := firstV_spec h3
  rw [Nat.zero_add] at e
  subst e
  exact ⟨vs, v, _, h1, h2, rfl, fun a H Q s f1 f2 q => ⟨a, vs, v, j, z, rfl, rfl, s, f1, f2, h4, h5, h6, q⟩⟩
def rCountV (K : PySem.W.Frag) : V → List V → Hp → VK → Prop := fun x xs H Q => ∃ (a : Addr) (ys : List V) (y : V), x = V.ref a ∧ xs = [y] ∧ SqL K H a ys ∧ flatV y = true ∧ ys.all flatV = true ∧ Q (.int (ys.countP fun z => eqV z y : Nat)) H
theorem sem_count : SemM K (rCountV K) countD := fun {l y d} h => by
  simp only [countD, Option.bind_eq_some_iff, Option.map_eq_some_iff] at h
  obtain ⟨vs, h1, v, h2, rfl⟩ := h
  exact ⟨vs, v, _, h1, h2, rfl, fun a H Q s f1 f2 q => ⟨a, vs, v, rfl, rfl, s, f1, f2, q⟩⟩
theorem countP_eqU {x : V} : ∀ {xs : List V} {us : List Value}, Vals xs us → xs.all flatV = true → us.countP (eqU x) = xs.countP fun y => eqV y x
  | _, _, .nil, _ => rfl
  | y :: xs, u :: us, .cons r t, f => by
    rw [List.all_cons, Bool.and_eq_true] at f
    rw [List.countP_cons, List.countP_cons, countP_eqU t f.2, eqU_of r f.1]
end
theorem mt_countV {X : Cx} : MtR X "list.count" (rCountV X.K) := by
  intro pins s σ H x xs v us Q I rx rxs h
  obtain ⟨p, ys, y, rfl, rfl, hs, fy, fys, q⟩ := h
  cases rx
  obtain ⟨u, rfl, ru⟩ := rxs.one
  obtain ⟨its, rv, ⟨⟨cls, dd, data, sl⟩, n, ho, hc, hdn, hd⟩, hlen⟩ := I.list hs
  simp only at hc hd
  subst hc hd
  refine call_meets PySem.F.slot_list_count ⟨_, ho, rfl⟩ PySem.F.entry_list_count (PySem.F.args_list_count_2 _ _)
    (SeqAt.list_countAt p its.toArray n dd sl u (eqU y)) ⟨ho, fun u' hu => mem_eqAt ru fy rv fys u' (by simpa using hu), ?_⟩
  refine ⟨.int (ys.countP fun z => eqV z y : Nat), H, I.tok _, ⟨s.toks, ?_⟩, q⟩
  show Value.int ((its.toArray.toList.countP (eqU y) : Nat) : Int) s.toks = _
  rw [show its.toArray.toList = its from rfl, countP_eqU rv fys]
theorem dp_index {X : Cx} {W : WX} {f g : ME} {o a : Expr} {ap cp : Pos} (ho : PE X o (rdP X.K X.mg W f)) (ha : PE X a (rdP X.K X.mg W g))
    (hs1 : starEach [a] X.env = (false, eval a X.env) :: starEach [] X.env := by rfl)
    (hbase : attributeBase o "index" X.env (eval o X.env) = eval o X.env := by rfl)
    (hfew : ((backTo cp (starEach [a] X.env)).all (fun x => !x.1) && (backToKw cp (keywordEach [] X.env)).all (fun x => x.1.isSome) && decide ([a].length + ([] : List Keyword).length + (if ([] : List Keyword).isEmpty then 0 else 1) < 30)) = true := by rfl)
    (hline : (ap.endLine == cp.line) = true := by rfl) (hplain : (backTo cp (starEach [] X.env)).any (·.1) = false := by rfl) :
    PE X (.Call (.Attribute o "index" ap) [a] [] cp) (rdP X.K X.mg W (mth2 indexD f g)) :=
  (pe_bm PySem.F.plainAttrs_list PySem.F.slot_list_index PySem.F.type_list_index mt_index ho (pa_cons ha pa_nil hs1) hbase hfew hline hs1 hplain).imp fun _ _ _ q => rd_mth2 sem_index q
theorem dp_count {X : Cx} {W : WX} {f g : ME} {o a : Expr} {ap cp : Pos} (ho : PE X o (rdP X.K X.mg W f)) (ha : PE X a (rdP X.K X.mg W g))
    (hs1 : starEach [a] X.env = (false, eval a X.env) :: starEach [] X.env := by rfl)
    (hbase : attributeBase o "count" X.env (eval o X.env) = eval o X.env := by rfl)
    (hfew : ((backTo cp (starEach [a] X.env)).all (fun x => !x.1) && (backToKw cp (keywordEach [] X.env)).all (fun x => x.1.isSome) && decide ([a].length + ([] : List Keyword).length + (if ([] : List Keyword).isEmpty then 0 else 1) < 30)) = true := by rfl)
    (hline : (ap.endLine == cp.line) = true := by rfl) (hplain : (backTo cp (starEach [] X.env)).any (·.1) = false := by rfl) :
    PE X (.Call (.Attribute o "count" ap) [a] [] cp) (rdP X.K X.mg W (mth2 countD f g)) :=
  (pe_bm PySem.F.plainAttrs_list PySem.F.slot_list_count PySem.F.type_list_count mt_countV ho (pa_cons ha pa_nil hs1) hbase hfew hline hs1 hplain).imp fun _ _ _ q => rd_mth2 sem_count q
/-! ### x.insert(i, y), own -/
@[simp] noncomputable def sIns (i : Nat) (fk : ME) (f : MO) (e : En) (c : Cs) : R Fl := match e[i]? with
  | some (some (.ol ts)) => (fk e c).toS e fun k c => match k with
    | .int k => (f e c).toS e fun t c => if ts.length < LIM ∧ inR k ∧ 0 ≤ k then .ok (.nx (e.set i (some (.ol (ts.take k.toNat ++ [t] ++ ts.drop k.toNat))))) c else .stuck
    | _ => .stuck
  | _ => .stuck
section
variable {K : PySem.W.Frag} {mg : Str → Option Value} {W : WX} {ca : List Addr} {F F' H H' : Hp} {σ : L2.St} {e : En} {ws : List Addr} {cs cs' : Cs}
def rIns : V → List V → Hp → VK → Prop := fun x vs H Q => ∃ (l : Addr) (xs : List V) (i : Int) (y : V), x = .ref l ∧ vs = [.int i, y] ∧ H l = some (.lst xs) ∧ xs.length < sizeLine ∧ 0 ≤ i ∧ i < 2 ^ 63 ∧
    Q .non (upd H l (.lst (xs.take i.toNat ++ [y] ++ xs.drop i.toNat)))
theorem OwnA.cutAt : ∀ {xs : List V} {ts : List T} {as : List Addr} (j : Nat), OwnA K ca F H xs ts as → ∃ bs ds, as = bs ++ ds ∧ OwnA K ca F H (xs.take j) (ts.take j) bs ∧ OwnA K ca F H (xs.drop j) (ts.drop j) ds
  | _, _, _, 0, h => ⟨[], _, rfl, by simpa using OwnA.nil, by simpa using h⟩
  | _, _, _, j + 1, .nil => ⟨[], [], rfl, by simpa using OwnA.nil, by simpa using OwnA.nil⟩
  | _, _, _, j + 1, .cons (as := a0) h1 h2 => by
    obtain ⟨bs, ds, rfl, h3, h4⟩ := OwnA.cutAt j h2
    exact ⟨a0 ++ bs, ds, by rw [List.append_assoc], .cons h1 h3, h4⟩
theorem rd_sIns {i : Nat} {fk : ME} {f : MO} {Dn : Ends} (h : rdS K mg W (sIns i fk f) Dn σ H) : tDrop (tBM K "list" rIns (tVar i) (tCons (rdP K mg W fk) (tCons (rdO K mg W f) tNil))) Dn σ H := by
  obtain ⟨ca, F, e, ws, cs, st, po⟩ := h
  unfold sIns at po
  cases q : e[i]? with
  | none => rw [q] at po; exact po.elim
  | some o =>
    cases o with
    | none => rw [q] at po; exact po.elim
    | some t =>
      cases t with
      | v d => rw [q] at po; exact po.elim
      | ot d => rw [q] at po; exact po.elim
      | ol ts =>
        rw [q] at po
        obtain ⟨l, xs, as, h1, h2, _, _, _⟩ := st.change q
        refine ⟨.ref l, h1, .inl ⟨rfl, xs, SqL.of h2⟩, ?_⟩
        refine toS_Pf NxS.refl st po fun k c0 F0 H0 v0 nx0 st0 dk po0 => ?_
        cases k with
        | int k =>
          cases dk
          simp only at po0
          have po0' := po0.step nx0.toS st0.dis
          refine toS_O st0 po0' fun t c1 F1 H1 v bs nx st1 dx n f1 fr po1 => ?_
          obtain ⟨l', xs', as', g1, g2, g3, g4, gn, gw, g5⟩ := st1.change q
          have el : l' = l := by rw [h1] at g1; cases g1; rfl
          subst el
          split at po1
          · rename_i hlim
            have r1 := hlim.2.2
            have r2 : k < 1000000 := hlim.2.1.1
            refine ⟨l', xs', k, v, rfl, rfl, g2, by rw [OwnA.length g4]; exact lim_line' hlim.1, r1, by omega, ?_⟩
            obtain ⟨b1, b2, rfl, c1', c2'⟩ := OwnA.cutAt k.toNat g4
            have n1 := List.nodup_append.mp gn
            have gwa : ∀ a ∈ bs, a ∉ b1 ++ b2 := fun a m z => fr.w a m (gw a z)
            obtain ⟨vs, st2, hv⟩ := g5 (bw := bs) ((c1'.app (own_one dx)).app c2') (List.nodup_append.mpr ⟨List.nodup_append.mpr ⟨n1.1, n, fun a m b m2 z => gwa b m2 (by rw [← z]; exact List.mem_append_left _ m)⟩, n1.2.1, fun a m b m2 z => by
              rcases List.mem_append.mp m with m | m
              · exact n1.2.2 a m b m2 z
              · exact gwa a m (by rw [z]; exact List.mem_append_right _ m2)⟩) (fun a m => by
              rcases List.mem_append.mp m with m | m
              · rcases List.mem_append.mp m with m | m
                · exact .inl (List.mem_append_left _ m)
                · exact .inr m
              · exact .inl (List.mem_append_right _ m)) fr
            have hl : l' ∈ ws := by
              obtain ⟨x, pre, as0, post, k1, k2, k3, _⟩ := Sl.rep st.sl i _ q
              cases k3 with
              | l k4 k5 k6 => rw [h1] at k1; cases k1; rw [k2]; simp
            exact po1 F1 _ σ vs (NxS.change hl hv f1 nx) st2
          · exact po1.elim
        | _ => exact po0.elim
end
theorem ds_ins {X : Cx} {W : WX} {fk : ME} {f : MO} {k a : Expr} {x : Str} {p ap cp pos : Pos} (i : Nat) (hv : PE X (.Name x p) (tVar i)) (hk : PE X k (rdP X.K X.mg W fk)) (ha : PE X a (rdO X.K X.mg W f))
    (hs1 : starEach [k, a] X.env = (false, eval k X.env) :: starEach [a] X.env := by rfl)
    (hs2 : starEach [a] X.env = (false, eval a X.env) :: starEach [] X.env := by rfl)
    (hbase : attributeBase (.Name x p) "insert" X.env (eval (.Name x p) X.env) = eval (.Name x p) X.env := by rfl)
    (hfew : ((backTo cp (starEach [k, a] X.env)).all (fun x => !x.1) && (backToKw cp (keywordEach [] X.env)).all (fun x => x.1.isSome) && decide ([k, a].length + ([] : List Keyword).length + (if ([] : List Keyword).isEmpty then 0 else 1) < 30)) = true := by rfl)
    (hline : (ap.endLine == cp.line) = true := by rfl) (hplain : (backTo cp (starEach [a] X.env)).any (·.1) = false := by rfl)
    (hsw : swapsWith (.Call (.Attribute (.Name x p) "insert" ap) [k, a] [] cp) none pos.line X.env = pure false := by rfl) :
    PS X (.Expr (.Call (.Attribute (.Name x p) "insert" ap) [k, a] [] cp) pos) (rdS X.K X.mg W (sIns i fk f)) :=
  (ps_expr (pe_bm PySem.F.plainAttrs_list PySem.F.slot_list_insert PySem.F.type_list_insert mt_insert hv (pa_cons hk (pa_cons ha pa_nil hs2) hs1) hbase hfew hline hs1 hplain) hsw).imp fun _ _ _ q => rd_sIns q
end Dg

set_option Elab.async false
set_option linter.all false
set_option maxRecDepth 100000
set_option maxHeartbeats 4000000
namespace Dg
open PySem PySem.Spec PyProof.Rows L2
/-! ### an own list that callees change from here on -/
@[simp] def vsT : List T → Option (List D)
  | [] => some []
  | .v d :: l => (vsT l).map (d :: ·)
  | _ :: _ => none
@[simp] def D.sc : D → Bool
  | .non => true
  | .bl _ => true
  | .int _ => true
  | .str _ => true
  | _ => false
def penEnd : R Fl → R Fl
  | .ok (.rt (.v d)) _ => if d.sc = true then .ok (.rt (.v d)) [] else .stuck
  | _ => .stuck
def sPen (i : Nat) (f : MS) (e : En) (c : Cs) : R Fl := match e[i]?, c with
  | some (some (.ol ts)), [] => (match vsT ts with
    | some ds => if D.flatA ds = true then penEnd (f (e.set i (some (.v (.cell 0)))) [ds]) else .stuck
    | none => .stuck)
  | _, _ => .stuck
section
variable {K : PySem.W.Frag} {mg : Str → Option Value} {W : WX} {ca ca2 : List Addr} {F F' H H' : Hp} {σ : L2.St} {e : En} {ws : List Addr} {cs cs' : Cs}
def Ext (ca ca2 : List Addr) : Prop := ∀ (n : Nat) (a : Addr), ca[n]? = some a → ca2[n]? = some a
mutual
theorem Dd.cam (x : Ext ca ca2) : ∀ (d : D) (v : V), Dd K ca F v d → Dd K ca2 F v d
  | .non, _, h => by cases h; exact .non
  | .bl _, _, h => by cases h; exact .bl _
  | .int _, _, h => by cases h; exact .int _
  | .str _, _, h => by cases h; exact .str _
  | .lst ds, _, h => by cases h with | lst h1 h2 => exact .lst h1 (DdA.cam x ds _ h2)
  | .tup ds, _, h => by cases h with | tup h1 h2 => exact .tup h1 (DdA.cam x ds _ h2)
  | .scr _, _, h => by cases h with | scr h1 => exact .scr h1
  | .cell _, _, h => by cases h with | cell h1 => exact .cell (x _ _ h1)
  | .exc _, _, h => by cases h with | exc h1 h2 => exact .exc h1 h2
  | .ob _ _ ds, _, h => by cases h with | ob h1 h2 h3 h4 => exact .ob h1 h2 h3 (DdA.cam x ds _ h4)
theorem DdA.cam (x : Ext ca ca2) : ∀ (ds : List D) (vs : List V), DdA K ca F vs ds → DdA K ca2 F vs ds
  | [], _, h => by cases h; exact .nil
  | d :: ds, _, h => by cases h with | cons h1 h2 => exact .cons (Dd.cam x d _ h1) (DdA.cam x ds _ h2)
end
mutual
theorem Own.cam (x : Ext ca ca2) : ∀ (t : T) (v : V) (as : List Addr), Own K ca F H v t as → Own K ca2 F H v t as
  | .v d, _, _, h => by cases h with | v h1 => exact .v (Dd.cam x _ _ h1)
  | .ol ts, _, _, h => by cases h with | l h1 h2 h3 => exact .l h1 h2 (OwnA.cam x ts _ _ h3)
  | .ot ts, _, _, h => by cases h with | t h1 h2 => exact .t h1 (OwnA.cam x ts _ _ h2)
theorem OwnA.cam (x : Ext ca ca2) : ∀ (ts : List T) (vs : List V) (as : List Addr), OwnA K ca F H vs ts as → OwnA K ca2 F H vs ts as
  | [], _, _, h => by cases h; exact .nil
  | t :: ts, _, _, h => by cases h with | cons h1 h2 => exact .cons (Own.cam x t _ _ h1) (OwnA.cam x ts _ _ h2)
end
theorem Sl.cam (x : Ext ca ca2) : ∀ {σ : L2.St} {e : En} {ws : List Addr}, Sl K ca F H σ e ws → Sl K ca2 F H σ e ws
  | _, _, _, .nil => .nil
  | _, _, _, .no h => .no (Sl.cam x h)
  | _, _, _, .so h1 h2 => .so (Own.cam x _ _ _ h1) (Sl.cam x h2)
theorem vsT_own : ∀ {ts : List T} {ds : List D} {xs : List V} {as : List Addr}, OwnA K ca F H xs ts as → vsT ts = some ds → as = [] ∧ DdA K ca F xs ds
  | _, _, _, _, .nil, q => by cases q; exact ⟨rfl, .nil⟩
  | _, _, _, _, .cons (t := t) h1 h2, q => by
    cases t with
    | v d =>
      simp only [vsT, Option.map_eq_some_iff] at q
      obtain ⟨l, q1, rfl⟩ := q
      obtain ⟨e1, e2⟩ := vsT_own h2 q1
      subst e1
      cases h1 with
      | v h1 => exact ⟨rfl, .cons h1 e2⟩
    | ol _ => cases q
    | ot _ => cases q
theorem rd_sPen {i : Nat} {f : MS} {Dn : Ends} (h : rdS K mg W (sPen i f) Dn σ H) : rdS K mg W f Dn σ H := by
  obtain ⟨ca, F, e, ws, cs, st, po⟩ := h
  unfold sPen at po
  cases q : e[i]? with
  | none => rw [q] at po; exact po.elim
  | some o =>
    cases o with
    | none => rw [q] at po; exact po.elim
    | some t =>
      cases t with
      | v d => rw [q] at po; exact po.elim
      | ot d => rw [q] at po; exact po.elim
      | ol ts =>
        cases cs with
        | cons _ _ => rw [q] at po; exact po.elim
        | nil =>
          rw [q] at po
          simp only at po
          cases qv : vsT ts with
          | none => rw [qv] at po; exact po.elim
          | some ds =>
            rw [qv] at po
            simp only at po
            by_cases hf : D.flatA ds = true
            · rw [if_pos hf] at po
              have hca : ca = [] := by
                have := st.ce.1
                cases ca with
                | nil => rfl
                | cons _ _ => simp at this
              subst hca
              obtain ⟨x, pre, as0, post, h1, h2, h3, _⟩ := Sl.rep st.sl i _ q
              cases h3 with
              | @l l xs _ as g1 g2 g3 =>
                obtain ⟨e1, _⟩ := vsT_own g3 qv
                subst e1
                have ext : Ext [] [l] := fun n a z => by simp at z
                obtain ⟨x', pre', as', post', k1, k2, k3, rp⟩ := Sl.rep (Sl.cam ext st.sl) i _ q
                rw [h1] at k1
                cases k1
                cases k3 with
                | @l _ xs' _ as2 m1 m2 m3 =>
                  obtain ⟨e2, dd⟩ := vsT_own m3 qv
                  subst e2
                  have sl' := rp F H (.v (.cell 0)) [] (Same.refl F) (fun a m => ⟨rfl, st.dis a (by rw [k2]; simp only [List.mem_append] at m ⊢; rcases m with m | m <;> simp [m])⟩) (.v (.cell rfl))
                  have nd' : ((pre' ++ [] ++ post') ++ [l]).Nodup := by
                    have n0 := st.nd
                    rw [k2, List.append_nil] at n0
                    rw [List.append_nil]
                    refine (List.Perm.nodup_iff ?_).mp n0
                    rw [List.append_assoc]
                    exact (List.perm_middle (a := l) (l₁ := pre') (l₂ := post')).trans (List.perm_append_singleton l (pre' ++ post')).symm
                  have ce' : Ce K [l] F H [ds] := ⟨rfl, fun n a ds' c1 c2 => by
                    cases n with
                    | zero => cases c1; cases c2; exact ⟨m1, xs', m2, dd, hf⟩
                    | succ n => simp at c1⟩
                  refine ⟨[l], F, e.set i (some (.v (.cell 0))), _, [ds], ⟨st.same, sl', nd', ce'⟩, ?_⟩
                  have lw : l ∈ ws := by rw [k2]; simp
                  have sub : ∀ a, a ∈ pre' ++ [] ++ post' → a ∈ ws := fun a m => by
                    rw [k2]; simp only [List.mem_append] at m ⊢
                    rcases m with (m | m) | m
                    · exact .inl (.inl m)
                    · cases m
                    · exact .inr m
                  cases qr : f (e.set i (some (.v (.cell 0)))) [ds] with
                  | err y c' => rw [qr] at po; exact po.elim
                  | stuck => rw [qr] at po; exact po.elim
                  | ok fl c' =>
                    rw [qr] at po
                    cases fl with
                    | rt t =>
                      cases t with
                      | v d =>
                        unfold penEnd at po
                        simp only at po
                        by_cases hs : d.sc = true
                        · rw [if_pos hs] at po
                          intro F' H' v as nx sm ce ow nd
                          refine po F' H' v as ⟨nx.f, fun a z => ?_, fun a o z1 z2 z3 => nx.k a o (fun w => z2 (by rw [List.mem_singleton.mp w]; exact lw)) (fun w => z2 (sub a w)) z3, nx.th⟩ sm ⟨rfl, fun n a ds' c1 c2 => by simp at c1⟩ ?_ nd
                          · rcases nx.n a z with w | w | w
                            · exact .inl w
                            · exact .inr (.inl (sub a w))
                            · exact .inr (.inr w)
                          · cases ow with
                            | v od =>
                              refine .v ?_
                              cases d with
                              | non => cases od; exact .non
                              | bl _ => cases od; exact .bl _
                              | int _ => cases od; exact .int _
                              | str _ => cases od; exact .str _
                              | _ => cases hs
                        · rw [if_neg hs] at po; exact po.elim
                      | ol _ => exact po.elim
                      | ot _ => exact po.elim
                    | nx _ => exact po.elim
                    | bk _ => exact po.elim
                    | ct _ => exact po.elim
                    | er _ _ => exact po.elim
            · rw [if_neg hf] at po; exact po.elim
end
theorem dss_pen {X : Cx} {W : WX} {i : Nat} {f : MS} {rest : List Stmt} (h : PSs X rest (rdS X.K X.mg W f)) : PSs X rest (rdS X.K X.mg W (sPen i f)) := h.imp fun _ _ _ q => rd_sPen q
end Dg

set_option Elab.async false
set_option linter.all false
set_option maxRecDepth 100000
set_option maxHeartbeats 4000000
namespace Dg
open PySem PySem.Spec PyProof.Rows L2
/-! ### max, min of a list -/
def mxI : List Int → Option Int
  | [] => none
  | [x] => some x
  | x :: l => (mxI l).map fun m => if m < x then x else m
theorem mxI_spec : ∀ {l : List Int} {m : Int}, mxI l = some m → m ∈ l ∧ ∀ y ∈ l, y ≤ m
  | [], m, h => by cases h
  | [x], m, h => by cases h; exact ⟨List.mem_cons_self, fun y hy => by rw [List.mem_singleton.mp hy]; omega⟩
  | x :: z :: l, m, h => by
    simp only [mxI, Option.map_eq_some_iff] at h
    obtain ⟨k, h1, rfl⟩ := h
    obtain ⟨a, b⟩ := mxI_spec h1
    by_cases c : k < x
    · rw [if_pos c]
      refine ⟨List.mem_cons_self, fun y hy => ?_⟩
      rcases List.mem_cons.mp hy with rfl | hy
      · omega
      · have := b y hy; omega
    · rw [if_neg c]
      refine ⟨List.mem_cons_of_mem _ a, fun y hy => ?_⟩
      rcases List.mem_cons.mp hy with rfl | hy
      · omega
      · exact b y hy
theorem mxI_some : ∀ {l : List Int}, l ≠ [] → ∃ m, mxI l = some m
  | [], h => absurd rfl h
  | [x], _ => ⟨x, rfl⟩
  | x :: z :: l, _ => by
    obtain ⟨m, hm⟩ := mxI_some (l := z :: l) (by simp)
    exact ⟨if m < x then x else m, by simp only [mxI, hm, Option.map_some]⟩
theorem mxI_of {l : List Int} {m : Int} (h1 : m ∈ l) (h2 : ∀ y ∈ l, y ≤ m) : mxI l = some m := by
  obtain ⟨k, hk⟩ := mxI_some (l := l) (by rintro rfl; cases h1)
  obtain ⟨a, b⟩ := mxI_spec hk
  have := b m h1
  have := h2 k a
  rw [hk]; congr 1; omega
def maxD : Cs → List D → Option D := fun _ ds => match ds with
  | [x] => (liI x).bind fun ns => (mxI ns).map .int
  | _ => none
theorem sem_maxL {K : PySem.W.Frag} : SemA K (rMax K) maxD := by
  intro ca F H σ e ws c ds vs d Q st dx hd en
  match ds, dx, hd with
  | [x], dx, hd =>
    obtain ⟨v, rfl, dv⟩ := dx.one
    simp only [maxD, Option.bind_eq_some_iff, Option.map_eq_some_iff] at hd
    obtain ⟨ns, h1, m, h2, rfl⟩ := hd
    obtain ⟨a, rfl, s⟩ := dv.liI h1
    obtain ⟨m1, m2⟩ := mxI_spec h2
    refine ⟨a, ns, rfl, st.bsub.seq s, List.length_pos_of_mem m1, fun k k1 k2 => ?_⟩
    have e1 := m2 k k1
    have e2 := k2 m m1
    have e3 : k = m := by omega
    subst e3
    exact en.ret (fun l z => by cases z) _ (.int _)
end Dg

set_option Elab.async false
set_option linter.all false
set_option maxRecDepth 100000
set_option maxHeartbeats 4000000
namespace Dg
open PySem PySem.Spec PyProof.Rows L2
/-! ### x = y, an own list that is no longer read as y -/
@[simp] def sMov (i j : Nat) (e : En) (c : Cs) : R Fl := match e[j]? with
  | some (some t) => .ok (.nx ((e.set j none).set i (some t))) c
  | _ => .stuck
section
variable {K : PySem.W.Frag} {mg : Str → Option Value} {W : WX} {ca : List Addr} {F F' H H' : Hp} {σ : L2.St} {e : En} {ws : List Addr} {cs cs' : Cs}
theorem Sl.drop : ∀ {σ : L2.St} {e : En} {ws : List Addr}, Sl K ca F H σ e ws → ∀ (j : Nat) (t : T), e[j]? = some (some t) → ∃ x pre as post, σ[j]? = some (some x) ∧ ws = pre ++ as ++ post ∧ Own K ca F H x t as ∧ Sl K ca F H σ (e.set j none) (pre ++ post)
  | _, _, _, .nil => fun i t h => by simp at h
  | _, _, _, .no h => fun i t q => by
    cases i with
    | zero => simp at q
    | succ i =>
      obtain ⟨x, pre, as, post, h1, h2, h3, h4⟩ := Sl.drop h i t (by simpa using q)
      exact ⟨x, pre, as, post, by simpa using h1, h2, h3, .no h4⟩
  | _, _, _, .so (as := a0) (ws := w0) o h => fun i t q => by
    cases i with
    | zero =>
      simp at q
      subst q
      exact ⟨_, [], a0, w0, rfl, by simp, o, by simpa using Sl.no h⟩
    | succ i =>
      obtain ⟨x, pre, as, post, h1, h2, h3, h4⟩ := Sl.drop h i t (by simpa using q)
      exact ⟨x, a0 ++ pre, as, post, by simpa using h1, by rw [h2]; simp, h3, by rw [List.append_assoc]; exact .so o h4⟩
theorem rd_sMov {i j : Nat} {Dn : Ends} (h : rdS K mg W (sMov i j) Dn σ H) : tAsg (tVar j) (gName i) Dn σ H := by
  obtain ⟨ca, F, e, ws, cs, st, po⟩ := h
  unfold sMov at po
  cases q : e[j]? with
  | none => rw [q] at po; exact po.elim
  | some o =>
    cases o with
    | none => rw [q] at po; exact po.elim
    | some t =>
      rw [q] at po
      obtain ⟨x, pre, as, post, h1, h2, h3, h4⟩ := Sl.drop st.sl j t q
      have nd := st.nd
      rw [h2] at nd
      have sub : ((pre ++ post) ++ ca).Sublist ((pre ++ as ++ post) ++ ca) := by
        refine List.Sublist.append ?_ (List.Sublist.refl ca)
        rw [List.append_assoc]
        exact List.Sublist.append (List.Sublist.refl pre) (List.sublist_append_right as post)
      have st' : Stt K ca F H σ (e.set j none) (pre ++ post) cs := ⟨st.same, h4, nd.sublist sub, st.ce⟩
      simp only [List.nodup_append, List.mem_append] at nd
      obtain ⟨⟨⟨n1, n2, n3⟩, n4, n5⟩, n6, n7⟩ := nd
      have fr : Fresh ca (pre ++ post) as := ⟨fun a m z => by
        rcases List.mem_append.mp z with z | z
        · exact n3 a z a m rfl
        · exact n5 a (.inr m) a z rfl, fun a m z => n7 a (.inl (.inr m)) a z rfl⟩
      obtain ⟨vs, st2, hv⟩ := st'.put i h3 n2 fr
      refine ⟨x, h1, po F H _ vs ⟨Same.refl F, fun a h => ?_, fun a o _ _ q => q, fun a h => h⟩ st2⟩
      rcases h with h | h
      · exact .inl h
      · refine .inr (.inl ?_)
        rw [h2]
        rcases hv a h with z | z
        · simp only [List.mem_append] at z ⊢; rcases z with z | z <;> simp [z]
        · simp [z]
end
theorem ds_mov {X : Cx} {W : WX} {i j : Nat} {x : Str} {a : Expr} {pos pos' : Pos} (hN : X.N.Nodup) (hi : X.N[i]? = some x) (hx : Loc X.env.scope x) (he : PE X a (tVar j)) (hs : swapsWith a (some (.Name x pos')) pos.line X.env = pure false := by rfl)
    (hf : X.fn x = true ∨ X.env.scope.names.lookup x = some .local := by first | exact .inl rfl | exact .inr rfl | assumption) : PS X (.Assign [.Name x pos'] a pos) (rdS X.K X.mg W (sMov i j)) := (ps_set hN hi hx he hs hf).imp fun _ _ _ q => rd_sMov q
end Dg

set_option Elab.async false
set_option linter.all false
set_option maxHeartbeats 4000000
set_option maxRecDepth 100000
namespace Dg
open PySem L2
/-! ### a comprehension within a comprehension -/
theorem lookup_relabel {env : Env} {x : Str} {k : NameKind} : ∀ {names : List (Str × NameKind)}, names.lookup x = some k →
    (names.map fun (n, k) => if (k == NameKind.free && env.scope.kind == .function && env.kindOf n == some .cell) then (n, NameKind.cell) else (n, k)).lookup x = some k ∨ (k = .free ∧ (names.map fun (n, k) => if (k == NameKind.free && env.scope.kind == .function && env.kindOf n == some .cell) then (n, NameKind.cell) else (n, k)).lookup x = some .cell)
  | [], h => by simp at h
  | (n, k') :: r, h => by
    have ih := @lookup_relabel env x k r
    show List.lookup x ((if (k' == NameKind.free && env.scope.kind == .function && env.kindOf n == some .cell) = true then (n, NameKind.cell) else (n, k')) :: _) = _ ∨ _ ∧ List.lookup x ((if (k' == NameKind.free && env.scope.kind == .function && env.kindOf n == some .cell) = true then (n, NameKind.cell) else (n, k')) :: _) = _
    cases hx : x == n with
    | true =>
      simp only [List.lookup_cons, hx] at h
      cases h
      by_cases hc : (k == NameKind.free && env.scope.kind == .function && env.kindOf n == some .cell) = true
      · rw [if_pos hc]
        simp only [List.lookup_cons, hx]
        refine .inr ⟨?_, trivial⟩
        simp only [Bool.and_eq_true, beq_iff_eq] at hc
        exact hc.1.1
      · rw [if_neg hc]; simp only [List.lookup_cons, hx]; exact .inl trivial
    | false =>
      simp only [List.lookup_cons, hx] at h
      by_cases hc : (k' == NameKind.free && env.scope.kind == .function && env.kindOf n == some .cell) = true
      · rw [if_pos hc]; simp only [List.lookup_cons, hx]; exact ih h
      · rw [if_neg hc]; simp only [List.lookup_cons, hx]; exact ih h
theorem blkOk_nest {N : List Str} {sc scope : Scope} {own : List (Str × Nat)} {cl : List (Str × Addr)} {C : Addr} {env : Env} (h : blkC N sc scope own = true) : BlkOk N (compEnvC sc cl C env).scope scope own := by
  refine blkOk_by ?_
  unfold blkC at h ⊢
  rw [Bool.and_eq_true] at h ⊢
  refine ⟨h.1, ?_⟩
  have h2 := h.2
  rw [List.all_eq_true] at h2 ⊢
  intro y hy
  have q := h2 y hy
  revert q
  cases hk : y.2 with
  | free =>
    intro q
    simp only at q ⊢
    show (match ((relabel sc env).names.lookup y.1) with | some .cell => true | some .free => true | _ => false) = true
    cases hl : sc.names.lookup y.1 with
    | none => rw [hl] at q; cases q
    | some k =>
      rw [hl] at q
      rcases lookup_relabel (env := env) hl with e | ⟨_, e⟩
      · show (match (List.lookup y.1 (sc.names.map _)) with | some NameKind.cell => true | some NameKind.free => true | _ => false) = true
        rw [e]; exact q
      · show (match (List.lookup y.1 (sc.names.map _)) with | some NameKind.cell => true | some NameKind.free => true | _ => false) = true
        rw [e]
  | _ => exact id
end Dg
namespace Dg
open PySem PySem.Spec PyProof.Rows L2
section
variable {K : PySem.W.Frag} {mg : Str → Option Value} {W : WX} {ca : List Addr} {F F' H H' : Hp} {σ : L2.St} {e : En} {ws : List Addr} {cs cs' : Cs}
/-! ### a held item of a slot's own list -/
@[simp] def oItm (i : Nat) (g : ME) (e : En) (c : Cs) : R T := match e[i]? with
  | some (some (.ol ts)) => (g e c).bind fun k c => (match k with
    | .int k => (match ixN ts.length k with
      | some j => (match ts[j]? with
        | some (.v d) => .ok (.v d) c
        | _ => .stuck)
      | none => .stuck)
    | _ => .stuck)
  | _ => .stuck
theorem OwnA.item : ∀ {xs : List V} {ts : List T} {as : List Addr} (j : Nat) {d : D}, OwnA K ca F H xs ts as → ts[j]? = some (.v d) → ∃ v, xs[j]? = some v ∧ Dd K ca F v d
  | _, _, _, _, _, .nil, h => by simp at h
  | _, _, _, 0, _, .cons h1 _, h => by
    simp at h; subst h
    cases h1 with
    | v h1 => exact ⟨_, rfl, h1⟩
  | _, _, _, j + 1, _, .cons _ h2, h => by
    obtain ⟨v, q1, q2⟩ := OwnA.item j h2 (by simpa using h)
    exact ⟨v, by simpa using q1, q2⟩
theorem rd_oItm {i : Nat} {g : ME} {Q : VK} (h : rdO K mg W (oItm i g) σ H Q) : tOp (rIx K) (tVar i) (rdP K mg W g) σ H Q := by
  obtain ⟨ca, F, e, ws, cs, st, po⟩ := h
  unfold oItm at po
  cases q : e[i]? with
  | none => rw [q] at po; exact po.elim
  | some o =>
    cases o with
    | none => rw [q] at po; exact po.elim
    | some t =>
      cases t with
      | v _ => rw [q] at po; exact po.elim
      | ot _ => rw [q] at po; exact po.elim
      | ol ts =>
        rw [q] at po
        obtain ⟨x, as, h1, h2, h3⟩ := Sl.get st.sl q
        refine ⟨x, h1, rdP_bind kindO st po fun k c1 F1 H1 u _ nx st1 dk po1 => ?_⟩
        cases k with
        | int k =>
          cases dk
          simp only at po1
          cases qj : ixN ts.length k with
          | none => rw [qj] at po1; exact po1.elim
          | some j =>
            rw [qj] at po1
            simp only at po1
            cases qd : ts[j]? with
            | none => rw [qd] at po1; exact po1.elim
            | some t2 =>
              rw [qd] at po1
              cases t2 with
              | ol _ => exact po1.elim
              | ot _ => exact po1.elim
              | v d =>
                obtain ⟨x2, as2, g1, g2, g3⟩ := Sl.get st1.sl q
                rw [h1] at g1; cases g1
                cases g2 with
                | l k1 k2 k3 =>
                  obtain ⟨v, k4, k5⟩ := OwnA.item j k3 qd
                  refine .inl ⟨_, _, k, v, rfl, rfl, SqL.of k2, ?_, po1 F1 H1 v [] (Nxt.refl st1.same) st1.ce (.v k5) List.nodup_nil fun a m => by cases m⟩
                  unfold atI
                  rw [OwnA.length k3, qj]
                  exact k4
        | _ => exact po1.elim
theorem do_itm {X : Cx} {W : WX} {g : ME} {a b : Expr} {pos : Pos} (i : Nat) (ha : PE X a (tVar i)) (hb : PE X b (rdP X.K X.mg W g)) (hp : PlainIx b) : PE X (.Subscript a b pos) (rdO X.K X.mg W (oItm i g)) := (pe_ix ix_seq ha hb hp).imp fun _ _ _ q => rd_oItm q
end
end Dg

set_option Elab.async false
set_option linter.all false
set_option maxHeartbeats 4000000
set_option maxRecDepth 100000
namespace Dg
open PySem PySem.Spec PyProof.Rows L2
section
variable {K : PySem.W.Frag} {mg : Str → Option Value} {W : WX} {ca : List Addr} {F F' H H' : Hp} {σ : L2.St} {e : En} {ws : List Addr} {cs cs' : Cs}
/-! ### own lists read for a while as if they were held -/
@[simp] def frE : En → En
  | [] => []
  | some t :: e => some (.v t.d) :: frE e
  | none :: e => none :: frE e
theorem Sl.frz : ∀ {σ : L2.St} {e : En} {ws : List Addr} (bs : List Addr), (∀ a ∈ bs, F a = none) → (∀ a ∈ ws, a ∈ bs) → Sl K ca F H σ e ws → Sl K ca (Bh F H bs) H σ (frE e) []
  | _, _, _, _, _, _, .nil => .nil
  | _, _, _, bs, hb, hw, .no h => .no (Sl.frz bs hb hw h)
  | _, _, _, bs, hb, hw, .so h1 h2 => by
    have := Sl.frz bs hb (fun a m => hw a (List.mem_append_right _ m)) h2
    exact .so (as := []) (.v (Own.dd hb _ _ _ (fun a m => hw a (List.mem_append_left _ m)) h1)) this
@[simp] def pBor (f : ME) (e : En) (c : Cs) : R D := f (frE e) c
theorem rd_pBor {f : ME} {Q : VK} (h : rdP K mg W (pBor f) σ H Q) : rdP K mg W f σ H Q := by
  obtain ⟨ca, F, e, ws, cs, st, po⟩ := h
  have hF : ∀ a ∈ ws, F a = none := fun a m => (Sl.ok st.sl a m).1
  have nca : ∀ a ∈ ws, a ∉ ca := fun a m z => (List.nodup_append.mp st.nd).2.2 a m a z rfl
  refine ⟨ca, Bh F H ws, frE e, [], cs, ⟨st.bsub, Sl.frz ws hF (fun _ m => m) st.sl, (List.nodup_append.mp st.nd).2.1, st.ce.hold hF nca⟩, ?_⟩
  unfold pBor at po
  cases q : f (frE e) cs with
  | stuck => rw [q] at po; exact po.elim
  | err x c2 =>
    rw [q] at po
    intro F2 H2 nx2 ce2
    obtain ⟨a1, a2, _, _⟩ := call_back st nx2 ce2
    exact po _ H2 a1 a2
  | ok d c2 =>
    rw [q] at po
    intro F2 H2 v nx2 ce2 dd
    obtain ⟨a1, a2, a3, a4⟩ := call_back st nx2 ce2
    refine po (cutF F2 ws) H2 v a1 a2 (Dd.mono (fun a o z => ?_) _ _ dd)
    rw [Bh_nil] at z
    by_cases mw : a ∈ ws
    · rw [Bh_in mw, ← a3 a mw]; exact z
    · rw [Bh_out mw, cutF_out mw]; exact z
theorem dp_bor {X : Cx} {W : WX} {f : ME} {a : Expr} (h : PE X a (rdP X.K X.mg W f)) : PE X a (rdP X.K X.mg W (pBor f)) := h.imp fun _ _ _ q => rd_pBor q
/-! ### a tuple of own lists -/
@[simp] def oTpl (f : MO) (e : En) (c : Cs) : R T := (f e c).bind fun t c => (match t with
  | .ol ts => .ok (.ot ts) c
  | _ => .stuck)
theorem rd_oTpl {f : MO} {Q : VK} (h : rdO K mg W (oTpl f) σ H Q) : rdO K mg W f σ H (fun v H1 => ∃ p ys, [v] = [V.ref p] ∧ ((SqL K H1 p ys ∧ ∀ l, H1 l = none → Q (.ref l) (upd H1 l (.tup ys))) ∨ (SqT K H1 p ys ∧ Q (.ref p) H1))) := by
  obtain ⟨ca, F, e, ws, cs, st, po⟩ := h
  refine rdO_from (ws := ws) kindO (Nxt.refl st.same) st po fun t c1 F1 H1 v as _ nx b1 st1 dx n1 f1 po1 => ?_
  cases t with
  | v _ => exact po1.elim
  | ot _ => exact po1.elim
  | ol ts =>
    cases dx with
    | l g1 g2 g3 =>
      rename_i a xs as2
      refine ⟨a, xs, rfl, .inl ⟨SqL.of g2, fun l hl => ?_⟩⟩
      have hn : ∀ b ∈ as2, b ≠ l := fun b m z => by
        obtain ⟨_, zs, hz⟩ := OwnA.ok _ _ _ g3 b m
        rw [z, hl] at hz; cases hz
      refine po1 (upd F1 l (.tup xs)) (upd H1 l (.tup xs)) (.ref l) as2 (b1.trans (Nxt.new st1.same hl)) (st1.ce.new st1.same hl) (.t upd_same (OwnA.fr (Nxt.new (ca := ca) st1.same hl).f _ _ _ (fun b m => ⟨upd_ne (hn b m), ?_⟩) g3)) (List.nodup_cons.mp n1).2 fun b m => f1 b (List.mem_cons_of_mem _ m)
      rw [upd_ne (hn b m)]
      exact (OwnA.ok _ _ _ g3 b m).1
theorem do_tpl {X : Cx} {W : WX} {f : MO} {x : Str} {a : Expr} {p pos : Pos} (hg : Gl X x) (hm : X.mg x = none) (hv : bootBuiltins x = some (.type "tuple"))
    (ha : PE X a (rdO X.K X.mg W f)) (hn : x ≠ "__name__" := by decide) (hdb : (x == ("__debug__" : Str)) = false := by decide)
    (he : starEach [a] X.env = (false, eval a X.env) :: starEach [] X.env := by rfl) (hpl : (backTo pos (starEach [] X.env)).any (·.1) = false := by rfl) : PE X (.Call (.Name x p) [a] [] pos) (rdO X.K X.mg W (oTpl f)) :=
  (pe_callTy call_tuple_of hg hm hv (pa_cons ha pa_nil (hs := he)) hn hdb he hpl).imp fun _ _ _ q => rd_oTpl q
/-! ### a thing of an own list within an own list is set -/
def T.isV : T → Bool
  | .v _ => true
  | _ => false
theorem OwnA.allv : ∀ {ys : List V} {us : List T} {as : List Addr}, us.all T.isV = true → OwnA K ca F H ys us as → as = [] ∧ ∀ H', OwnA K ca F H' ys us []
  | _, _, _, _, .nil => ⟨rfl, fun _ => .nil⟩
  | _, _, _, h, .cons h1 h2 => by
    rw [List.all_cons, Bool.and_eq_true] at h
    cases h1 with
    | v h1 =>
      obtain ⟨q1, q2⟩ := OwnA.allv h.2 h2
      exact ⟨q1, fun H' => .cons (as := []) (.v h1) (q2 H')⟩
    | l _ _ _ => cases h.1
    | t _ _ => cases h.1
theorem OwnA.setv {v : V} {d : D} (hd : Dd K ca F v d) : ∀ {ys : List V} {us : List T} {as : List Addr} (j : Nat), us.all T.isV = true → OwnA K ca F H ys us as → OwnA K ca F H (ys.set j v) (us.set j (.v d)) []
  | _, _, _, _, _, .nil => .nil
  | _, _, _, 0, h, .cons h1 h2 => by
    rw [List.all_cons, Bool.and_eq_true] at h
    obtain ⟨q1, q2⟩ := OwnA.allv h.2 h2
    exact .cons (as := []) (.v hd) (q2 H)
  | _, _, _, j + 1, h, .cons h1 h2 => by
    rw [List.all_cons, Bool.and_eq_true] at h
    have r := OwnA.setv hd j h.2 h2
    cases h1 with
    | v h1 => exact .cons (as := []) (.v h1) r
    | l _ _ _ => cases h.1
    | t _ _ => cases h.1
theorem OwnA.put {v : V} {d : D} {us : List T} (hd : Dd K ca F v d) (hu : us.all T.isV = true) : ∀ {xs : List V} {ts : List T} {as : List Addr} (j : Nat), OwnA K ca F H xs ts as → as.Nodup → ts[j]? = some (.ol us) →
    ∃ b ys, xs[j]? = some (.ref b) ∧ H b = some (.lst ys) ∧ F b = none ∧ ys.length = us.length ∧ b ∈ as ∧ ∀ j2, OwnA K ca F (upd H b (.lst (ys.set j2 v))) xs (ts.set j (.ol (us.set j2 (.v d)))) as
  | _, _, _, _, .nil, _, h => by simp at h
  | _, _, _, 0, .cons (as := as0) (bs := bs) h1 h2, nd, h => by
    simp at h; subst h
    cases h1 with
    | l g1 g2 g3 =>
      rename_i a xs' as1
      obtain ⟨q1, q2⟩ := OwnA.allv hu g3
      subst q1
      have na : a ∉ bs := fun z => (List.nodup_append.mp nd).2.2 a (by simp) a z rfl
      refine ⟨a, xs', rfl, g2, g1, OwnA.length g3, by simp, fun j2 => ?_⟩
      exact .cons (as := [a]) (.l g1 upd_same (OwnA.setv hd j2 hu (q2 _))) (OwnA.fr (Same.refl F) _ _ _ (fun c m => ⟨upd_ne fun z => na (by rw [← z]; exact m), (OwnA.ok _ _ _ h2 c m).1⟩) h2)
  | _, _, _, j + 1, .cons (as := as0) (bs := bs) h1 h2, nd, h => by
    obtain ⟨b, ys, q1, q2, q3, q4, q5, q6⟩ := OwnA.put hd hu j h2 (List.nodup_append.mp nd).2.1 (by simpa using h)
    have nb : b ∉ as0 := fun z => (List.nodup_append.mp nd).2.2 b z b q5 rfl
    exact ⟨b, ys, by simpa using q1, q2, q3, q4, List.mem_append_right _ q5, fun j2 => .cons (Own.fr (Same.refl F) _ _ _ (fun c m => ⟨upd_ne fun z => nb (by rw [← z]; exact m), (Own.ok _ _ _ h1 c m).1⟩) h1) (q6 j2)⟩
theorem OwnA.putx {us : List T} (hu : us.all T.isV = true) : ∀ {xs : List V} {ts : List T} {as : List Addr} (j : Nat), OwnA K ca F H xs ts as → ts[j]? = some (.ol us) → ∃ b, xs[j]? = some (.ref b)
  | _, _, _, _, .nil, h => by simp at h
  | _, _, _, 0, .cons h1 h2, h => by
    simp at h; subst h
    cases h1 with
    | l g1 g2 g3 => exact ⟨_, rfl⟩
  | _, _, _, j + 1, .cons h1 h2, h => by
    obtain ⟨b, q⟩ := OwnA.putx hu j h2 (by simpa using h)
    exact ⟨b, by simpa using q⟩
def T.parts2 : T → Option (List T)
  | .ol ts => some ts
  | .ot ts => some ts
  | .v _ => none
def T.with2 : T → List T → T
  | .ot _, ts => .ot ts
  | _, ts => .ol ts
@[simp] def sSt2 (i : Nat) (a b : Int) (e : En) (c : Cs) : R Fl := match e[i]? with
  | some (some t) => (match t.parts2 with
    | some ts => (match ixN ts.length a with
      | some j1 => (match ts[j1]? with
        | some (.ol us) => (match ixN us.length b with
          | some j2 => if us.all T.isV = true then .ok (.nx (e.set i (some (t.with2 (ts.set j1 (.ol (us.set j2 (.v .non)))))))) c else .stuck
          | none => .stuck)
        | _ => .stuck)
      | none => .stuck)
    | none => .stuck)
  | _ => .stuck
theorem Stt.putn (st : Stt K ca F H σ e ws cs) {i : Nat} {t : T} {ts us : List T} {j1 : Nat} {x : V} {d : D} (q : e[i]? = some (some t)) (hp : t.parts2 = some ts) (hu : us.all T.isV = true) (hj : ts[j1]? = some (.ol us)) (hd : Dd K ca F x d) :
    ∃ y p xs b ys, σ[i]? = some (some y) ∧ y = .ref p ∧ p ∉ ca ∧ (H p = some (.lst xs) ∨ H p = some (.tup xs)) ∧ xs.length = ts.length ∧ xs[j1]? = some (.ref b) ∧ H b = some (.lst ys) ∧ ys.length = us.length ∧ b ∈ ws ∧
      ∀ j2, Stt K ca F (upd H b (.lst (ys.set j2 x))) σ (e.set i (some (t.with2 (ts.set j1 (.ol (us.set j2 (.v d))))))) ws cs := by
  obtain ⟨y, pre, as, post, h1, h2, h3, f4⟩ := Sl.rep st.sl i t q
  have nd := st.nd
  rw [h2] at nd
  have nd2 := nd
  simp only [List.nodup_append, List.mem_append] at nd2
  obtain ⟨⟨⟨n1, n2, n3⟩, n4, n5⟩, n6, n7⟩ := nd2
  have fin : ∀ (b : Addr) (zs : List V) (t' : T), b ∈ as → F b = none → Own K ca F (upd H b (.lst zs)) y t' as → Stt K ca F (upd H b (.lst zs)) σ (e.set i (some t')) ws cs := by
    intro b zs t' hb hF ho
    have bca : b ∉ ca := fun z => n7 b (.inl (.inr hb)) b z rfl
    have bpp : b ∉ pre ++ post := fun z => by
      rcases List.mem_append.mp z with z | z
      · exact n3 b z b hb rfl
      · exact n5 b (.inr hb) b z rfl
    have sl := f4 F (upd H b (.lst zs)) t' as (Same.refl F) (fun a m => ⟨upd_ne fun z => bpp (by rw [← z]; exact m), st.dis a (by rw [h2]; simp only [List.mem_append] at m ⊢; rcases m with m | m <;> simp [m])⟩) ho
    rw [← h2] at sl
    refine ⟨fun a u z => ?_, sl, st.nd, ⟨st.ce.1, fun n a ds c1 c2 => ?_⟩⟩
    · have w := st.same a u z
      by_cases al : a = b
      · subst al; rw [hF] at z; cases z
      · rw [upd_ne al]; exact w
    · obtain ⟨k1, zs, k2, k3, k4⟩ := st.ce.2 n a ds c1 c2
      have al : a ≠ b := fun z => bca (by rw [← z]; exact List.mem_of_getElem? c1)
      exact ⟨k1, zs, by rw [upd_ne al]; exact k2, k3, k4⟩
  cases h3 with
  | v _ => cases hp
  | l g1 g2 g3 =>
    cases hp
    rename_i p xs as2
    obtain ⟨b, ys, k1, k2, k3, k4, k5, k6⟩ := OwnA.put hd hu j1 g3 (List.nodup_cons.mp n2).2 hj
    have pb : p ≠ b := fun z => (List.nodup_cons.mp n2).1 (by rw [z]; exact k5)
    refine ⟨_, p, xs, b, ys, h1, rfl, fun z => n7 p (.inl (.inr (by simp))) p z rfl, .inl g2, OwnA.length g3, k1, k2, k4, by rw [h2]; simp [k5], fun j2 => fin b _ _ (List.mem_cons_of_mem _ k5) k3 ?_⟩
    exact .l g1 (by rw [upd_ne pb]; exact g2) (k6 j2)
  | t g1 g3 =>
    cases hp
    rename_i p xs
    obtain ⟨b, ys, k1, k2, k3, k4, k5, k6⟩ := OwnA.put hd hu j1 g3 n2 hj
    have pca : p ∉ ca := fun z => by
      obtain ⟨w, _⟩ := st.ce.there z
      rw [w] at g1; cases g1
    refine ⟨_, p, xs, b, ys, h1, rfl, pca, .inr (st.same _ _ g1), OwnA.length g3, k1, k2, k4, by rw [h2]; simp [k5], fun j2 => fin b _ _ k5 k3 ?_⟩
    exact .t g1 (k6 j2)
theorem rd_sSt2 {i : Nat} {a b : Int} {Dn : Ends} (h : rdS K mg W (sSt2 i a b) Dn σ H) : tAsg (rdP K mg W (mC .non)) (gSub (tOp (rIx K) (tVar i) (rdP K mg W (mC (.int a)))) (rdP K mg W (mC (.int b))) rSetL) Dn σ H := by
  obtain ⟨ca, F, e, ws, cs, st, po⟩ := h
  unfold sSt2 at po
  cases q : e[i]? with
  | none => rw [q] at po; exact po.elim
  | some o =>
  cases o with
  | none => rw [q] at po; exact po.elim
  | some t =>
  rw [q] at po
  simp only at po
  cases q2 : t.parts2 with
  | none => rw [q2] at po; exact po.elim
  | some ts =>
  rw [q2] at po
  simp only at po
  cases q3 : ixN ts.length a with
  | none => rw [q3] at po; exact po.elim
  | some j1 =>
  rw [q3] at po
  simp only at po
  cases q4 : ts[j1]? with
  | none => rw [q4] at po; exact po.elim
  | some t2 =>
  rw [q4] at po
  cases t2 with
  | v _ => exact po.elim
  | ot _ => exact po.elim
  | ol us =>
  simp only at po
  cases q5 : ixN us.length b with
  | none => rw [q5] at po; exact po.elim
  | some j2 =>
  rw [q5] at po
  simp only at po
  by_cases hu : us.all T.isV = true
  · rw [if_pos hu] at po
    refine ⟨ca, F, e, ws, cs, st, fun F1 H1 v nx ce dd => ?_⟩
    cases dd
    have st1 := st.nxt nx ce
    obtain ⟨y, _, _, _, _, h1, _, _, _, _, _, _, _, _, _⟩ := Stt.putn st1 q q2 hu q4 (.non (K := K) (ca := ca) (F := F1))
    refine ⟨y, h1, ca, F1, e, ws, cs, st1, fun F2 H2 u nx2 ce2 du => ?_⟩
    cases du
    have st2 := st1.nxt nx2 ce2
    obtain ⟨y2, p, xs, b2, ys, k1, k2, pca, k3, k4, k5, _, _, _, _⟩ := Stt.putn st2 q q2 hu q4 (.non (K := K) (ca := ca) (F := F2))
    rw [h1] at k1; cases k1
    subst k2
    have hat : atI xs a = some (.ref b2) := by
      unfold atI
      rw [k4, q3]
      exact k5
    have rest : rdP K mg W (mC (.int b)) σ H2 (fun u H3 => rSetL (.ref b2) u V.non H3 fun H4 => Dn.nx σ H4) := by
      refine ⟨ca, F2, e, ws, cs, st2, fun F3 H3 u3 nx3 ce3 du3 => ?_⟩
      cases du3
      have st3 := st2.nxt nx3 ce3
      obtain ⟨y3, p3, xs3, b3, ys3, l1, l2, _, l3, l4, l5, l6, l7, l8, l9⟩ := Stt.putn st3 q q2 hu q4 (.non (K := K) (ca := ca) (F := F3))
      rw [h1] at l1; cases l1
      cases l2
      have hx : xs3 = xs := by
        rcases k3 with k3 | k3 <;> rcases l3 with l3 | l3 <;> (have z := nx3.k _ _ pca k3; rw [l3] at z; cases z) <;> rfl
      subst hx
      rw [k5] at l5; cases l5
      refine ⟨b2, ys3, b, j2, rfl, rfl, l6, by rw [l7]; exact q5, ?_⟩
      exact po F3 _ σ ws (NxS.change (bw := []) l8 (fun a m => .inl m) (fun a m => by cases m) (nx.trans (nx2.trans nx3))) (l9 j2)
    rcases k3 with k3 | k3
    · exact .inl ⟨p, xs, a, .ref b2, rfl, rfl, SqL.of k3, hat, rest⟩
    · exact .inr (.inl ⟨p, xs, a, .ref b2, rfl, rfl, SqT.of k3, hat, rest⟩)
  · rw [if_neg hu] at po; exact po.elim
end
end Dg
namespace Dg
open PySem PySem.Spec PyProof.Rows L2
theorem ds_st2 {X : Cx} {W : WX} {u : Expr} {p1 p2 p3 pos : Pos} {x : Str} {k1 k2 : Expr} {a b : Int} (i : Nat) (hv : PE X (.Name x p1) (tVar i)) (h1 : PE X k1 (rdP X.K X.mg W (mC (.int a)))) (h2 : PE X k2 (rdP X.K X.mg W (mC (.int b)))) (hp : PlainIx k1) (ha : PE X u (rdP X.K X.mg W (mC .non)))
    (hg : PG X (.Subscript (.Subscript (.Name x p1) k1 p2) k2 p3) (gSub (tOp (rIx X.K) (tVar i) (rdP X.K X.mg W (mC (.int a)))) (rdP X.K X.mg W (mC (.int b))) rSetL))
    (hs : swapsWithSole [.Subscript (.Subscript (.Name x p1) k1 p2) k2 p3] u pos.line X.env = pure false := by rfl) (hw : swappedStores [.Subscript (.Subscript (.Name x p1) k1 p2) k2 p3] u X.env = pure none := by rfl)
    (hh : (assignEach [.Subscript (.Subscript (.Name x p1) k1 p2) k2 p3] X.env).map (·.2) = [assign (.Subscript (.Subscript (.Name x p1) k1 p2) k2 p3) X.env] := by rfl) :
    PS X (.Assign [.Subscript (.Subscript (.Name x p1) k1 p2) k2 p3] u pos) (rdS X.K X.mg W (sSt2 i a b)) := (ps_asg ha hg hs hw hh).imp fun _ _ _ q => rd_sSt2 q
end Dg
namespace Dg
open PySem PySem.Spec PyProof.Rows L2
section
variable {K : PySem.W.Frag} {mg : Str → Option Value} {W : WX} {ca : List Addr} {F F' H H' : Hp} {σ : L2.St} {e : En} {ws : List Addr} {cs cs' : Cs}
/-! ### an int, a text in a tuple, a list -/
def strsD : List D → Option (List Str)
  | [] => some []
  | .str x :: ds => (strsD ds).map (x :: ·)
  | _ :: _ => none
def inB : D → D → Option Bool
  | .int i, .tup l => (intsD l).map fun ns => ns.any fun n => n == i
  | .int i, .lst l => (intsD l).map fun ns => ns.any fun n => n == i
  | .str x, .tup l => (strsD l).map fun ns => ns.any fun n => n == x
  | _, _ => none
def inD : Cs → D → D → Option D := fun _ x y => (inB x y).map .bl
def notinD : Cs → D → D → Option D := fun _ x y => (inB x y).map fun b => .bl (!b)
theorem inV_int (i : Int) : ∀ ns : List Int, inV (.int i) (ns.map V.int) = ns.any fun n => n == i
  | [] => rfl
  | n :: ns => by
    have := inV_int i ns
    unfold inV at this ⊢
    rw [List.map_cons, List.any_cons, List.any_cons, this]
    rfl
theorem inV_str (i : Str) : ∀ ns : List Str, inV (.str i) (ns.map V.str) = ns.any fun n => n == i
  | [] => rfl
  | n :: ns => by
    have := inV_str i ns
    unfold inV at this ⊢
    rw [List.map_cons, List.any_cons, List.any_cons, this]
    rfl
theorem flat_int : ∀ ns : List Int, (ns.map V.int).all flatV = true
  | [] => rfl
  | n :: ns => by rw [List.map_cons, List.all_cons, flat_int ns]; rfl
theorem flat_strs : ∀ ns : List Str, (ns.map V.str).all flatV = true
  | [] => rfl
  | n :: ns => by rw [List.map_cons, List.all_cons, flat_strs ns]; rfl
theorem dda_int : ∀ {ns : List Int} {xs : List V}, DdA K ca F xs (ns.map D.int) → xs = ns.map V.int
  | [], _, .nil => rfl
  | n :: ns, _, .cons h1 h2 => by
    cases h1
    rw [dda_int h2]; rfl
theorem strsD_eq : ∀ {ds : List D} {ns : List Str}, strsD ds = some ns → ds = ns.map D.str
  | [], ns, h => by cases h; rfl
  | d :: ds, ns, h => by
    cases d with
    | str x =>
      simp only [strsD, Option.map_eq_some_iff] at h
      obtain ⟨m, h1, rfl⟩ := h
      rw [strsD_eq h1]; rfl
    | _ => simp [strsD] at h
theorem dda_str : ∀ {ns : List Str} {xs : List V}, DdA K ca F xs (ns.map D.str) → xs = ns.map V.str
  | [], _, .nil => rfl
  | n :: ns, _, .cons h1 h2 => by
    cases h1
    rw [dda_str h2]; rfl
theorem in_both {x y : D} {b : Bool} {v u : V} (h : inB x y = some b) (dx : Dd K ca F v x) (dy : Dd K ca F u y) : ∃ p xs, u = .ref p ∧ (SqL K F p xs ∨ SqT K F p xs) ∧ flatV v = true ∧ xs.all flatV = true ∧ inV v xs = b := by
  cases x with
  | int i =>
    cases dx
    cases y with
    | tup l =>
      simp only [inB, Option.map_eq_some_iff] at h
      obtain ⟨ns, h1, rfl⟩ := h
      have h2 := intsD_eq h1
      subst h2
      cases dy with
      | tup h3 h4 =>
        have h5 := dda_int h4
        subst h5
        exact ⟨_, _, rfl, .inr h3, rfl, flat_int ns, inV_int i ns⟩
    | lst l =>
      simp only [inB, Option.map_eq_some_iff] at h
      obtain ⟨ns, h1, rfl⟩ := h
      have h2 := intsD_eq h1
      subst h2
      cases dy with
      | lst h3 h4 =>
        have h5 := dda_int h4
        subst h5
        exact ⟨_, _, rfl, .inl (SqL.of h3), rfl, flat_int ns, inV_int i ns⟩
    | _ => cases h
  | str i =>
    cases dx
    cases y with
    | tup l =>
      simp only [inB, Option.map_eq_some_iff] at h
      obtain ⟨ns, h1, rfl⟩ := h
      have h2 := strsD_eq h1
      subst h2
      cases dy with
      | tup h3 h4 =>
        have h5 := dda_str h4
        subst h5
        exact ⟨_, _, rfl, .inr h3, rfl, flat_strs ns, inV_str i ns⟩
    | _ => cases h
  | _ => cases y <;> cases h
theorem sem_in : Sem2 K (rIn K false) inD := by
  intro mg W ca F H σ e ws c x y v u d Q st dx dy hd po
  unfold inD at hd
  cases h : inB x y with
  | none => rw [h] at hd; cases hd
  | some b =>
    rw [h] at hd; cases hd
    obtain ⟨p, xs, rfl, h1, h2, h3, h4⟩ := in_both h dx dy
    refine ⟨p, xs, rfl, h1.imp (fun z => st.bsub.seq z) (Same.tup st.bsub), h2, h3, ?_⟩
    rw [h4]
    exact PoP.ret st po (.bl _)
theorem sem_notin : Sem2 K (rIn K true) notinD := by
  intro mg W ca F H σ e ws c x y v u d Q st dx dy hd po
  unfold notinD at hd
  cases h : inB x y with
  | none => rw [h] at hd; cases hd
  | some b =>
    rw [h] at hd; cases hd
    obtain ⟨p, xs, rfl, h1, h2, h3, h4⟩ := in_both h dx dy
    refine ⟨p, xs, rfl, h1.imp (fun z => st.bsub.seq z) (Same.tup st.bsub), h2, h3, ?_⟩
    rw [h4]
    exact PoP.ret st po (.bl _)
theorem op_inAll {X : Cx} : OpR X (compareOp .In) (rIn X.K false) := op_in_seq
theorem op_notinAll {X : Cx} : OpR X (compareOp .NotIn) (rIn X.K true) := op_notIn_seq
end
end Dg

set_option Elab.async false
set_option linter.all false
set_option maxHeartbeats 4000000
set_option maxRecDepth 100000
namespace Dg
open PySem PySem.Spec PyProof.Rows L2
section
variable {K : PySem.W.Frag} {mg : Str → Option Value} {W : WX} {ca : List Addr} {F F' H H' : Hp} {σ : L2.St} {e : En} {ws : List Addr} {cs cs' : Cs}
/-! ### objects that are read: their attributes, their methods -/
def fldL (f : Str) : List Str → List D → Option D
  | n :: ns, d :: ds => if (f == n) = true then some d else fldL f ns ds
  | _, _ => none
theorem fldL_dd (f : Str) : ∀ {fs : List (Str × V)} {ds : List D} {d : D}, DdA K ca F (fs.map (·.2)) ds → fldL f (fs.map (·.1)) ds = some d → ∃ v, fs.lookup f = some v ∧ Dd K ca F v d
  | [], _, _, _, h => by simp [fldL] at h
  | (n, v) :: fs, [], _, q, _ => by cases q
  | (n, v) :: fs, d0 :: ds, d, q, h => by
    cases q with
    | cons q1 q2 =>
      simp only [List.map_cons, fldL] at h
      rw [List.lookup_cons]
      cases hf : f == n with
      | true =>
        rw [hf] at h
        simp only [if_true] at h
        cases h
        exact ⟨v, rfl, q1⟩
      | false =>
        rw [hf] at h
        simp only [Bool.false_eq_true, if_false] at h
        exact fldL_dd f q2 h
def fldD (x f : Str) : D → Option D
  | .ob y ns l => if (y == x) = true then fldL f ns l else none
  | _ => none
@[simp] def mFld (x f : Str) (g : ME) (e : En) (c : Cs) : R D := (g e c).bind fun d c => R.of (fldD x f d) c
theorem rd_fld {x f : Str} {g : ME} {C : Addr} {Q : VK} (hC : PySem.W.nsIn K mainGlobals x = some (some (.ref C))) (hc : Cls K C) (hn : NoAttr K C f) (h : rdP K mg W (mFld x f g) σ H Q) : tFld K (rdP K mg W g) f σ H Q := by
  obtain ⟨ca, F, e, ws, cs, st, po⟩ := h
  refine rdP_bind kindP st po fun d c1 F1 H1 v _ nx st1 dx po1 => ?_
  obtain ⟨r, hr, po2⟩ := po1.of
  cases d with
  | ob y ns l =>
    simp only [fldD] at hr
    split at hr
    · rename_i hy
      have hy := beq_iff_eq.mp hy
      subst hy
      cases dx with
      | @ob a C' dx' _ fs _ _ h1 h2 h3 h4 =>
        subst h3
        rw [hC] at h2
        cases h2
        obtain ⟨v, k1, k2⟩ := fldL_dd f h4 hr
        exact ⟨a, C, dx', fs, v, rfl, st1.bsub _ _ h1, hc, hn, k1, PoP.ret st1 po2 k2⟩
    · cases hr
  | _ => cases hr
theorem dp_fld {X : Cx} {W : WX} {x f : Str} {g : ME} {C : Addr} {e : Expr} {pos : Pos} (hC : PySem.W.nsIn X.K mainGlobals x = some (some (.ref C))) (hc : Cls X.K C) (hn : NoAttr X.K C f) (he : PE X e (rdP X.K X.mg W g)) (hb : attributeBase e f X.env (eval e X.env) = eval e X.env := by rfl) :
    PE X (.Attribute e f pos) (rdP X.K X.mg W (mFld x f g)) := (pe_fld he hb).imp fun _ _ _ q => rd_fld hC hc hn q
/-- o.m(e, ..), raised things told by the slots -/
def tMethS (C : Addr) (m : Str) (sp : Sp) (E : L2.St → XK) (ta : TE) (t : TA) : TE := fun σ H Q => ta σ H fun x H1 => ∃ a dx fs, x = .ref a ∧ H1 a = some (.ins C dx fs) ∧ fs.lookup m = none ∧ t σ H1 fun vs H2 => sp (x :: vs) H2 Q (E σ)
theorem pe_methSl {X : Cx} {CX : CXT} {k : Nat} {C f : Addr} {fd : FuncData} {ps : List Str} {m : Str} {sp : Sp} {E : L2.St → XK} {o e : Expr} {es : List Expr} {ta : TE} {t : TA} {apos pos : Pos} {pl : Sem Bool} (he : PE X o ta) (c : Cls X.K C) (hm : Meth X.K C m f) (F : FnOk X.prog X.w X.K X.mg X.base CX k f fd ps sp) (hr : Room k X.A) (hb : Binds X.K fd ps []) (hx : ∀ σ, PassesAt CX X σ (E σ)) (ha : PA X (e :: es) t)
    (hst : starEach (e :: es) X.env = (false, eval e X.env) :: starEach es X.env := by rfl) (hpl : (backTo pos (starEach es X.env)).any (·.1) = false := by rfl)
    (ht : eval (.Call (.Attribute o m apos) (e :: es) [] pos) X.env = (do
      let ov ← eval o X.env
      standAt apos.atName
      let (f, first) ← holding [ov] (getMethod ov m pl)
      callWith pos f first (backTo pos (starEach (e :: es) X.env)) (backToKw pos (keywordEach [] X.env))) := by rfl) :
    PE X (.Call (.Attribute o m apos) (e :: es) [] pos) (tMethS C m sp E ta t) := by
  refine ⟨fun pins s σ H Q I h => ?_⟩
  refine PySem.W.methodCall_KW (pl := pl) (thn (he.run pins s σ H _ I h) fun u s1 ⟨x, H1, I1, rx, a, dx, fs, ex, ea, l, q⟩ => ?_) ht
  subst ex
  obtain rfl : u = Value.ref a := rx
  refine getmeth_ok I1 ea c hm l ?_
  refine PySem.W.callWith_K (first := [.ref a]) (h₀ := X.base) I.ok.mod.kin hm.kp (thn (ha.run pos pins s1 σ H1 _ I1 q) fun us s2 ⟨vs, H2, I2, r, q2⟩ => ⟨I2.kIn, ?_⟩) hst hpl
  exact run_fnS (us := .ref a :: us) (vs := .ref a :: vs) F hr hb (hx σ) I2 (.cons rfl r) q2
theorem pe_methSl0 {X : Cx} {CX : CXT} {k : Nat} {C f : Addr} {fd : FuncData} {ps : List Str} {m : Str} {sp : Sp} {E : L2.St → XK} {o : Expr} {ta : TE} {apos pos : Pos} {pl : Sem Bool} (he : PE X o ta) (c : Cls X.K C) (hm : Meth X.K C m f) (F : FnOk X.prog X.w X.K X.mg X.base CX k f fd ps sp) (hr : Room k X.A) (hb : Binds X.K fd ps []) (hx : ∀ σ, PassesAt CX X σ (E σ))
    (ht : eval (.Call (.Attribute o m apos) [] [] pos) X.env = (do
      let ov ← eval o X.env
      standAt apos.atName
      let (f, first) ← holding [ov] (getMethod ov m pl)
      callWith pos f first (backTo pos (starEach [] X.env)) (backToKw pos (keywordEach [] X.env))) := by rfl) :
    PE X (.Call (.Attribute o m apos) [] [] pos) (tMethS C m sp E ta tNil) := by
  refine ⟨fun pins s σ H Q I h => ?_⟩
  refine PySem.W.methodCall_KW (pl := pl) (thn (he.run pins s σ H _ I h) fun u s1 ⟨x, H1, I1, rx, a, dx, fs, ex, ea, l, q⟩ => ?_) ht
  subst ex
  obtain rfl : u = Value.ref a := rx
  refine getmeth_ok I1 ea c hm l ?_
  exact PySem.W.callWith_K0 (first := [.ref a]) I1.kIn hm.kp (run_fnS (us := [.ref a]) (vs := [.ref a]) F hr hb (hx σ) I1 (.cons rfl .nil) q)
/-- whether a thing is an object of the class x without an attribute called mn -/
def isOb (x mn : Str) : D → Bool
  | .ob y ns _ => y == x && !(ns.contains mn)
  | _ => false
@[simp] def callPm (x mn : Str) (m : List D → Cs → R T) (f0 : ME) (fs : List ME) (e : En) (c : Cs) : R D := (f0 e c).bind fun d c => if isOb x mn d = true then (evA fs e c).bind fun ds c => (m (d :: ds) c).bind fun t c => .ok t.d c else .stuck
@[simp] def callOm (x mn : Str) (m : List D → Cs → R T) (f0 : ME) (fs : List ME) (e : En) (c : Cs) : R T := (f0 e c).bind fun d c => if isOb x mn d = true then (evA fs e c).bind fun ds c => (m (d :: ds) c).bind fun t c => if (allV e || t.clean) = true then .ok t c else .stuck else .stuck
theorem lookup_out {fs : List (Str × V)} {mn : Str} (h : (fs.map (·.1)).contains mn = false) : fs.lookup mn = none := by
  induction fs with
  | nil => rfl
  | cons p fs ih =>
    rw [List.map_cons, List.contains_cons, Bool.or_eq_false_iff] at h
    rw [List.lookup_cons, h.1]
    exact ih h.2
theorem isOb_dd {x mn : Str} {d : D} {v : V} {C : Addr} (hC : PySem.W.nsIn K mainGlobals x = some (some (.ref C))) (h : isOb x mn d = true) (dd : Dd K ca F v d) : ∃ a dx fs, v = .ref a ∧ F a = some (.ins C dx fs) ∧ fs.lookup mn = none := by
  cases d with
  | ob y ns l =>
    simp only [isOb, Bool.and_eq_true, Bool.not_eq_true'] at h
    have hy := beq_iff_eq.mp h.1
    subst hy
    cases dd with
    | @ob a C' dx' _ fs _ _ h1 h2 h3 h4 =>
      subst h3
      rw [hC] at h2
      cases h2
      exact ⟨a, dx', fs, rfl, h1, lookup_out h.2⟩
  | _ => cases h
theorem rd_callPm {n : Nat} {x mn : Str} {m : List D → Cs → R T} {f0 : ME} {fs : List ME} {C : Addr} (hC : PySem.W.nsIn K mainGlobals x = some (some (.ref C))) (hn : fs.length + 1 = n) {Q : VK} (h : rdP K mg W (callPm x mn m f0 fs) σ H Q) : tMethS C mn (spM K mg n m) (WE W) (rdP K mg W f0) (rdPA K mg W (evA fs)) σ H Q := by
  obtain ⟨ca, F, e, ws, cs, st, po⟩ := h
  refine rdP_bind kindP st po fun d c0 F0 H0 v _ nx0 st0 dx0 po0 => ?_
  by_cases hb : isOb x mn d = true
  · rw [if_pos hb] at po0
    obtain ⟨a, dxa, fs', rfl, h1, h2⟩ := isOb_dd hC hb dx0
    refine ⟨a, dxa, fs', rfl, st0.bsub _ _ h1, h2, ?_⟩
    refine rdPA_bind kindP st0 po0 fun ds c1 F1 H1 vs q nx st1 dd po1 => ?_
    refine call_out (mg := mg) st1 (.cons (Dd.mono (st0.bmono nx) _ _ dx0) dd) (by rw [List.length_cons, evA_len q, hn]) ?_
    cases qm : m (d :: ds) c1 with
    | stuck => rw [qm] at po1; exact po1.elim
    | err y c2 =>
      rw [qm] at po1
      intro F2 H2 nx2 ce2
      obtain ⟨a1, a2, _, _⟩ := call_back st1 nx2 ce2
      exact po1 _ H2 a1 a2
    | ok t c2 =>
      rw [qm] at po1
      intro F2 H2 v as nx2 ce2 o n2 f2
      obtain ⟨a1, a2, a3, a4⟩ := call_back st1 nx2 ce2
      have hF : ∀ a ∈ as, F2 a = none := fun a m => (Own.ok _ _ _ o a m).1
      have hC : ∀ a ∈ as, cutF F2 ws a = none := fun a m => cutF_same.free (hF a m)
      have fr := st1.fresh f2
      have nx3 := Nxt.hold a1.s hC a1 f2
      refine po1 (Bh (cutF F2 ws) H2 as) H2 v nx3 (a2.hold hC fr.c) (Dd.mono (fun a o z => ?_) _ _ (Own.dd hF t v as (fun _ m => m) o))
      by_cases m : a ∈ as
      · rw [Bh_in m] at z
        rw [Bh_out (fr.w a m), Bh_in m]; exact z
      · rw [Bh_out m] at z
        by_cases mw : a ∈ ws
        · rw [Bh_in mw, ← a3 a mw]; exact z
        · rw [Bh_out mw, Bh_out m, cutF_out mw]; exact z
  · rw [if_neg hb] at po0; exact po0.elim
theorem rd_callOm {n : Nat} {x mn : Str} {m : List D → Cs → R T} {f0 : ME} {fs : List ME} {C : Addr} (hC : PySem.W.nsIn K mainGlobals x = some (some (.ref C))) (hn : fs.length + 1 = n) {Q : VK} (h : rdO K mg W (callOm x mn m f0 fs) σ H Q) : tMethS C mn (spM K mg n m) (WE W) (rdP K mg W f0) (rdPA K mg W (evA fs)) σ H Q := by
  obtain ⟨ca, F, e, ws, cs, st, po⟩ := h
  refine rdP_from (ws := ws) kindO (Nxt.refl st.same) st po fun d c0 F0 H0 v _ nx0 b0 st0 dx0 po0 => ?_
  by_cases hb : isOb x mn d = true
  · rw [if_pos hb] at po0
    obtain ⟨a, dxa, fs', rfl, h1, h2⟩ := isOb_dd hC hb dx0
    refine ⟨a, dxa, fs', rfl, st0.bsub _ _ h1, h2, ?_⟩
    refine rdPA_from (ws := ws) kindO b0 st0 po0 fun ds c1 F1 H1 vs q nx b1 st1 dd po1 => ?_
    refine call_out (mg := mg) st1 (.cons (Dd.mono (st0.bmono nx) _ _ dx0) dd) (by rw [List.length_cons, evA_len q, hn]) ?_
    cases qm : m (d :: ds) c1 with
    | stuck => rw [qm] at po1; exact po1.elim
    | err y c2 =>
      rw [qm] at po1
      intro F2 H2 nx2 ce2
      obtain ⟨a1, a2, _, _⟩ := call_back st1 nx2 ce2
      exact po1 _ H2 (b1.trans a1) a2
    | ok t c2 =>
      rw [qm] at po1
      intro F2 H2 v as nx2 ce2 o n2 f2
      obtain ⟨a1, a2, a3, a4⟩ := call_back st1 nx2 ce2
      simp only [R.bind_ok] at po1
      by_cases hf : (allV e || t.clean) = true
      · rw [if_pos hf] at po1
        refine po1 _ H2 v as (b1.trans a1) a2 ?_ n2 (nfree b1 f2)
        rw [Bool.or_eq_true] at hf
        rcases hf with hf | hf
        · have := Sl.allV st1.sl hf
          subst this
          have e0 : cutF F2 [] = F2 := by funext a; exact cutF_out (by simp)
          rw [e0]; exact o
        · exact Own.cut a4 a3 t v as hf o
      · rw [if_neg hf] at po1; exact po1.elim
  · rw [if_neg hb] at po0; exact po0.elim
theorem rdPA_nil {G : List V → Hp → Prop} (h : rdPA K mg W (evA []) σ H G) : G [] H := by
  obtain ⟨ca, F, e, ws, cs, st, po⟩ := h
  exact po F H [] (Nxt.refl st.same) st.ce .nil
theorem dp_meth {X : Cx} {W : WX} {n k : Nat} {x mn : Str} {m : List D → Cs → R T} {f0 : ME} {fs : List ME} {C f : Addr} {fd : FuncData} {ps : List Str} {o a : Expr} {as : List Expr} {apos pos : Pos} {pl : Sem Bool} (tk : Takes X W) (hC : PySem.W.nsIn X.K mainGlobals x = some (some (.ref C))) (c : Cls X.K C) (hm : Meth X.K C mn f)
    (G : FnOk X.prog X.w X.K X.mg X.base (L2.CX X.prog X.w) k f fd ps (spM X.K X.mg n m)) (hr : Room k X.A) (hb : Binds X.K fd ps []) (hn : fs.length + 1 = n) (ho : PE X o (rdP X.K X.mg W f0)) (ha : PA X (a :: as) (rdPA X.K X.mg W (evA fs)))
    (hst : starEach (a :: as) X.env = (false, eval a X.env) :: starEach as X.env := by rfl) (hpl : (backTo pos (starEach as X.env)).any (·.1) = false := by rfl)
    (ht : eval (.Call (.Attribute o mn apos) (a :: as) [] pos) X.env = (do
      let ov ← eval o X.env
      standAt apos.atName
      let (f, first) ← holding [ov] (getMethod ov mn pl)
      callWith pos f first (backTo pos (starEach (a :: as) X.env)) (backToKw pos (keywordEach [] X.env))) := by rfl) :
    PE X (.Call (.Attribute o mn apos) (a :: as) [] pos) (rdP X.K X.mg W (callPm x mn m f0 fs)) := (pe_methSl ho c hm G hr hb (fun σ => passAt tk σ) ha hst hpl ht).imp fun _ _ _ q => rd_callPm hC hn q
theorem do_meth {X : Cx} {W : WX} {n k : Nat} {x mn : Str} {m : List D → Cs → R T} {f0 : ME} {fs : List ME} {C f : Addr} {fd : FuncData} {ps : List Str} {o a : Expr} {as : List Expr} {apos pos : Pos} {pl : Sem Bool} (tk : Takes X W) (hC : PySem.W.nsIn X.K mainGlobals x = some (some (.ref C))) (c : Cls X.K C) (hm : Meth X.K C mn f)
    (G : FnOk X.prog X.w X.K X.mg X.base (L2.CX X.prog X.w) k f fd ps (spM X.K X.mg n m)) (hr : Room k X.A) (hb : Binds X.K fd ps []) (hn : fs.length + 1 = n) (ho : PE X o (rdP X.K X.mg W f0)) (ha : PA X (a :: as) (rdPA X.K X.mg W (evA fs)))
    (hst : starEach (a :: as) X.env = (false, eval a X.env) :: starEach as X.env := by rfl) (hpl : (backTo pos (starEach as X.env)).any (·.1) = false := by rfl)
    (ht : eval (.Call (.Attribute o mn apos) (a :: as) [] pos) X.env = (do
      let ov ← eval o X.env
      standAt apos.atName
      let (f, first) ← holding [ov] (getMethod ov mn pl)
      callWith pos f first (backTo pos (starEach (a :: as) X.env)) (backToKw pos (keywordEach [] X.env))) := by rfl) :
    PE X (.Call (.Attribute o mn apos) (a :: as) [] pos) (rdO X.K X.mg W (callOm x mn m f0 fs)) := (pe_methSl ho c hm G hr hb (fun σ => passAt tk σ) ha hst hpl ht).imp fun _ _ _ q => rd_callOm hC hn q
theorem meth_nil {C : Addr} {mn : Str} {sp : Sp} {E : L2.St → XK} {ta : TE} {Q : VK} (h : tMethS C mn sp E ta (rdPA K mg W (evA [])) σ H Q) (hm : ∀ {Q1 Q2 : VK} {σ H}, (∀ v H', Q1 v H' → Q2 v H') → ta σ H Q1 → ta σ H Q2) : tMethS C mn sp E ta tNil σ H Q :=
  hm (fun v H' ⟨a, dx, fs, h1, h2, h3, h4⟩ => ⟨a, dx, fs, h1, h2, h3, rdPA_nil h4⟩) h
theorem rdP_mono {f : ME} {Q1 Q2 : VK} (k : ∀ v H', Q1 v H' → Q2 v H') (h : rdP K mg W f σ H Q1) : rdP K mg W f σ H Q2 := by
  obtain ⟨ca, F, e, ws, cs, st, po⟩ := h
  refine ⟨ca, F, e, ws, cs, st, ?_⟩
  cases q : f e cs with
  | ok d c => rw [q] at po; exact fun F' H' v a b c => k v H' (po F' H' v a b c)
  | err x c => rw [q] at po; exact po
  | stuck => rw [q] at po; exact po.elim
theorem dp_meth0 {X : Cx} {W : WX} {n k : Nat} {x mn : Str} {m : List D → Cs → R T} {f0 : ME} {C f : Addr} {fd : FuncData} {ps : List Str} {o : Expr} {apos pos : Pos} {pl : Sem Bool} (tk : Takes X W) (hC : PySem.W.nsIn X.K mainGlobals x = some (some (.ref C))) (c : Cls X.K C) (hm : Meth X.K C mn f)
    (G : FnOk X.prog X.w X.K X.mg X.base (L2.CX X.prog X.w) k f fd ps (spM X.K X.mg n m)) (hr : Room k X.A) (hb : Binds X.K fd ps []) (hn : 1 = n) (ho : PE X o (rdP X.K X.mg W f0))
    (ht : eval (.Call (.Attribute o mn apos) [] [] pos) X.env = (do
      let ov ← eval o X.env
      standAt apos.atName
      let (f, first) ← holding [ov] (getMethod ov mn pl)
      callWith pos f first (backTo pos (starEach [] X.env)) (backToKw pos (keywordEach [] X.env))) := by rfl) :
    PE X (.Call (.Attribute o mn apos) [] [] pos) (rdP X.K X.mg W (callPm x mn m f0 [])) := (pe_methSl0 ho c hm G hr hb (fun σ => passAt tk σ) ht).imp fun _ _ _ q => meth_nil (rd_callPm hC (by simpa using hn) q) fun k h => rdP_mono k h
theorem do_meth0 {X : Cx} {W : WX} {n k : Nat} {x mn : Str} {m : List D → Cs → R T} {f0 : ME} {C f : Addr} {fd : FuncData} {ps : List Str} {o : Expr} {apos pos : Pos} {pl : Sem Bool} (tk : Takes X W) (hC : PySem.W.nsIn X.K mainGlobals x = some (some (.ref C))) (c : Cls X.K C) (hm : Meth X.K C mn f)
    (G : FnOk X.prog X.w X.K X.mg X.base (L2.CX X.prog X.w) k f fd ps (spM X.K X.mg n m)) (hr : Room k X.A) (hb : Binds X.K fd ps []) (hn : 1 = n) (ho : PE X o (rdP X.K X.mg W f0))
    (ht : eval (.Call (.Attribute o mn apos) [] [] pos) X.env = (do
      let ov ← eval o X.env
      standAt apos.atName
      let (f, first) ← holding [ov] (getMethod ov mn pl)
      callWith pos f first (backTo pos (starEach [] X.env)) (backToKw pos (keywordEach [] X.env))) := by rfl) :
    PE X (.Call (.Attribute o mn apos) [] [] pos) (rdO X.K X.mg W (callOm x mn m f0 [])) := (pe_methSl0 ho c hm G hr hb (fun σ => passAt tk σ) ht).imp fun _ _ _ q => meth_nil (rd_callOm hC (by simpa using hn) q) fun k h => rdP_mono k h
end
end Dg

set_option Elab.async false
set_option linter.all false
set_option maxRecDepth 100000
set_option maxHeartbeats 4000000
namespace Dg
open PySem PySem.Spec PyProof.Rows L2
section
variable {K : PySem.W.Frag} {mg : Str → Option Value} {W : WX} {ca : List Addr} {F F' H H' : Hp} {σ : L2.St} {e : En} {ws : List Addr} {cs cs' : Cs}
/-! ### a thing within things, by written numbers -/
@[simp] def T.at1 (t : T) (k : Int) : Option T := match t.parts2 with
  | some ts => (match ixN ts.length k with
    | some j => ts[j]?
    | none => none)
  | none => none
@[simp] def T.atP : T → List Int → Option T
  | t, [] => some t
  | t, k :: p => match t.at1 k with
    | some t' => t'.atP p
    | none => none
@[simp] def T.put1 (t : T) (k : Int) (s : T) : T := match t.parts2 with
  | some ts => (match ixN ts.length k with
    | some j => t.with2 (ts.set j s)
    | none => t)
  | none => t
@[simp] def T.putP : T → List Int → T → T
  | _, [], s => s
  | t, k :: p, s => match t.at1 k with
    | some t' => t.put1 k (t'.putP p s)
    | none => t
def VPath (ca : List Addr) (H : Hp) : V → List Int → V → Prop
  | v, [], x => v = x
  | v, k :: p, x => ∃ a xs y, v = .ref a ∧ a ∉ ca ∧ (H a = some (.lst xs) ∨ H a = some (.tup xs)) ∧ atI xs k = some y ∧ VPath ca H y p x
theorem VPath.det : ∀ {p : List Int} {v x y : V}, VPath ca H v p x → VPath ca H v p y → x = y
  | [], _, _, _, h, h' => by cases h; exact h'
  | k :: p, v, x, y, ⟨a, xs, z, e1, _, e2, e3, h⟩, ⟨a', xs', z', e1', _, e2', e3', h'⟩ => by
    subst e1; cases e1'
    have hx : xs = xs' := by
      rcases e2 with e2 | e2 <;> rcases e2' with e2' | e2' <;> (rw [e2] at e2'; cases e2') <;> rfl
    subst hx
    rw [e3] at e3'; cases e3'
    exact VPath.det h h'
theorem VPath.up (k : ∀ a o, a ∉ ca → H a = some o → H' a = some o) : ∀ {p : List Int} {v x : V}, VPath ca H v p x → VPath ca H' v p x
  | [], _, _, h => h
  | _ :: _, _, _, ⟨a, xs, z, e1, n, e2, e3, h⟩ => ⟨a, xs, z, e1, n, e2.imp (k _ _ n) (k _ _ n), e3, VPath.up k h⟩
theorem OwnA.rep : ∀ {xs : List V} {ts : List T} {as : List Addr} (j : Nat) {t : T}, OwnA K ca F H xs ts as → ts[j]? = some t → ∃ x pre a1 post, xs[j]? = some x ∧ as = pre ++ a1 ++ post ∧ Own K ca F H x t a1 ∧
    ∀ (F' H' : Hp) (t' : T) (bs : List Addr), Same F F' → (∀ a ∈ pre ++ post, H' a = H a ∧ F' a = none) → Own K ca F' H' x t' bs → OwnA K ca F' H' xs (ts.set j t') (pre ++ bs ++ post)
  | _, _, _, j, t, .nil, h => by simp at h
  | _, _, _, 0, t, .cons (x := x) (as := as) (bs := bs) h1 h2, h => by
    simp at h; subst h
    exact ⟨x, [], as, bs, rfl, rfl, h1, fun F' H' t' cs s k o => .cons o (OwnA.fr s _ _ _ (fun a m => k a (by simpa using m)) h2)⟩
  | _, _, _, j + 1, t, .cons (x := x0) (t := t0) (as := as) (bs := bs) h1 h2, h => by
    obtain ⟨x, pre, a1, post, q1, q2, q3, f⟩ := OwnA.rep j h2 (by simpa using h)
    refine ⟨x, as ++ pre, a1, post, by simpa using q1, by rw [q2]; simp, q3, fun F' H' t' cs s k o => ?_⟩
    have := f F' H' t' cs s (fun a m => k a (by simp only [List.mem_append] at m ⊢; rcases m with m | m <;> simp [m])) o
    rw [List.append_assoc, List.append_assoc]
    exact .cons (Own.fr s t0 _ as (fun a m => k a (by simp [m])) h1) (by simpa using this)
theorem own_rep (hc : ∀ a ∈ ca, F a = none) (sm : Same F H) : ∀ (p : List Int) (t : T) (v : V) (as : List Addr) (ts : List T), t.atP p = some (.ol ts) → Own K ca F H v t as → (∀ a ∈ as, a ∉ ca) →
    ∃ b xs pre as' post, as = pre ++ (b :: as') ++ post ∧ VPath ca H v p (.ref b) ∧ F b = none ∧ H b = some (.lst xs) ∧ OwnA K ca F H xs ts as' ∧
      ∀ (F' H' : Hp) (xs' : List V) (ts' : List T) (bs : List Addr), Same F F' → (∀ a ∈ pre ++ post, H' a = H a ∧ F' a = none) → F' b = none → H' b = some (.lst xs') → OwnA K ca F' H' xs' ts' bs →
        Own K ca F' H' v (t.putP p (.ol ts')) (pre ++ (b :: bs) ++ post)
  | [], t, v, as, ts, h, o, _ => by
    simp only [T.atP, Option.some.injEq] at h
    subst h
    cases o with
    | @l a xs _ as' h1 h2 h3 => exact ⟨a, xs, [], as', [], by simp, rfl, h1, h2, h3, fun F' H' xs' ts' bs s k f1 f2 o => by
        simp only [T.putP, List.nil_append, List.append_nil]
        exact .l f1 f2 o⟩
  | k :: p, t, v, as, ts, h, o, nc => by
    unfold T.atP at h
    unfold T.putP
    cases q : t.at1 k with
    | none => rw [q] at h; cases h
    | some t' =>
    rw [q] at h
    simp only at h ⊢
    unfold T.put1
    unfold T.at1 at q
    cases q1 : t.parts2 with
    | none => rw [q1] at q; cases q
    | some ts0 =>
    rw [q1] at q
    simp only at q ⊢
    cases q2 : ixN ts0.length k with
    | none => rw [q2] at q; cases q
    | some j =>
    rw [q2] at q
    simp only at q ⊢
    cases o with
    | v _ => cases q1
    | @l a xs _ as0 h1 h2 h3 =>
      cases q1
      obtain ⟨x, pre0, a1, post0, g1, g2, g3, f⟩ := OwnA.rep j h3 q
      obtain ⟨b, ys, pre, as', post, e1, e2, e3, e4, e5, e6⟩ := own_rep hc sm p _ _ _ _ h g3 (fun a m => nc a (by rw [g2]; simp [m]))
      refine ⟨b, ys, a :: (pre0 ++ pre), as', post ++ post0, by rw [g2, e1]; simp, ⟨a, xs, x, rfl, nc a (by simp), .inl h2, by unfold atI; rw [OwnA.length h3, q2]; exact g1, e2⟩, e3, e4, e5, fun F' H' xs' ts' bs s k f1 f2 o => ?_⟩
      have r := e6 F' H' xs' ts' bs s (fun a m => k a (by simp only [List.mem_append, List.mem_cons] at m ⊢; rcases m with m | m <;> simp [m])) f1 f2 o
      have r2 := f F' H' _ _ s (fun a m => k a (by simp only [List.mem_append, List.mem_cons] at m ⊢; rcases m with m | m <;> simp [m])) r
      have ka := k a (by simp)
      have := Own.l (K := K) (ca := ca) ka.2 (ka.1.trans h2) r2
      simpa [T.with2] using this
    | @t a xs _ _ h1 h3 =>
      cases q1
      obtain ⟨x, pre0, a1, post0, g1, g2, g3, f⟩ := OwnA.rep j h3 q
      obtain ⟨b, ys, pre, as', post, e1, e2, e3, e4, e5, e6⟩ := own_rep hc sm p _ _ _ _ h g3 (fun a m => nc a (by rw [g2]; simp [m]))
      refine ⟨b, ys, pre0 ++ pre, as', post ++ post0, by rw [g2, e1]; simp, ⟨a, xs, x, rfl, fun z => (by rw [hc a z] at h1; cases h1), .inr (sm _ _ h1), by unfold atI; rw [OwnA.length h3, q2]; exact g1, e2⟩, e3, e4, e5, fun F' H' xs' ts' bs s k f1 f2 o => ?_⟩
      have r := e6 F' H' xs' ts' bs s (fun a m => k a (by simp only [List.mem_append] at m ⊢; rcases m with m | m <;> simp [m])) f1 f2 o
      have r2 := f F' H' _ _ s (fun a m => k a (by simp only [List.mem_append] at m ⊢; rcases m with m | m <;> simp [m])) r
      have := Own.t (K := K) (ca := ca) (s _ _ h1) r2
      simpa [T.with2] using this
theorem Stt.path (st : Stt K ca F H σ e ws cs) {i : Nat} {p : List Int} {t : T} {ts : List T} (q : e[i]? = some (some t)) (hp : t.atP p = some (.ol ts)) :
    ∃ v b xs as', σ[i]? = some (some v) ∧ VPath ca H v p (.ref b) ∧ H b = some (.lst xs) ∧ b ∈ ws ∧ OwnA K ca F H xs ts as' ∧
      ∀ (xs' : List V) (ts' : List T) (bs : List Addr), OwnA K ca F H xs' ts' bs → bs.Sublist as' → ∃ vs, Stt K ca F (upd H b (.lst xs')) σ (e.set i (some (t.putP p (.ol ts')))) vs cs ∧ ∀ a ∈ vs, a ∈ ws := by
  obtain ⟨v, pre, as, post, h1, h2, h3, f⟩ := Sl.rep st.sl i t q
  have nd := st.nd
  have nca : ∀ a ∈ ws, a ∉ ca := fun a m z => (List.nodup_append.mp nd).2.2 a m a z rfl
  obtain ⟨b, xs, pre1, as', post1, e1, e2, e3, e4, e5, e6⟩ := own_rep (fun a m => (st.ce.there m).1) st.same p _ _ _ _ hp h3 (fun a m => nca a (by rw [h2]; simp [m]))
  have hb : b ∈ ws := by rw [h2, e1]; simp
  refine ⟨v, b, xs, as', h1, e2, e4, hb, e5, fun xs' ts' bs o sl => ?_⟩
  have ew : ws = (pre ++ pre1) ++ (b :: as') ++ (post1 ++ post) := by rw [h2, e1]; simp
  have nd2 := nd
  rw [ew] at nd2
  simp only [List.nodup_append, List.nodup_cons, List.mem_append, List.mem_cons] at nd2
  obtain ⟨⟨⟨n1, ⟨n2, n3⟩, n4⟩, n5, n6⟩, n7, n8⟩ := nd2
  have bo : ∀ a, a ∈ pre ++ pre1 ∨ a ∈ post1 ++ post → a ≠ b := fun a m z => by
    subst z
    rcases m with m | m
    · exact n4 a (List.mem_append.mp m) a (.inl rfl) rfl
    · exact n6 a (.inr (.inl rfl)) a (List.mem_append.mp m) rfl
  have bbs : b ∉ bs := fun z => n2 (sl.subset z)
  have o2 : OwnA K ca F (upd H b (.lst xs')) xs' ts' bs := OwnA.fr (Same.refl F) _ _ _ (fun a m => ⟨upd_ne fun z => bbs (by rw [← z]; exact m), (OwnA.ok _ _ _ o a m).1⟩) o
  have dis : ∀ a, a ∈ pre ++ pre1 ∨ a ∈ post1 ++ post → F a = none := fun a m => st.dis a (by rw [ew]; simp only [List.mem_append] at m ⊢; rcases m with (m | m) | (m | m) <;> simp [m])
  have r1 := e6 F (upd H b (.lst xs')) xs' ts' bs (Same.refl F) (fun a m => by
    have m' : a ∈ pre ++ pre1 ∨ a ∈ post1 ++ post := by
      simp only [List.mem_append] at m ⊢; rcases m with m | m <;> simp [m]
    exact ⟨upd_ne (bo a m'), dis a m'⟩) e3 upd_same o2
  have r2 := f F (upd H b (.lst xs')) _ _ (Same.refl F) (fun a m => by
    have m' : a ∈ pre ++ pre1 ∨ a ∈ post1 ++ post := by
      simp only [List.mem_append] at m ⊢; rcases m with m | m <;> simp [m]
    exact ⟨upd_ne (bo a m'), dis a m'⟩) r1
  have sub : (pre ++ (pre1 ++ (b :: bs) ++ post1) ++ post).Sublist ws := by
    rw [ew]
    simp only [List.append_assoc]
    exact (List.Sublist.refl pre).append ((List.Sublist.refl pre1).append ((sl.cons_cons b).append (List.Sublist.refl _)))
  refine ⟨_, ⟨fun a u z => ?_, r2, nd.sublist (sub.append (List.Sublist.refl _)), ⟨st.ce.1, fun n a ds c1 c2 => ?_⟩⟩, fun a m => sub.subset m⟩
  · have w := st.same a u z
    by_cases al : a = b
    · subst al; rw [e3] at z; cases z
    · rw [upd_ne al]; exact w
  · obtain ⟨k1, zs, k2, k3, k4⟩ := st.ce.2 n a ds c1 c2
    have al : a ≠ b := fun z => nca b hb (by rw [← z]; exact List.mem_of_getElem? c1)
    exact ⟨k1, zs, by rw [upd_ne al]; exact k2, k3, k4⟩
/-! readings -/
theorem rd_ixV {a : Addr} {xs : List V} {k : Int} {y : V} {Q : VK} (h : H a = some (.lst xs) ∨ H a = some (.tup xs)) (e1 : atI xs k = some y) (q : Q y H) : rIx K (.ref a) (.int k) H Q := by
  rcases h with h | h
  · exact .inl ⟨a, xs, k, y, rfl, rfl, SqL.of h, e1, q⟩
  · exact .inr (.inl ⟨a, xs, k, y, rfl, rfl, SqT.of h, e1, q⟩)
theorem rd_path1 {i : Nat} {v x : V} {k : Int} {Q : VK} (h : σ[i]? = some (some v)) (p : VPath ca H v [k] x) (q : Q x H) : tOp (rIx K) (tVar i) (tC (.int k)) σ H Q := by
  obtain ⟨a, xs, y, rfl, _, e2, e3, rfl⟩ := p
  exact ⟨_, h, rd_ixV e2 e3 q⟩
theorem rd_path2 {i : Nat} {v x : V} {k l : Int} {Q : VK} (h : σ[i]? = some (some v)) (p : VPath ca H v [k, l] x) (q : Q x H) : tOp (rIx K) (tOp (rIx K) (tVar i) (tC (.int k))) (tC (.int l)) σ H Q := by
  obtain ⟨a, xs, y, rfl, _, e2, e3, a', xs', y', rfl, _, e2', e3', rfl⟩ := p
  exact ⟨_, h, rd_ixV e2 e3 (rd_ixV e2' e3' q)⟩
/-- the reading of a path -/
@[simp] def tPth (K : PySem.W.Frag) (i : Nat) : List Int → TE
  | [k] => tOp (rIx K) (tVar i) (tC (.int k))
  | [k, l] => tOp (rIx K) (tOp (rIx K) (tVar i) (tC (.int k))) (tC (.int l))
  | _ => fun _ _ _ => False
def isPth : List Int → Bool
  | [_] => true
  | [_, _] => true
  | _ => false
theorem rd_path {i : Nat} {v x : V} {Q : VK} : ∀ {p : List Int}, isPth p = true → σ[i]? = some (some v) → VPath ca H v p x → Q x H → tPth K i p σ H Q
  | [k], _, h, p, q => rd_path1 h p q
  | [k, l], _, h, p, q => rd_path2 h p q
  | [], n, _, _, _ => by cases n
  | _ :: _ :: _ :: _, n, _, _, _ => by cases n
/-- x[..].clear() -/
@[simp] def sClrP (i : Nat) (p : List Int) (e : En) (c : Cs) : R Fl := match e[i]? with
  | some (some t) => (match t.atP p with
    | some (.ol _) => .ok (.nx (e.set i (some (t.putP p (.ol []))))) c
    | _ => .stuck)
  | _ => .stuck
theorem rd_sClrP {i : Nat} {p : List Int} {Dn : Ends} (hp : isPth p = true) (h : rdS K mg W (sClrP i p) Dn σ H) : tDrop (tBM0 K "list" rClear (tPth K i p)) Dn σ H := by
  obtain ⟨ca, F, e, ws, cs, st, po⟩ := h
  unfold sClrP at po
  cases q : e[i]? with
  | none => rw [q] at po; exact po.elim
  | some o =>
  cases o with
  | none => rw [q] at po; exact po.elim
  | some t =>
  rw [q] at po
  simp only at po
  cases q2 : t.atP p with
  | none => rw [q2] at po; exact po.elim
  | some t2 =>
  rw [q2] at po
  cases t2 with
  | v _ => exact po.elim
  | ot _ => exact po.elim
  | ol ts =>
  obtain ⟨v, b, xs, as', h1, h2, h3, h4, h5, h6⟩ := st.path q q2
  refine rd_path hp h1 h2 ⟨.inl ⟨rfl, xs, SqL.of h3⟩, b, xs, rfl, rfl, h3, ?_⟩
  obtain ⟨vs, st2, hv⟩ := h6 [] [] [] .nil (List.nil_sublist _)
  exact po F _ σ vs (NxS.change (bw := []) h4 (fun a m => .inl (hv a m)) (fun a m => by cases m) (Nxt.refl st.same)) st2
theorem OwnA.snocv {x : V} {d : D} (hd : Dd K ca F x d) : ∀ {xs : List V} {ts : List T} {as : List Addr}, OwnA K ca F H xs ts as → OwnA K ca F H (xs ++ [x]) (ts ++ [.v d]) as := fun h => by
  have := OwnA.app h (own_one (.v hd))
  rwa [List.append_nil] at this
/-- x[..].append(e), e flat -/
@[simp] def sAppP (i : Nat) (p : List Int) (f : ME) (e : En) (c : Cs) : R Fl := match e[i]? with
  | some (some t) => (match t.atP p with
    | some (.ol ts) => (f e c).toS e fun d c => if (d.flat && decide (ts.length < LIM)) = true then .ok (.nx (e.set i (some (t.putP p (.ol (ts ++ [.v d])))))) c else .stuck
    | _ => .stuck)
  | _ => .stuck
theorem rd_sAppP {i : Nat} {p : List Int} {f : ME} {Dn : Ends} (hp : isPth p = true) (h : rdS K mg W (sAppP i p f) Dn σ H) : tDrop (tBM K "list" rAppend (tPth K i p) (tCons (rdP K mg W f) tNil)) Dn σ H := by
  obtain ⟨ca, F, e, ws, cs, st, po⟩ := h
  unfold sAppP at po
  cases q : e[i]? with
  | none => rw [q] at po; exact po.elim
  | some o =>
  cases o with
  | none => rw [q] at po; exact po.elim
  | some t =>
  rw [q] at po
  simp only at po
  cases q2 : t.atP p with
  | none => rw [q2] at po; exact po.elim
  | some t2 =>
  rw [q2] at po
  cases t2 with
  | v _ => exact po.elim
  | ot _ => exact po.elim
  | ol ts =>
  obtain ⟨v, b, xs, as', h1, h2, h3, h4, h5, h6⟩ := st.path q q2
  refine rd_path hp h1 h2 ⟨.inl ⟨rfl, xs, SqL.of h3⟩, ?_⟩
  refine toS_P st po fun d c1 F1 H1 u nx st1 dx po1 => ?_
  split at po1
  · rename_i hf
    rw [Bool.and_eq_true] at hf
    obtain ⟨v', b', xs', as2, g1, g2, g3, g4, g5, g6⟩ := st1.path q q2
    rw [h1] at g1; cases g1
    have := VPath.det (VPath.up nx.k h2) g2
    cases this
    have dd := Dd.unB (fun a m => (Sl.ok st1.sl a m).2) _ _ hf.1 dx
    refine ⟨b, xs', u, rfl, rfl, g3, by rw [OwnA.length g5]; exact lim_line' (of_decide_eq_true hf.2), ?_⟩
    obtain ⟨vs, st2, hv⟩ := g6 (xs' ++ [u]) (ts ++ [.v d]) as2 (OwnA.snocv dd g5) (List.Sublist.refl _)
    exact po1 F1 _ σ vs (NxS.change (bw := []) g4 (fun a m => .inl (hv a m)) (fun a m => by cases m) (Nxt.refl st1.same)) st2
  · exact po1.elim
theorem ds_clrP {X : Cx} {W : WX} {o : Expr} {p : List Int} {ap cp pos : Pos} (i : Nat) (hp : isPth p = true) (ho : PE X o (tPth X.K i p))
    (hbase : attributeBase o "clear" X.env (eval o X.env) = eval o X.env := by rfl) (hline : (ap.endLine == cp.line) = true := by rfl)
    (hsw : swapsWith (.Call (.Attribute o "clear" ap) [] [] cp) none pos.line X.env = pure false := by rfl) :
    PS X (.Expr (.Call (.Attribute o "clear" ap) [] [] cp) pos) (rdS X.K X.mg W (sClrP i p)) :=
  (ps_expr (pe_bm0 PySem.F.plainAttrs_list PySem.F.slot_list_clear PySem.F.type_list_clear mt_clear ho hbase hline) hsw).imp fun _ _ _ q => rd_sClrP hp q
theorem ds_appP {X : Cx} {W : WX} {o a : Expr} {f : ME} {p : List Int} {ap cp pos : Pos} (i : Nat) (hp : isPth p = true) (ho : PE X o (tPth X.K i p)) (ha : PE X a (rdP X.K X.mg W f))
    (hs1 : starEach [a] X.env = (false, eval a X.env) :: starEach [] X.env := by rfl)
    (hbase : attributeBase o "append" X.env (eval o X.env) = eval o X.env := by rfl)
    (hfew : ((backTo cp (starEach [a] X.env)).all (fun x => !x.1) && (backToKw cp (keywordEach [] X.env)).all (fun x => x.1.isSome) && decide ([a].length + ([] : List Keyword).length + (if ([] : List Keyword).isEmpty then 0 else 1) < 30)) = true := by rfl)
    (hline : (ap.endLine == cp.line) = true := by rfl) (hplain : (backTo cp (starEach [] X.env)).any (·.1) = false := by rfl)
    (hsw : swapsWith (.Call (.Attribute o "append" ap) [a] [] cp) none pos.line X.env = pure false := by rfl) :
    PS X (.Expr (.Call (.Attribute o "append" ap) [a] [] cp) pos) (rdS X.K X.mg W (sAppP i p f)) :=
  (ps_expr (pe_bm PySem.F.plainAttrs_list PySem.F.slot_list_append PySem.F.type_list_append mt_append ho (pa_cons ha pa_nil hs1) hbase hfew hline hs1 hplain) hsw).imp fun _ _ _ q => rd_sAppP hp q
/-- an attribute of a thing held for good, held for good -/
@[simp] def oFld (x f : Str) (i : Nat) (e : En) (c : Cs) : R T := match e[i]? with
  | some (some (.v d)) => (R.of (fldD x f d) c).bind fun r c => .ok (.v r) c
  | _ => .stuck
theorem rd_oFld {x f : Str} {i : Nat} {C : Addr} {Q : VK} (hC : PySem.W.nsIn K mainGlobals x = some (some (.ref C))) (hc : Cls K C) (hn : NoAttr K C f) (h : rdO K mg W (oFld x f i) σ H Q) : tFld K (tVar i) f σ H Q := by
  obtain ⟨ca, F, e, ws, cs, st, po⟩ := h
  unfold oFld at po
  cases q : e[i]? with
  | none => rw [q] at po; exact po.elim
  | some o =>
  cases o with
  | none => rw [q] at po; exact po.elim
  | some t =>
  cases t with
  | ol _ => rw [q] at po; exact po.elim
  | ot _ => rw [q] at po; exact po.elim
  | v d =>
  rw [q] at po
  simp only at po
  cases hr : fldD x f d with
  | none => rw [hr] at po; exact po.elim
  | some r =>
  rw [hr] at po
  obtain ⟨y, as, h1, h2, h3⟩ := Sl.get st.sl q
  cases h2 with
  | v dx =>
  cases d with
  | ob y ns l =>
    simp only [fldD] at hr
    split at hr
    · rename_i hy
      have hy := beq_iff_eq.mp hy
      subst hy
      cases dx with
      | @ob a C' dx' _ fs _ _ h1' h2' h3' h4' =>
        subst h3'
        rw [hC] at h2'
        cases h2'
        obtain ⟨v, k1, k2⟩ := fldL_dd f h4' hr
        exact ⟨_, h1, a, C, dx', fs, v, rfl, st.same _ _ h1', hc, hn, k1, po F H v [] (Nxt.refl st.same) st.ce (.v k2) List.nodup_nil (fun _ m => by cases m)⟩
    · cases hr
  | _ => cases hr
theorem do_fld {X : Cx} {W : WX} {x f n : Str} {C : Addr} {p pos : Pos} (hC : PySem.W.nsIn X.K mainGlobals x = some (some (.ref C))) (hc : Cls X.K C) (hn : NoAttr X.K C f) (i : Nat) (he : PE X (.Name n p) (tVar i)) (hb : attributeBase (.Name n p) f X.env (eval (.Name n p) X.env) = eval (.Name n p) X.env := by rfl) :
    PE X (.Attribute (.Name n p) f pos) (rdO X.K X.mg W (oFld x f i)) := (pe_fld he hb).imp fun _ _ _ q => rd_oFld hC hc hn q
theorem hs_setLc {X : Cx} {W : WX} {i : Nat} {y : Str} {py : Pos} {elt tg iter : Expr} {ifs : List Expr} {scope : Scope} {own : List (Str × Nat)} {pos spos : Pos} {it : MI} {g : TG} {is : List Nat} {tgm : D → En → Option En} {t : En → Cs → R Bool} {f : MO} (hc : X.calm = true) (hN : X.N.Nodup) (hy : X.N[i]? = some y) (hyl : X.env.scope.names.lookup y = some .local)
    (hsw : swapsWith (.ListComp elt [⟨tg, iter, ifs, 0⟩] scope pos) (some (.Name y py)) spos.line X.env = pure true) (hi : PI X tg iter (rdI X.K X.mg W it)) (ok : BlkOk X.N X.env.scope scope own) (hd : DG X.K g is tgm) (hs : ∀ i ∈ is, i ∈ own.map (·.2))
    (hg : ∀ (s : Shared) (H : Hp) (C : Addr) (cl : List (Str × Addr)) (fp : List Addr), PG (X.blk s H scope (compEnvC scope cl C X.env) fp) tg g) (ht : ∀ (s : Shared) (H : Hp) (C : Addr) (cl : List (Str × Addr)) (fp : List Addr), PTs (X.blk s H scope (compEnvC scope cl C X.env) fp) ifs (rdT X.K X.mg W0 t))
    (he : ∀ (s : Shared) (H : Hp) (C : Addr) (cl : List (Str × Addr)) (fp : List Addr), PE (X.blk s H scope (compEnvC scope cl C X.env) fp) elt (rdO X.K X.mg W0 f)) (hf : ∀ x, foldedSetIterable iter X.env x = pure x := by intro _; rfl) :
    PS X (.Assign [.Name y py] (.ListComp elt [⟨tg, iter, ifs, 0⟩] scope pos) spos) (tAsg (rdO X.K X.mg W (oComp (own.map (·.2)) it tgm t f)) (gName i)) :=
  (ps_setLc hc hN hy hyl hsw hi ok hg ht he hf).imp fun _ _ _ q => rd_oComp hd hs q
end
end Dg

set_option Elab.async false
set_option linter.all false
set_option maxRecDepth 100000
set_option maxHeartbeats 4000000
namespace Dg
open PySem PySem.Spec PyProof.Rows L2
section
variable {K : PySem.W.Frag} {mg : Str → Option Value} {W : WX} {ca : List Addr} {F F' H H' : Hp} {σ : L2.St} {e : En} {ws : List Addr} {cs cs' : Cs}
/-! ### x[a][b] = v, by numbers that are reckoned -/
@[simp] def sStG (i : Nat) (fa fb : ME) (f : MO) (e : En) (c : Cs) : R Fl := (f e c).toS e fun t c => match t with
  | .v d => (match e[i]? with
    | some (some t0) => (match t0.parts2 with
      | some ts => (fa e c).toS e fun ka c => (match ka with
        | .int a => (match ixN ts.length a with
          | some j1 => (match ts[j1]? with
            | some (.ol us) => if us.all T.isV = true then (fb e c).toS e fun kb c => (match kb with
              | .int b => (match ixN us.length b with
                | some j2 => .ok (.nx (e.set i (some (t0.with2 (ts.set j1 (.ol (us.set j2 (.v d)))))))) c
                | none => .stuck)
              | _ => .stuck) else .stuck
            | _ => .stuck)
          | none => .stuck)
        | _ => .stuck)
      | none => .stuck)
    | _ => .stuck)
  | _ => .stuck
theorem rd_sStG {i : Nat} {fa fb : ME} {f : MO} {Dn : Ends} (h : rdS K mg W (sStG i fa fb f) Dn σ H) : tAsg (rdO K mg W f) (gSub (tOp (rIx K) (tVar i) (rdP K mg W fa)) (rdP K mg W fb) rSetL) Dn σ H := by
  obtain ⟨ca, F, e, ws, cs, st, po⟩ := h
  refine toS_O st po fun t c1 F1 H1 v bs nx st1 dx n f1 fr po1 => ?_
  cases t with
  | ol _ => exact po1.elim
  | ot _ => exact po1.elim
  | v d =>
  cases dx with
  | v dx =>
  simp only at po1
  cases q : e[i]? with
  | none => rw [q] at po1; exact po1.elim
  | some o =>
  cases o with
  | none => rw [q] at po1; exact po1.elim
  | some t0 =>
  rw [q] at po1
  simp only at po1
  cases q2 : t0.parts2 with
  | none => rw [q2] at po1; exact po1.elim
  | some ts =>
  rw [q2] at po1
  simp only at po1
  obtain ⟨y, as, h1, _, _⟩ := Sl.get st1.sl q
  refine ⟨y, h1, toS_Pf nx.toS st1 po1 fun ka c2 F2 H2 u nx2 st2 dk po2 => ?_⟩
  cases ka with
  | int a =>
    cases dk
    simp only at po2
    cases q3 : ixN ts.length a with
    | none => rw [q3] at po2; exact po2.elim
    | some j1 =>
    rw [q3] at po2
    simp only at po2
    cases q4 : ts[j1]? with
    | none => rw [q4] at po2; exact po2.elim
    | some t2 =>
    rw [q4] at po2
    cases t2 with
    | v _ => exact po2.elim
    | ot _ => exact po2.elim
    | ol us =>
    simp only at po2
    by_cases hu : us.all T.isV = true
    · rw [if_pos hu] at po2
      obtain ⟨y2, p, xs, b2, ys, k1, k2, pca, k3, k4, k5, _, _, _, _⟩ := Stt.putn st2 q q2 hu q4 (Dd.mono nx2.f _ _ dx)
      rw [h1] at k1; cases k1
      subst k2
      have hat : atI xs a = some (.ref b2) := by
        unfold atI
        rw [k4, q3]
        exact k5
      have rest : rdP K mg W fb σ H2 (fun u H3 => rSetL (.ref b2) u v H3 fun H4 => Dn.nx σ H4) := by
        refine toS_Pf (nx.trans nx2).toS st2 po2 fun kb c3 F3 H3 u3 nx3 st3 dk3 po3 => ?_
        cases kb with
        | int b =>
          cases dk3
          simp only at po3
          cases q5 : ixN us.length b with
          | none => rw [q5] at po3; exact po3.elim
          | some j2 =>
          rw [q5] at po3
          obtain ⟨y3, p3, xs3, b3, ys3, l1, l2, _, l3, l4, l5, l6, l7, l8, l9⟩ := Stt.putn st3 q q2 hu q4 (Dd.mono (nx2.trans nx3).f _ _ dx)
          rw [h1] at l1; cases l1
          cases l2
          have hx : xs3 = xs := by
            rcases k3 with k3 | k3 <;> rcases l3 with l3 | l3 <;> (have z := nx3.k _ _ pca k3; rw [l3] at z; cases z) <;> rfl
          subst hx
          rw [k5] at l5; cases l5
          refine ⟨b2, ys3, b, j2, rfl, rfl, l6, by rw [l7]; exact q5, ?_⟩
          exact po3 F3 _ σ ws (NxS.change (bw := []) l8 (fun a m => .inl m) (fun a m => by cases m) (nx.trans (nx2.trans nx3))) (l9 j2)
        | _ => exact po3.elim
      rcases k3 with k3 | k3
      · exact .inl ⟨p, xs, a, .ref b2, rfl, rfl, SqL.of k3, hat, rest⟩
      · exact .inr (.inl ⟨p, xs, a, .ref b2, rfl, rfl, SqT.of k3, hat, rest⟩)
    · rw [if_neg hu] at po2; exact po2.elim
  | _ => exact po2.elim
end
theorem ds_stG {X : Cx} {W : WX} {u : Expr} {p1 p2 p3 pos : Pos} {x : Str} {k1 k2 : Expr} {fa fb : ME} {f : MO} (i : Nat) (hv : PE X (.Name x p1) (tVar i)) (h1 : PE X k1 (rdP X.K X.mg W fa)) (h2 : PE X k2 (rdP X.K X.mg W fb)) (hp : PlainIx k1) (ha : PE X u (rdO X.K X.mg W f))
    (hg : PG X (.Subscript (.Subscript (.Name x p1) k1 p2) k2 p3) (gSub (tOp (rIx X.K) (tVar i) (rdP X.K X.mg W fa)) (rdP X.K X.mg W fb) rSetL))
    (hs : swapsWithSole [.Subscript (.Subscript (.Name x p1) k1 p2) k2 p3] u pos.line X.env = pure false := by rfl) (hw : swappedStores [.Subscript (.Subscript (.Name x p1) k1 p2) k2 p3] u X.env = pure none := by rfl)
    (hh : (assignEach [.Subscript (.Subscript (.Name x p1) k1 p2) k2 p3] X.env).map (·.2) = [assign (.Subscript (.Subscript (.Name x p1) k1 p2) k2 p3) X.env] := by rfl) :
    PS X (.Assign [.Subscript (.Subscript (.Name x p1) k1 p2) k2 p3] u pos) (rdS X.K X.mg W (sStG i fa fb f)) := (ps_asg ha hg hs hw hh).imp fun _ _ _ q => rd_sStG q
/-! ### list(range(n)) -/
theorem vals_rng (lo : Int) : ∀ (l : List Value) (a : Nat), (∀ j v, l[j]? = some v → ∃ t, v = Value.int (lo + ((a + j : Nat) : Int)) t) → Vals ((List.range' a l.length).map fun k : Nat => V.int (lo + (k : Int))) l
  | [], _, _ => .nil
  | v :: l, a, h => by
    rw [List.length_cons, List.range'_succ, List.map_cons]
    refine .cons (h 0 v rfl) (vals_rng lo l (a + 1) fun j w e => ?_)
    have := h (j + 1) w (by simpa using e)
    rwa [show a + (j + 1) = a + 1 + j by omega] at this
theorem cr_rng1 {X : Cx} : CallR X (.type "range") (fun vs H Q => ∃ j, vs = [V.int j] ∧ ∀ p, H p = none → Q (.ref p) (upd H p (.rng 0 j))) := by
  intro pins s σ H vs us Q I r h
  obtain ⟨j, rfl, q⟩ := h
  obtain ⟨u1, rfl, ri⟩ := vals1 r
  obtain ⟨t, rfl⟩ := ri
  refine call_range_1 ⟨.ref s.heap.objs.size, upd H s.heap.objs.size (.rng 0 j), I.laid (t' := s.toks + 1 + 1) (fun b o e => Heap.get?_push_of_some _ e) (Nat.le_refl _) ?_, rfl, q _ (I.hok.fresh (Nat.le_refl _))⟩
  exact ⟨_, _, _, Heap.get?_push_size _ rfl⟩
def rListRng : List V → Hp → VK → Prop := fun xs H Q => ∃ p lo hi, xs = [V.ref p] ∧ H p = some (.rng lo hi) ∧ (-1000000 < lo ∧ lo < 1000000 ∧ -1000000 < hi ∧ hi < 1000000) ∧ ∀ l, H l = none → Q (.ref l) (upd H l (.lst ((List.range (hi - lo).toNat).map fun k : Nat => V.int (lo + (k : Int)))))
theorem cr_listRng {X : Cx} (hc : X.calm = true) : CallR X (.type "list") rListRng := by
  intro pins s σ H xs us Q I r h
  obtain ⟨p, lo, hi, rfl, hp, hb, q⟩ := h
  obtain ⟨u, rfl, rx⟩ := vals1 r
  cases rx
  obtain ⟨t1, t2, t3, ho⟩ := I.hok p _ hp
  have hh := I.ok.hd hc
  have hsz : Builtin.Range.rangeSize lo hi 1 = ((hi - lo).toNat : Int) := by
    rw [rangeSize_one]
    split <;> omega
  refine call_list_range (n := (hi - lo).toNat) hh ho (small_one (by omega) (by omega) (by omega) (by omega)) hsz (by omega) fun h' tk acc c' hk hS hI => ?_
  have hl : acc.toList.length = (hi - lo).toNat := by simpa using hI.1
  have hv := vals_rng lo acc.toList 0 fun j v e => by
    obtain ⟨t, ht⟩ := hI.2 j v (by simpa using e)
    exact ⟨t, by rw [ht, Int.mul_one, Nat.zero_add]⟩
  rw [hl, ← List.range_eq_range'] at hv
  refine ⟨.ref s.heap.objs.size, upd H s.heap.objs.size (.lst _), I.laid (t' := tk) hk (Nat.le_refl _) (show ObjOk X.prog X.w _ h' _ (.lst _) from ⟨?_, acc.toList, c', hv, hS⟩), rfl, q _ (I.hok.fresh (Nat.le_refl _))⟩
  rw [List.length_map, List.length_range]
  have : (hi - lo).toNat < 2000000 := by omega
  rw [sizeLine_eq]; omega
section
variable {K : PySem.W.Frag} {mg : Str → Option Value} {W : WX} {ca : List Addr} {F F' H H' : Hp} {σ : L2.St} {e : En} {ws : List Addr} {cs cs' : Cs}
def rngT (n : Int) : List T := (List.range n.toNat).map fun k : Nat => T.v (.int (k : Int))
@[simp] noncomputable def oListRng (f : ME) (e : En) (c : Cs) : R T := (f e c).bind fun d c => match d with
  | .int n => if inR n then .ok (.ol (rngT n)) c else .stuck
  | _ => .stuck
theorem own_rng : ∀ l : List Nat, OwnA K ca F H (l.map fun k : Nat => V.int (0 + (k : Int))) (l.map fun k : Nat => T.v (.int (k : Int))) []
  | [] => .nil
  | k :: l => by
    rw [List.map_cons, List.map_cons, Int.zero_add]
    exact OwnA.cons (as := []) (bs := []) (.v (.int _)) (own_rng l)
theorem rd_oListRng {f : ME} {Q : VK} (h : rdO K mg W (oListRng f) σ H Q) : rdP K mg W f σ H (fun v H1 => ∃ j, [v] = [V.int j] ∧ ∀ p, H1 p = none → rListRng [V.ref p] (upd H1 p (.rng 0 j)) Q) := by
  obtain ⟨ca, F, e, ws, cs, st, po⟩ := h
  refine rdP_from (ws := ws) kindO (Nxt.refl st.same) st po fun d c1 F1 H1 v q _ nx st1 dx po1 => ?_
  cases d with
  | int n =>
    cases dx
    simp only at po1
    split at po1
    · rename_i hn
      refine ⟨n, rfl, fun p hp => ⟨p, 0, n, rfl, upd_same, ⟨by decide, by decide, hn.2, hn.1⟩, fun l hl => ?_⟩⟩
      have n1 := Nxt.new (ca := ca) (o := .rng 0 n) st1.same hp
      have s1 : Same (upd F1 p (.rng 0 n)) (upd H1 p (.rng 0 n)) := fun a o z => by
        by_cases ha : a = p
        · subst ha; rw [upd_same] at z ⊢; exact z
        · rw [upd_ne ha] at z ⊢; exact st1.same a o z
      have n2 := Nxt.own (ca := ca) (o := .lst ((List.range (n - 0).toNat).map fun k : Nat => V.int (0 + (k : Int)))) s1 hl
      have c2 := (st1.ce.new (o := .rng 0 n) st1.same hp).own (o := .lst ((List.range (n - 0).toNat).map fun k : Nat => V.int (0 + (k : Int)))) hl
      have fl : upd F1 p (.rng 0 n) l = none := by
        cases z : upd F1 p (.rng 0 n) l with
        | none => rfl
        | some o => have := s1 l o z; rw [hl] at this; cases this
      refine po1 _ _ (.ref l) [l] ((nx.trans n1).trans n2) c2 (.l fl upd_same (by
        have := own_rng (K := K) (ca := ca) (F := upd F1 p (.rng 0 n)) (H := upd (upd H1 p (.rng 0 n)) l (.lst ((List.range (n - 0).toNat).map fun k : Nat => V.int (0 + (k : Int))))) (List.range n.toNat)
        rw [Int.sub_zero]
        rw [Int.sub_zero] at this
        exact this)) (by simp) fun a m => ?_
      rw [List.mem_singleton.mp m]
      cases z : H l with
      | none => rfl
      | some o =>
        have z2 := (nx.trans n1).th l (by rw [z]; simp)
        exact absurd hl z2
    · exact po1.elim
  | _ => exact po1.elim
end
theorem do_listRng {X : Cx} {W : WX} {f : ME} {a : Expr} {p p2 pos pos2 : Pos} (hc : X.calm = true) (hg : Gl X "list") (hm : X.mg "list" = none) (hg2 : Gl X "range") (hm2 : X.mg "range" = none) (ha : PE X a (rdP X.K X.mg W f))
    (hs1 : starEach [a] X.env = (false, eval a X.env) :: starEach [] X.env := by rfl) (hp1 : (backTo pos2 (starEach [] X.env)).any (·.1) = false := by rfl)
    (hs2 : starEach [.Call (.Name "range" p2) [a] [] pos2] X.env = (false, eval (.Call (.Name "range" p2) [a] [] pos2) X.env) :: starEach [] X.env := by rfl) (hp2 : (backTo pos (starEach [] X.env)).any (·.1) = false := by rfl) :
    PE X (.Call (.Name "list" p) [.Call (.Name "range" p2) [a] [] pos2] [] pos) (rdO X.K X.mg W (oListRng f)) :=
  (pe_callTy (cr_listRng hc) hg hm (by decide +kernel) (pa_cons (pe_callTy cr_rng1 hg2 hm2 (by decide +kernel) (pa_cons ha pa_nil (hs := hs1)) (by decide) (by decide) hs1 hp1) pa_nil (hs := hs2)) (by decide) (by decide) hs2 hp2).imp fun _ _ _ q => rd_oListRng q
/-! ### x.reverse() -/
section
variable {K : PySem.W.Frag} {mg : Str → Option Value} {W : WX} {ca : List Addr} {F F' H H' : Hp} {σ : L2.St} {e : En} {ws : List Addr} {cs cs' : Cs}
@[simp] def sRev (i : Nat) (e : En) (c : Cs) : R Fl := match e[i]? with
  | some (some (.ol ts)) => .ok (.nx (e.set i (some (.ol ts.reverse)))) c
  | _ => .stuck
theorem OwnA.rev : ∀ {xs : List V} {ts : List T} {as : List Addr}, OwnA K ca F H xs ts as → ∃ bs, OwnA K ca F H xs.reverse ts.reverse bs ∧ bs.Perm as
  | _, _, _, .nil => ⟨[], .nil, .nil⟩
  | _, _, _, .cons (as := a0) (bs := b0) h1 h2 => by
    obtain ⟨bs, h3, h4⟩ := OwnA.rev h2
    refine ⟨bs ++ a0, ?_, (h4.append_right a0).trans List.perm_append_comm⟩
    rw [List.reverse_cons, List.reverse_cons]
    exact OwnA.app h3 (own_one h1)
theorem rd_sRev {i : Nat} {Dn : Ends} (h : rdS K mg W (sRev i) Dn σ H) : tDrop (tBM0 K "list" rReverse (tVar i)) Dn σ H := by
  obtain ⟨ca, F, e, ws, cs, st, po⟩ := h
  unfold sRev at po
  cases q : e[i]? with
  | none => rw [q] at po; exact po.elim
  | some o =>
    cases o with
    | none => rw [q] at po; exact po.elim
    | some t =>
      cases t with
      | v d => rw [q] at po; exact po.elim
      | ot d => rw [q] at po; exact po.elim
      | ol ts =>
        rw [q] at po
        obtain ⟨l, xs, as, h1, h2, h3, h4, gn, gw, g5⟩ := st.change q
        refine ⟨.ref l, h1, .inl ⟨rfl, xs, SqL.of h2⟩, l, xs, rfl, rfl, h2, ?_⟩
        obtain ⟨bs, r1, r2⟩ := OwnA.rev h4
        obtain ⟨vs, st2, hv⟩ := g5 (bw := []) r1 (r2.nodup_iff.mpr gn) (fun a m => .inl (r2.mem_iff.mp m)) ⟨(fun a m => by cases m), (fun a m => by cases m)⟩
        have hl : l ∈ ws := by
          obtain ⟨x, pre, as0, post, k1, k2, k3, _⟩ := Sl.rep st.sl i _ q
          cases k3 with
          | l k4 k5 k6 => rw [h1] at k1; cases k1; rw [k2]; simp
        exact po F _ σ vs (NxS.change (bw := []) hl hv (fun a m => by cases m) (Nxt.refl st.same)) st2
end
theorem ds_rev {X : Cx} {W : WX} {x : Str} {p ap cp pos : Pos} (i : Nat) (hv : PE X (.Name x p) (tVar i))
    (hbase : attributeBase (.Name x p) "reverse" X.env (eval (.Name x p) X.env) = eval (.Name x p) X.env := by rfl) (hline : (ap.endLine == cp.line) = true := by rfl)
    (hsw : swapsWith (.Call (.Attribute (.Name x p) "reverse" ap) [] [] cp) none pos.line X.env = pure false := by rfl) :
    PS X (.Expr (.Call (.Attribute (.Name x p) "reverse" ap) [] [] cp) pos) (rdS X.K X.mg W (sRev i)) :=
  (ps_expr (pe_bm0 PySem.F.plainAttrs_list PySem.F.slot_list_reverse PySem.F.type_list_reverse mt_reverse hv hbase hline) hsw).imp fun _ _ _ q => rd_sRev q
end Dg

set_option Elab.async false
set_option linter.all false
set_option maxRecDepth 100000
set_option maxHeartbeats 4000000
namespace Dg
open PySem PySem.Spec PyProof.Rows L2
/-! ### return (x, y), x and y slots: both are moved -/
@[simp] def sRet2 (i j : Nat) (e : En) (c : Cs) : R Fl := match e[i]?, e[j]? with
  | some (some t), some (some u) => if i = j then .stuck else .ok (.rt (mkTup [t, u])) c
  | _, _ => .stuck
section
variable {K : PySem.W.Frag} {mg : Str → Option Value} {W : WX} {ca : List Addr} {F F' H H' : Hp} {σ : L2.St} {e : En} {ws : List Addr} {cs cs' : Cs}
theorem rd_sRet2 {i j : Nat} {Dn : Ends} (h : rdS K mg W (sRet2 i j) Dn σ H) : tRet (tTup (tCons (tVar i) (tCons (tVar j) tNil))) Dn σ H := by
  obtain ⟨ca, F, e, ws, cs, st, po⟩ := h
  unfold sRet2 at po
  cases q1 : e[i]? with
  | none => rw [q1] at po; exact po.elim
  | some o1 =>
    cases o1 with
    | none => rw [q1] at po; exact po.elim
    | some t =>
      cases q2 : e[j]? with
      | none => rw [q1, q2] at po; exact po.elim
      | some o2 =>
        cases o2 with
        | none => rw [q1, q2] at po; exact po.elim
        | some u =>
          rw [q1, q2] at po
          by_cases ij : i = j
          · simp only [ij, if_true] at po; exact po.elim
          · simp only [ij, if_false] at po
            obtain ⟨y, pre, bs, post, h1, h2, h3, h4⟩ := Sl.drop st.sl j u q2
            obtain ⟨x, pre2, as, post2, g1, g2, g3, g4⟩ := Sl.drop h4 i t (by rw [List.getElem?_set_ne (Ne.symm ij)]; exact q1)
            have ma : ∀ a ∈ as, a ∈ pre ∨ a ∈ post := fun a m => List.mem_append.mp (by rw [g2]; simp [m])
            have nd := st.nd
            rw [h2] at nd
            have ok := Sl.ok st.sl
            have inA : ∀ a ∈ as, a ∈ ws := fun a m => by rw [h2]; rcases ma a m with m | m <;> simp [m]
            have inB : ∀ a ∈ bs, a ∈ ws := fun a m => by rw [h2]; simp [m]
            simp only [List.nodup_append, List.mem_append] at nd
            obtain ⟨⟨⟨n1, n2, n3⟩, n4, n5⟩, n6, n7⟩ := nd
            have npp : (pre ++ post).Nodup := List.nodup_append.mpr ⟨n1, n4, fun a ha b hb => n5 a (.inl ha) b hb⟩
            have na : as.Nodup := by
              rw [g2] at npp
              simp only [List.nodup_append] at npp
              exact npp.1.2.1
            have dx : OwnA K ca F H [x, y] [t, u] (as ++ (bs ++ [])) := .cons g3 (.cons h3 .nil)
            have ndx : (as ++ (bs ++ [])).Nodup := by
              rw [List.append_nil]
              refine List.nodup_append.mpr ⟨na, n2, fun a ha b hb => ?_⟩
              rcases ma a ha with m | m
              · exact n3 a m b hb
              · exact fun z => n5 b (.inr hb) a m z.symm
            have inAB : ∀ a ∈ as ++ (bs ++ []), a ∈ ws := fun a m => by
              rw [List.append_nil] at m
              rcases List.mem_append.mp m with m | m
              · exact inA a m
              · exact inB a m
            refine ⟨x, g1, y, h1, by simp [sizeLine_eq], fun p hp => ?_⟩
            have nn : Nxt ca F H (upd F p (.tup [x, y])) (upd H p (.tup [x, y])) := Nxt.new st.same hp
            have k : ∀ a ∈ as ++ (bs ++ []), upd H p (.tup [x, y]) a = H a ∧ upd F p (.tup [x, y]) a = none := fun a m => by
              obtain ⟨o1, xs, o2⟩ := ok a (inAB a m)
              have ne : a ≠ p := fun z => by rw [z, hp] at o2; cases o2
              exact ⟨upd_ne ne, by rw [upd_ne ne]; exact o1⟩
            refine po _ _ _ (as ++ (bs ++ [])) ⟨nn.f, fun a h => ?_, fun a o hc _ q => nn.k a o hc q, fun a h => nn.th a h⟩ nn.s (st.ce.new st.same hp) (own_mkTup upd_same (OwnA.fr nn.f _ _ _ k dx)) ndx
            rcases h with h | h
            · rcases nn.n a h with h | h
              · exact .inl h
              · exact .inr (.inr h)
            · exact .inr (.inl (inAB a h))
theorem ds_ret2 {X : Cx} {W : WX} (i j : Nat) {a b : Expr} {kk : Nat} {p pos : Pos} (h : PE X a (tVar i)) (h2 : PE X b (tVar j)) (hs : starEach [a, b] X.env = (false, eval a X.env) :: starEach [b] X.env := by rfl) (hs2 : starEach [b] X.env = (false, eval b X.env) :: starEach [] X.env := by rfl) : PS X (.Return (some (.Tuple [a, b] kk p)) pos) (rdS X.K X.mg W (sRet2 i j)) := (ps_ret (pe_tup (pa_cons h (pa_cons h2 pa_nil hs2) hs))).imp fun _ _ _ q => rd_sRet2 q
end
end Dg

set_option Elab.async false
set_option linter.all false
set_option maxRecDepth 100000
set_option maxHeartbeats 4000000
namespace Dg
open PySem PySem.Spec PyProof.Rows L2
/-! ### zip bound to one name: the tuple given out stays out -/
abbrev IsZipG (h : Heap) (z TI TO : Addr) (f0 : Value) (f1 : Bool) : Prop :=
  h.get? z = some { cls := .type "zip", dict := none, data := .fields #[f0, .bool f1, .bool false, .ref TI, .ref TO], slots := #[] }
def OwnZ (v : Value) : Prop := v = .none ∨ ∃ T : Nat, v = rawInt T
section
variable {prog : Program} {w : World} {A : Around} {E : Value → Shared → Prop} {s : Shared} {z TI TO i1 i2 : Addr} {fp1 fp2 : List Addr} {n1 n2 i : Nat} {P1 P2 : Nat → Value → Prop} {St1 St2 : Nat → Heap → Prop} {a1 a2 f0 : Value} {f1 : Bool}
theorem alive_any {a : Addr} {Q : Option Obj → Shared → Prop} (h : Q (s.heap.get? a) s) : wpAny (model prog w) A (loadIfAlive a) Q E s := by
  exact fun _ _ _ => h
theorem isfreeG {Q : Bool → Shared → Prop} (hz : IsZipG s.heap z TI TO f0 f1) (o : OwnZ f0) (h : ∀ b h' f1', IsZipG h' z TI TO f0 f1' → Heap.SameBut z s.heap h' → Q b { s with heap := h' }) : wpAny (model prog w) A (Builtin.SmallTypes.ownedTupleIsFree (.ref z)) Q E s := by
  unfold Builtin.SmallTypes.ownedTupleIsFree
  refine wpAny_bind (wpAny_field hz rfl (x := f0) rfl ?_)
  rcases o with rfl | ⟨T, rfl⟩
  · exact wpAny_pure (h true s.heap f1 hz (Heap.SameBut.refl _ _))
  · show wpAny _ _ (loadIfAlive ((T : Int).toNat) >>= _) _ _ _
    rw [Int.toNat_natCast]
    refine wpAny_bind (alive_any ?_)
    cases q : s.heap.get? T with
    | none =>
      simp only [Option.isNone_none, if_true]
      exact wpAny_pure (h true s.heap f1 hz (Heap.SameBut.refl _ _))
    | some oT =>
      simp only [Option.isNone_some, Bool.false_eq_true, if_false]
      refine wpAny_bind (wpAny_field hz rfl (x := .bool f1) rfl ?_)
      cases f1 with
      | true =>
        rw [if_neg (show ¬ ((Value.bool true != Value.bool true) = true) from Bool.false_ne_true)]
        exact wpAny_pure (h false s.heap true hz (Heap.SameBut.refl _ _))
      | false =>
        rw [if_pos (show (Value.bool false != Value.bool true) = true from rfl)]
        exact wpAny_bind (wpAny_setField_rec hz (by simp) fun h₁ hz₁ hs₁ => wpAny_pure (h false h₁ true hz₁ hs₁))
theorem zipG_next_item {Q : Value → Shared → Prop} (S : ZipSep2 z TI TO i1 i2 fp1 fp2) (D1 : Draws prog w A i1 fp1 n1 P1 St1) (D2 : Draws prog w A i2 fp2 n2 P2 St2)
    (hz : IsZipG s.heap z TI TO f0 f1) (ow : OwnZ f0) (hTI : IsTupOf2 s.heap TI (.ref i1) (.ref i2)) (hTO : IsTupOf2 s.heap TO a1 a2) (st1 : St1 i s.heap) (st2 : St2 i s.heap) (hlt1 : i < n1) (hlt2 : i < n2)
    (hQ : ∀ x1 x2 h' tk f0' f1', P1 i x1 → P2 i x2 → IsZipG h' z TI TO f0' f1' → OwnZ f0' → (∃ b1 b2, IsTupOf2 h' TO b1 b2) → St1 (i + 1) h' → St2 (i + 1) h' → IsTupOf2 h' s.heap.objs.size x1 x2 → h'.objs.size = s.heap.objs.size + 1 →
      (∀ c o, c ≠ z → c ≠ TO → c ≠ i1 → c ≠ i2 → s.heap.get? c = some o → h'.get? c = some o) → Q (.ref s.heap.objs.size) { s with heap := h', toks := tk }) :
    wpAny (model prog w) A (Builtin.«zip.__next__» ⟨[.ref z], []⟩) (fun fin s' => ∃ v, fin = .done (.ret v) ∧ Q v s') E s := by
  obtain ⟨hp, g, d, tk0, os⟩ := s
  show wpAny _ _ (field (.ref z) 2 >>= _) _ _ _
  refine wpAny_bind (wpAny_field hz rfl (x := .bool false) rfl ?_)
  show wpAny _ _ (field (.ref z) 3 >>= _) _ _ _
  refine wpAny_bind (wpAny_field hz rfl (x := .ref TI) rfl ?_)
  refine wpAny_bind (wpAny_seqItems hTI rfl ?_)
  show wpAny _ _ (Builtin.SmallTypes.ownedTupleIsFree (.ref z) >>= _) _ _ _
  refine wpAny_bind (isfreeG hz ow fun b hq f1q hzq hsq => ?_)
  replace hsq : Heap.SameBut z hp hq := hsq
  have hTOq : IsTupOf2 hq TO a1 a2 := hsq.extBut _ _ S.TOz hTO
  have st1q : St1 i hq := D1.over st1 hsq S.zf1
  have st2q : St2 i hq := D2.over st2 hsq S.zf2
  have hsz0 : hq.objs.size = hp.objs.size := hsq.1
  cases b with
  | true =>
    simp only [if_true]
    refine wpAny_bind (wpAny_rule ?_)
    refine wpAny_bind (wpAny_field hzq rfl (x := .ref TO) rfl ?_)
    refine wpAny_bind (wpAny_setField_rec hzq (by simp) fun g0 hz0 hs0 => ?_)
    replace hz0 : IsZipG g0 z TI TO .ellipsis f1q := hz0
    replace hs0 : Heap.SameBut z hq g0 := hs0
    refine wpAny_bind ?_
    simp only [List.zipIdx_cons, List.zipIdx_nil, List.forIn_cons, List.forIn_nil]
    refine wpAny_bind (wpAny_bind (wpAny_onRaise ?_))
    show wpAny _ _ (Builtin.SmallTypes.nextOf (.ref i1) >>= _) _ _ ⟨g0, g, d, tk0, os⟩
    refine wpAny_bind (D1.item i _ _ _ hlt1 (D1.over st1q hs0 S.zf1) fun x1 p1 tk1 hx1 sn1 hp1 => wpAny_pure ?_)
    replace hp1 : Heap.SameBut i1 g0 p1 := hp1
    have hU1 : IsTupOf2 p1 TO a1 a2 := hp1.extBut _ _ S.Ti1 (hs0.extBut _ _ S.TOz hTOq)
    refine wpAny_bind (wpAny_seqItems (s := ⟨p1, g, d, tk1, os⟩) hU1 rfl ?_)
    refine wpAny_bind (updateSeq_IsTupOf2 (s := ⟨p1, g, d, tk1, os⟩) hU1 fun g1 hT1 hs1 => ?_)
    replace hT1 : IsTupOf2 g1 TO x1 a2 := hT1
    replace hs1 : Heap.SameBut TO p1 g1 := hs1
    refine wpAny_bind (wpAny_letGo (wpAny_pure ?_))
    refine wpAny_bind (wpAny_bind (wpAny_onRaise ?_))
    show wpAny _ _ (Builtin.SmallTypes.nextOf (.ref i2) >>= _) _ _ ⟨g1, g, d, tk1, os⟩
    refine wpAny_bind (D2.item i _ _ _ hlt2 (D2.over (D2.over (D2.over st2q hs0 S.zf2) hp1 S.sep1_2) hs1 S.Tf2) fun x2 p2 tk2 hx2 sn2 hp2 => wpAny_pure ?_)
    replace hp2 : Heap.SameBut i2 g1 p2 := hp2
    have hU2 : IsTupOf2 p2 TO x1 a2 := hp2.extBut _ _ S.Ti2 hT1
    refine wpAny_bind (wpAny_seqItems (s := ⟨p2, g, d, tk2, os⟩) hU2 rfl ?_)
    refine wpAny_bind (updateSeq_IsTupOf2 (s := ⟨p2, g, d, tk2, os⟩) hU2 fun g2 hT2 hs2 => ?_)
    replace hT2 : IsTupOf2 g2 TO x1 x2 := hT2
    replace hs2 : Heap.SameBut TO p2 g2 := hs2
    refine wpAny_bind (wpAny_letGo (wpAny_pure (wpAny_pure ?_)))
    refine wpAny_bind (wpAny_seqItems (s := ⟨g2, g, d, tk2, os⟩) hT2 rfl ?_)
    refine wpAny_bind (wpAny_newTuple ?_)
    have hsz : g2.objs.size = hp.objs.size := by rw [hs2.1, hp2.1, hs1.1, hp1.1, hs0.1, hsz0]
    have hzz : IsZipG g2 z TI TO .ellipsis f1q := (hs2.extBut _ _ S.TOz.symm (hp2.extBut _ _ S.zi2 (hs1.extBut _ _ S.TOz.symm (hp1.extBut _ _ S.zi1 hz0))))
    have hkk : ∀ c o, c ≠ z → c ≠ TO → c ≠ i1 → c ≠ i2 → hp.get? c = some o → g2.get? c = some o := fun c o cz cT c1 c2 e =>
      (hs2.extBut _ _ cT (hp2.extBut _ _ c2 (hs1.extBut _ _ cT (hp1.extBut _ _ c1 (hs0.extBut _ _ cz (hsq.extBut _ _ cz e))))))
    have hj1 : St1 (i + 1) g2 := (D1.over (D1.over (D1.over sn1 hs1 S.Tf1) hp2 S.sep2_1) hs2 S.Tf1)
    have hj2 : St2 (i + 1) g2 := (D2.over sn2 hs2 S.Tf2)
    have hzlt : z < g2.objs.size := Heap.lt_size hzz
    show wpAny _ _ (Builtin.SmallTypes.ownedTupleHandOut (.ref z) (.ref g2.objs.size) >>= _) _ _ ⟨g2.push { cls := .type "tuple", data := .seq #[x1, x2] }, g, d, tk2, os⟩
    refine wpAny_bind ?_
    unfold Builtin.SmallTypes.ownedTupleHandOut
    have hz₆ : IsZipG (g2.push { cls := .type "tuple", data := .seq #[x1, x2] }) z TI TO .ellipsis f1q := Heap.get?_push_of_some _ hzz
    refine wpAny_bind (wpAny_setField_rec hz₆ (by simp) fun h₇ hz₇ hs₇ => ?_)
    replace hz₇ : IsZipG h₇ z TI TO (rawInt g2.objs.size) f1q := hz₇
    refine wpAny_setField_rec hz₇ (by simp) fun h₈ hz₈ hs₈ => ?_
    replace hz₈ : IsZipG h₈ z TI TO (rawInt g2.objs.size) false := hz₈
    replace hs₇ : Heap.SameBut z (g2.push { cls := .type "tuple", data := .seq #[x1, x2] }) h₇ := hs₇
    replace hs₈ : Heap.SameBut z h₇ h₈ := hs₈
    have up : ∀ c o, c ≠ z → g2.get? c = some o → h₈.get? c = some o := fun c o c1 e => hs₈.extBut _ _ c1 (hs₇.extBut _ _ c1 (Heap.get?_push_of_some _ e))
    have hT₈ : IsTupOf2 h₈ g2.objs.size x1 x2 := hs₈.extBut _ _ (Nat.ne_of_gt hzlt) (hs₇.extBut _ _ (Nat.ne_of_gt hzlt) (Heap.get?_push_size _ rfl))
    have hz8 : h₈.objs.size = g2.objs.size + 1 := by rw [hs₈.1, hs₇.1, Heap.size_push]
    rw [hsz] at hz₈ hT₈ hz8
    refine wpAny_pure ⟨_, rfl, ?_⟩
    show Q (.ref g2.objs.size) ⟨h₈, g, d, tk2, os⟩
    rw [hsz]
    exact hQ x1 x2 h₈ tk2 _ _ hx1 hx2 hz₈ (.inr ⟨_, rfl⟩) ⟨_, _, up _ _ S.TOz hT2⟩ (D1.frame _ _ _ hj1 fun b hb o e => up b o (fun q => S.zf1 (q ▸ hb)) e) (D2.frame _ _ _ hj2 fun b hb o e => up b o (fun q => S.zf2 (q ▸ hb)) e) hT₈ hz8 fun c o cz cT c1 c2 e => up c o cz (hkk c o cz cT c1 c2 e)
  | false =>
    simp only [Bool.false_eq_true, if_false]
    refine wpAny_bind ?_
    rw [← Array.forIn_toList]
    simp only [List.forIn_cons, List.forIn_nil]
    refine wpAny_bind (wpAny_bind (wpAny_holding ?_))
    show wpAny _ _ (Builtin.SmallTypes.nextOf (.ref i1) >>= _) _ _ ⟨hq, g, d, tk0, os⟩
    refine wpAny_bind (D1.item i _ _ _ hlt1 st1q fun x1 p1 tk1 hx1 sn1 hp1 => wpAny_pure ?_)
    replace hp1 : Heap.SameBut i1 hq p1 := hp1
    refine wpAny_pure ?_
    refine wpAny_bind (wpAny_bind (wpAny_holding ?_))
    show wpAny _ _ (Builtin.SmallTypes.nextOf (.ref i2) >>= _) _ _ ⟨p1, g, d, tk1, os⟩
    refine wpAny_bind (D2.item i _ _ _ hlt2 (D2.over st2q hp1 S.sep1_2) fun x2 p2 tk2 hx2 sn2 hp2 => wpAny_pure ?_)
    replace hp2 : Heap.SameBut i2 p1 p2 := hp2
    refine wpAny_pure (wpAny_pure ?_)
    show wpAny _ _ (newTuple [x1, x2] >>= _) _ _ _
    refine wpAny_bind (wpAny_newTuple ?_)
    have hsz : p2.objs.size = hp.objs.size := by rw [hp2.1, hp1.1, hsz0]
    have hzz : IsZipG p2 z TI TO f0 f1q := hp2.extBut _ _ S.zi2 (hp1.extBut _ _ S.zi1 hzq)
    have hTOz : IsTupOf2 p2 TO a1 a2 := hp2.extBut _ _ S.Ti2 (hp1.extBut _ _ S.Ti1 hTOq)
    have hk : ∀ c o, c ≠ z → c ≠ i1 → c ≠ i2 → hp.get? c = some o → p2.get? c = some o := fun c o c1 c2 c3 e => hp2.extBut _ _ c3 (hp1.extBut _ _ c2 (hsq.extBut _ _ c1 e))
    have hj1 : St1 (i + 1) p2 := D1.over sn1 hp2 S.sep2_1
    refine wpAny_pure ⟨_, rfl, ?_⟩
    show Q (.ref p2.objs.size) ⟨p2.push { cls := .type "tuple", data := .seq #[x1, x2] }, g, d, tk2, os⟩
    have hpp : IsTupOf2 (p2.push { cls := .type "tuple", data := .seq #[x1, x2] }) p2.objs.size x1 x2 := Heap.get?_push_size _ rfl
    have hz4 : (p2.push { cls := .type "tuple", data := .seq #[x1, x2] }).objs.size = p2.objs.size + 1 := Heap.size_push ..
    rw [hsz] at hpp hz4 ⊢
    exact hQ x1 x2 _ tk2 _ _ hx1 hx2 (Heap.get?_push_of_some _ hzz) ow ⟨_, _, Heap.get?_push_of_some _ hTOz⟩ (D1.frame _ _ _ hj1 fun b hb o e => Heap.get?_push_of_some _ e) (D2.frame _ _ _ sn2 fun b hb o e => Heap.get?_push_of_some _ e) hpp hz4 fun c o cz cT c1 c2 e => Heap.get?_push_of_some _ (hk c o cz c1 c2 e)
theorem zipG_next_end {Q : Fin → Shared → Prop} (S : ZipSep2 z TI TO i1 i2 fp1 fp2) (D1 : Draws prog w A i1 fp1 n1 P1 St1) (D2 : Draws prog w A i2 fp2 n2 P2 St2)
    (hz : IsZipG s.heap z TI TO f0 f1) (ow : OwnZ f0) (hTI : IsTupOf2 s.heap TI (.ref i1) (.ref i2)) (hTO : IsTupOf2 s.heap TO a1 a2) (st1 : St1 i s.heap) (st2 : St2 i s.heap) (hle1 : i ≤ n1) (hle2 : i ≤ n2) (hend : i = n1 ∨ i = n2)
    (hE : ∀ h' tk e, (∀ c o, c ≠ z → c ≠ TO → c ≠ i1 → c ≠ i2 → s.heap.get? c = some o → h'.get? c = some o) → (∃ o, h'.get? e = some o ∧ o.cls = .type "StopIteration") → E (.ref e) { s with heap := h', toks := tk }) :
    wpAny (model prog w) A (Builtin.«zip.__next__» ⟨[.ref z], []⟩) Q E s := by
  obtain ⟨hp, g, d, tk0, os⟩ := s
  show wpAny _ _ (field (.ref z) 2 >>= _) _ _ _
  refine wpAny_bind (wpAny_field hz rfl (x := .bool false) rfl ?_)
  show wpAny _ _ (field (.ref z) 3 >>= _) _ _ _
  refine wpAny_bind (wpAny_field hz rfl (x := .ref TI) rfl ?_)
  refine wpAny_bind (wpAny_seqItems hTI rfl ?_)
  show wpAny _ _ (Builtin.SmallTypes.ownedTupleIsFree (.ref z) >>= _) _ _ _
  refine wpAny_bind (isfreeG hz ow fun b hq f1q hzq hsq => ?_)
  replace hsq : Heap.SameBut z hp hq := hsq
  have hTOq : IsTupOf2 hq TO a1 a2 := hsq.extBut _ _ S.TOz hTO
  have st1q : St1 i hq := D1.over st1 hsq S.zf1
  have st2q : St2 i hq := D2.over st2 hsq S.zf2
  cases b with
  | true =>
    simp only [if_true]
    refine wpAny_bind (wpAny_rule ?_)
    refine wpAny_bind (wpAny_field hzq rfl (x := .ref TO) rfl ?_)
    refine wpAny_bind (wpAny_setField_rec hzq (by simp) fun g0 hz0 hs0 => ?_)
    replace hz0 : IsZipG g0 z TI TO .ellipsis f1q := hz0
    replace hs0 : Heap.SameBut z hq g0 := hs0
    refine wpAny_bind ?_
    simp only [List.zipIdx_cons, List.zipIdx_nil, List.forIn_cons, List.forIn_nil]
    refine wpAny_bind (wpAny_bind (wpAny_onRaise ?_))
    show wpAny _ _ (Builtin.SmallTypes.nextOf (.ref i1) >>= _) _ _ ⟨g0, g, d, tk0, os⟩
    by_cases hlt1 : i < n1
    · refine wpAny_bind (D1.item i _ _ _ hlt1 (D1.over st1q hs0 S.zf1) fun x1 p1 tk1 hx1 sn1 hp1 => wpAny_pure ?_)
      replace hp1 : Heap.SameBut i1 g0 p1 := hp1
      have hU1 : IsTupOf2 p1 TO a1 a2 := hp1.extBut _ _ S.Ti1 (hs0.extBut _ _ S.TOz hTOq)
      refine wpAny_bind (wpAny_seqItems (s := ⟨p1, g, d, tk1, os⟩) hU1 rfl ?_)
      refine wpAny_bind (updateSeq_IsTupOf2 (s := ⟨p1, g, d, tk1, os⟩) hU1 fun g1 hT1 hs1 => ?_)
      replace hT1 : IsTupOf2 g1 TO x1 a2 := hT1
      replace hs1 : Heap.SameBut TO p1 g1 := hs1
      refine wpAny_bind (wpAny_letGo (wpAny_pure ?_))
      have hi2 : i = n2 := by omega
      refine wpAny_bind (wpAny_bind (wpAny_onRaise ?_))
      show wpAny _ _ (Builtin.SmallTypes.nextOf (.ref i2) >>= _) _ _ ⟨g1, g, d, tk1, os⟩
      refine wpAny_bind (D2.done ⟨g1, g, d, tk1, os⟩ _ _ (by rw [← hi2]; exact (D2.over (D2.over (D2.over st2q hs0 S.zf2) hp1 S.sep1_2) hs1 S.Tf2)) fun q e hq2 he => ?_)
      replace hq2 : Heap.ExtBut i2 g1 q := hq2
      obtain ⟨oe, hoe, hce⟩ := he
      replace hoe : q.get? e = some oe := hoe
      have hzz : IsZipG q z TI TO .ellipsis f1q := hq2 _ _ S.zi2 (hs1.extBut _ _ S.TOz.symm (hp1.extBut _ _ S.zi1 hz0))
      have hez : e ≠ z := fun x => by subst x; rw [hzz] at hoe; cases hoe; simp at hce
      refine wpAny_setField_rec (s := ⟨q, g, d, tk1, os⟩) hzz (by simp) fun q' _ hq' => ?_
      replace hq' : Heap.SameBut z q q' := hq'
      exact hE q' tk1 e (fun c o cz cT c1 c2 x => hq'.extBut _ _ cz (hq2 _ _ c2 (hs1.extBut _ _ cT (hp1.extBut _ _ c1 (hs0.extBut _ _ cz (hsq.extBut _ _ cz x)))))) ⟨oe, hq'.extBut _ _ hez hoe, hce⟩
    · have hi1 : i = n1 := by omega
      refine wpAny_bind (D1.done ⟨g0, g, d, tk0, os⟩ _ _ (by rw [← hi1]; exact (D1.over st1q hs0 S.zf1)) fun q e hq2 he => ?_)
      replace hq2 : Heap.ExtBut i1 g0 q := hq2
      obtain ⟨oe, hoe, hce⟩ := he
      replace hoe : q.get? e = some oe := hoe
      have hzz : IsZipG q z TI TO .ellipsis f1q := hq2 _ _ S.zi1 hz0
      have hez : e ≠ z := fun x => by subst x; rw [hzz] at hoe; cases hoe; simp at hce
      refine wpAny_setField_rec (s := ⟨q, g, d, tk0, os⟩) hzz (by simp) fun q' _ hq' => ?_
      replace hq' : Heap.SameBut z q q' := hq'
      exact hE q' tk0 e (fun c o cz cT c1 c2 x => hq'.extBut _ _ cz (hq2 _ _ c1 (hs0.extBut _ _ cz (hsq.extBut _ _ cz x)))) ⟨oe, hq'.extBut _ _ hez hoe, hce⟩
  | false =>
    simp only [Bool.false_eq_true, if_false]
    refine wpAny_bind ?_
    rw [← Array.forIn_toList]
    simp only [List.forIn_cons, List.forIn_nil]
    refine wpAny_bind (wpAny_bind (wpAny_holding ?_))
    show wpAny _ _ (Builtin.SmallTypes.nextOf (.ref i1) >>= _) _ _ ⟨hq, g, d, tk0, os⟩
    by_cases hlt1 : i < n1
    · refine wpAny_bind (D1.item i _ _ _ hlt1 st1q fun x1 p1 tk1 hx1 sn1 hp1 => wpAny_pure ?_)
      replace hp1 : Heap.SameBut i1 hq p1 := hp1
      refine wpAny_pure ?_
      have hi2 : i = n2 := by omega
      refine wpAny_bind (wpAny_bind (wpAny_holding ?_))
      show wpAny _ _ (Builtin.SmallTypes.nextOf (.ref i2) >>= _) _ _ ⟨p1, g, d, tk1, os⟩
      refine wpAny_bind (D2.done ⟨p1, g, d, tk1, os⟩ _ _ (by rw [← hi2]; exact D2.over st2q hp1 S.sep1_2) fun q e hq2 he => ?_)
      replace hq2 : Heap.ExtBut i2 p1 q := hq2
      exact hE q tk1 e (fun c o cz cT c1 c2 x => hq2 _ _ c2 (hp1.extBut _ _ c1 (hsq.extBut _ _ cz x))) he
    · have hi1 : i = n1 := by omega
      refine wpAny_bind (D1.done ⟨hq, g, d, tk0, os⟩ _ _ (by rw [← hi1]; exact st1q) fun q e hq2 he => ?_)
      replace hq2 : Heap.ExtBut i1 hq q := hq2
      exact hE q tk0 e (fun c o cz cT c1 c2 x => hq2 _ _ c1 (hsq.extBut _ _ cz x)) he
theorem pyNext_zipG_item {Q : Option Value → Shared → Prop} (S : ZipSep2 z TI TO i1 i2 fp1 fp2) (D1 : Draws prog w A.in1 i1 fp1 n1 P1 St1) (D2 : Draws prog w A.in1 i2 fp2 n2 P2 St2)
    (hz : IsZipG s.heap z TI TO f0 f1) (ow : OwnZ f0) (hTI : IsTupOf2 s.heap TI (.ref i1) (.ref i2)) (hTO : IsTupOf2 s.heap TO a1 a2) (st1 : St1 i s.heap) (st2 : St2 i s.heap) (hlt1 : i < n1) (hlt2 : i < n2)
    (hQ : ∀ x1 x2 h' tk f0' f1', P1 i x1 → P2 i x2 → IsZipG h' z TI TO f0' f1' → OwnZ f0' → (∃ b1 b2, IsTupOf2 h' TO b1 b2) → St1 (i + 1) h' → St2 (i + 1) h' → IsTupOf2 h' s.heap.objs.size x1 x2 → h'.objs.size = s.heap.objs.size + 1 →
      (∀ c o, c ≠ z → c ≠ TO → c ≠ i1 → c ≠ i2 → s.heap.get? c = some o → h'.get? c = some o) → Q (some (.ref s.heap.objs.size)) { s with heap := h', toks := tk }) :
    wpAny (model prog w) A (pyNext (.ref z)) Q E s := by
  have hT : s.TypeIs (.ref z) "zip" := ⟨_, hz, rfl⟩
  unfold pyNext
  exact wpAny_bind (wpAny_attempt (wpAny_callSpecial?_slot (name := Str.ofString "__next__") hT PySem.F.slot_zip_next
    (wpAny_call_entry PySem.F.slot_zip_next hT PySem.F.entry_zip_next
      (zipG_next_item S D1 D2 hz ow hTI hTO st1 st2 hlt1 hlt2 fun x1 x2 h' tk f0' f1' y1 y2 b1 b1' b2 d1 d2 b5 b6 b7 => wpAny_pure (hQ x1 x2 h' tk f0' f1' y1 y2 b1 b1' b2 d1 d2 b5 b6 b7)) (PySem.F.args_zip_next_1 _))))
theorem pyNext_zipG_end {Q : Option Value → Shared → Prop} (S : ZipSep2 z TI TO i1 i2 fp1 fp2) (D1 : Draws prog w A.in1 i1 fp1 n1 P1 St1) (D2 : Draws prog w A.in1 i2 fp2 n2 P2 St2)
    (hz : IsZipG s.heap z TI TO f0 f1) (ow : OwnZ f0) (hTI : IsTupOf2 s.heap TI (.ref i1) (.ref i2)) (hTO : IsTupOf2 s.heap TO a1 a2) (st1 : St1 i s.heap) (st2 : St2 i s.heap) (hle1 : i ≤ n1) (hle2 : i ≤ n2) (hend : i = n1 ∨ i = n2)
    (hQ : ∀ h' tk, (∀ c o, c ≠ z → c ≠ TO → c ≠ i1 → c ≠ i2 → s.heap.get? c = some o → h'.get? c = some o) → Q none { s with heap := h', toks := tk }) : wpAny (model prog w) A (pyNext (.ref z)) Q E s := by
  have hT : s.TypeIs (.ref z) "zip" := ⟨_, hz, rfl⟩
  unfold pyNext
  refine wpAny_bind (wpAny_attempt (wpAny_callSpecial?_slot (name := Str.ofString "__next__") hT PySem.F.slot_zip_next
    (wpAny_call_entry PySem.F.slot_zip_next hT PySem.F.entry_zip_next (zipG_next_end S D1 D2 hz ow hTI hTO st1 st2 hle1 hle2 hend fun h' tk e hk he => ?_) (PySem.F.args_zip_next_1 _))))
  obtain ⟨o, ho, hc⟩ := he
  refine wpAny_bind (wpAny_isInstance (T := "StopIteration") (b := true) ⟨o, ho, hc⟩ isSubtype_stop ?_)
  exact wpAny_pure (hQ _ _ hk)
end
def ZSt1 (ta tb : Bool) (a b z TI TO i1 i2 : Addr) (i : Nat) (h : Heap) : Prop :=
  (∃ f0 f1, IsZipG h z TI TO f0 f1 ∧ OwnZ f0) ∧ IsTupOf2 h TI (.ref i1) (.ref i2) ∧ (∃ x y, IsTupOf2 h TO x y) ∧ ItrB h ta i1 a i ∧ ItrB h tb i2 b i
theorem turn_zip1 {P : Program} {w : World} {K : PySem.W.Frag} {nm : Str} {tpos : Pos} {ta tb : Bool} {a b z TI TO i1 i2 : Addr} (S : ZipSep2 z TI TO i1 i2 [i1, a] [i2, b]) (na : a ≠ i1) (nb : b ≠ i2) :
    Turn P w K (.Name nm tpos) (ItzB K ta tb a b) [z, TI, TO, i1, i2] z (ZSt1 ta tb a b z TI TO i1 i2) where
  mem := List.mem_cons_self
  obj := fun i h st c hc => by
    obtain ⟨⟨_, _, q1, _⟩, q2, ⟨x, y, q3⟩, q4, q5⟩ := st
    simp only [List.mem_cons, List.not_mem_nil, or_false] at hc
    rcases hc with rfl | rfl | rfl | rfl | rfl
    · exact ⟨_, q1, nofun⟩
    · exact ⟨_, q2, nofun⟩
    · exact ⟨_, q3, nofun⟩
    · exact q4.obj
    · exact q5.obj
  keep := fun i h h' st k => by
    obtain ⟨⟨f0, f1, q1, ow⟩, q2, ⟨x, y, q3⟩, q4, q5⟩ := st
    exact ⟨⟨f0, f1, k z (by simp) _ q1, ow⟩, k TI (by simp) _ q2, ⟨x, y, k TO (by simp) _ q3⟩, q4.keep (k i1 (by simp)), q5.keep (k i2 (by simp))⟩
  item := by
    intro X hP hw hK hc i pins s σ H E I hf st hg
    subst hP hw hK
    obtain ⟨⟨f0, f1, q1, ow⟩, q2, ⟨u1, u2, q3⟩, q4, q5⟩ := st
    obtain ⟨xs, ys, hx, hy, lx, ly⟩ := hg
    obtain ⟨us, ru, su, _⟩ := inv_sqB I hx
    obtain ⟨ws, rw', sw, _⟩ := inv_sqB I hy
    have hh := I.ok.hd hc
    have l1 := ru.length
    have l2 := rw'.length
    refine pyNext_zipG_item (A := X.A) S (drawsB (A := X.A.in1) hh ta i1 a na us.toArray) (drawsB (A := X.A.in1) hh tb i2 b nb ws.toArray) q1 ow q2 q3 ⟨q4, su⟩ ⟨q5, sw⟩ (by simp only [List.size_toArray]; omega) (by simp only [List.size_toArray]; omega) fun v1 v2 h2 tk g0 g1 p1 p2 z1 zo z3 z4 z5 gT hsz k2 => ⟨_, rfl, wpAny_pure ?_⟩
    obtain ⟨x, ex⟩ : ∃ x, xs[i]? = some x := ⟨xs[i], List.getElem?_eq_getElem lx⟩
    obtain ⟨y, ey⟩ : ∃ y, ys[i]? = some y := ⟨ys[i], List.getElem?_eq_getElem ly⟩
    obtain ⟨v1', e1, r1⟩ := ru.get ex
    obtain ⟨v2', e2, r2⟩ := rw'.get ey
    have e1' : us.toArray[i]? = some v1' := by simpa using e1
    have e2' : ws.toArray[i]? = some v2' := by simpa using e2
    rw [e1'] at p1; cases p1
    rw [e2'] at p2; cases p2
    have hT : s.heap.objs.size ≤ s.heap.objs.size := Nat.le_refl _
    have new : ObjOk X.prog X.w (upd H s.heap.objs.size (.tup [x, y])) h2 s.heap.objs.size (.tup [x, y]) := ⟨by show 2 ≤ sizeLine; decide, [v1, v2], .cons r1 (.cons r2 .nil), _, gT, rfl, _, rfl⟩
    have I1 : Inv X pins σ (upd H s.heap.objs.size (.tup [x, y])) { s with heap := h2, toks := tk } :=
      I.turnedNew (t' := tk) (ch := [z, TI, TO, i1, i2]) (fun c o hb q => k2 c o (fun m => hb (by simp [m])) (fun m => hb (by simp [m])) (fun m => hb (by simp [m])) (fun m => hb (by simp [m])) q) hf hT new
    refine ⟨.ref s.heap.objs.size, _, I1, rfl, ⟨s.heap.objs.size, x, y, rfl, I.hok.fresh hT, rfl, fun l hl => by rw [sqB_inj I hl hx]; exact ex, fun l hl => by rw [sqB_inj I hl hy]; exact ey⟩, ⟨⟨g0, g1, z1, zo⟩, k2 _ _ S.TIz S.TITO S.TIi1 S.TIi2 q2, z3, z4.1, z5.1⟩, fun c hcm => ?_⟩
    have hlt : c < s.heap.objs.size := by
      have ob : ∃ o, s.heap.get? c = some o := by
        simp only [List.mem_cons, List.not_mem_nil, or_false] at hcm
        rcases hcm with rfl | rfl | rfl | rfl | rfl
        · exact ⟨_, q1⟩
        · exact ⟨_, q2⟩
        · exact ⟨_, q3⟩
        · obtain ⟨o, e, _⟩ := q4.obj; exact ⟨o, e⟩
        · obtain ⟨o, e, _⟩ := q5.obj; exact ⟨o, e⟩
      obtain ⟨o, e⟩ := ob
      exact Heap.lt_size e
    rw [upd_ne (Nat.ne_of_lt hlt)]
    exact (hf c hcm).1
  done := by
    intro X hP hw hK hc i pins s σ H E I hf st hg
    subst hP hw hK
    obtain ⟨⟨f0, f1, q1, ow⟩, q2, ⟨u1, u2, q3⟩, q4, q5⟩ := st
    obtain ⟨xs, ys, hx, hy, hi⟩ := hg
    obtain ⟨us, ru, su, _⟩ := inv_sqB I hx
    obtain ⟨ws, rw', sw, _⟩ := inv_sqB I hy
    have hh := I.ok.hd hc
    have l1 := ru.length
    have l2 := rw'.length
    refine pyNext_zipG_end (A := X.A) (i := i) S (drawsB (A := X.A.in1) hh ta i1 a na us.toArray) (drawsB (A := X.A.in1) hh tb i2 b nb ws.toArray) q1 ow q2 q3 ⟨q4, su⟩ ⟨q5, sw⟩ (by simp only [List.size_toArray]; omega) (by simp only [List.size_toArray]; omega) (by simp only [List.size_toArray]; omega) fun h1 tk k1 => ⟨rfl, I.turnedL (t' := tk) (ch := [z, TI, TO, i1, i2]) (fun c o hb q => k1 c o (fun m => hb (by simp [m])) (fun m => hb (by simp [m])) (fun m => hb (by simp [m])) (fun m => hb (by simp [m])) q) hf⟩
  self := fun A i s Q E st h => by
    obtain ⟨⟨f0, f1, q1, _⟩, _⟩ := st
    have hT : s.TypeIs (.ref z) "zip" := ⟨_, q1, rfl⟩
    refine wpAny_pyIter_slot hT PySem.F.slot_zip_iter (wpAny_call_entry PySem.F.slot_zip_iter hT PySem.F.entry_zip_iter ?_ (PySem.F.args_zip_iter_1 _))
    show wpAny _ _ (ret (.ref z)) _ _ s
    exact wpAny_pure ⟨_, rfl, "zip", _, hT, PySem.F.slot_zip_next.lookup, h⟩
theorem pi_zip1 {X : Cx} {e e2 : Expr} {te : TA} {p pos tpos : Pos} {nm : Str} (hg : Gl X "zip") (hm : X.mg "zip" = none) (ha : PA X [e, e2] te)
    (hs : starEach [e, e2] X.env = (false, eval e X.env) :: starEach [e2] X.env := by rfl) (hpl : (backTo pos (starEach [e2] X.env)).any (·.1) = false := by rfl) :
    PI X (.Name nm tpos) (.Call (.Name "zip" p) [e, e2] [] pos) (iZipB X.K te) := by
  constructor
  intro pins s σ H R I h
  refine Call_ (ld_blt I hg hm PyProof.Rows.boot_zip (PyProof.Rows.callWith_type1 (thn (ha.run pos pins s σ H _ I h) fun us s1 ⟨vs, H1, I1, r1, q1⟩ => ?_) hs hpl))
  obtain ⟨ta, tb, a, b, xs, ys, rfl, qa, qb, q⟩ := q1
  obtain ⟨u1, u2, rfl, ra, rb⟩ := vals2 r1
  · cases ra
    cases rb
    obtain ⟨us, ru, su, oa, ea⟩ := inv_sqB I1 qa
    obtain ⟨ws, rw', sw, ob, eb⟩ := inv_sqB I1 qb
    have la := Heap.lt_size ea
    have lb := Heap.lt_size eb
    refine zip_begins2 (beginsB ta a us.toArray) (beginsB tb b ws.toArray) su sw fun h1 g1 g2 g3 g4 g5 _ k1 => wpAny_pyIter_zip g1 ?_
    have I2 : Inv X pins σ H1 { s1 with heap := h1 } := I1.kept (t' := s1.toks) k1
    refine ⟨s1.heap.objs.size + 4, [s1.heap.objs.size + 4, s1.heap.objs.size + 2, s1.heap.objs.size + 3, s1.heap.objs.size, s1.heap.objs.size + 1], _, _, H1, rfl, I2,
      turn_zip1 (ta := ta) (tb := tb) (zip_sep2 (fp1 := [a]) (fp2 := [b]) (fun c m => by rw [List.mem_singleton.mp m]; exact la) (fun c m => by rw [List.mem_singleton.mp m]; exact lb)) (Nat.ne_of_lt la) (Nat.ne_of_lt (Nat.lt_succ_of_lt lb)),
      ⟨⟨_, _, g1, .inl rfl⟩, g2, ⟨_, _, g3⟩, itrB_new g4, itrB_new g5⟩, fun c m => ?_, q⟩
    have hle : s1.heap.objs.size ≤ c := by
      simp only [List.mem_cons, List.not_mem_nil, or_false] at m
      rcases m with rfl | rfl | rfl | rfl | rfl
      · exact Nat.le_add_right _ _
      · exact Nat.le_add_right _ _
      · exact Nat.le_add_right _ _
      · exact Nat.le_refl _
      · exact Nat.le_add_right _ _
    exact I1.fpOk hle (I1.hok.fresh hle)
section
variable {K : PySem.W.Frag} {mg : Str → Option Value} {W : WX} {ca : List Addr} {F F' H H' : Hp} {σ : L2.St} {e : En} {ws : List Addr} {cs cs' : Cs}
theorem di_zip1 {X : Cx} {W : WX} {f g : MO} {a b : Expr} {p pos tpos : Pos} {nm : Str} (hg : Gl X "zip") (hm : X.mg "zip" = none) (h : PA X [a, b] (rdOA X.K X.mg W (evO [f, g])))
    (hs : starEach [a, b] X.env = (false, eval a X.env) :: starEach [b] X.env := by rfl) (hpl : (backTo pos (starEach [b] X.env)).any (·.1) = false := by rfl) :
    PI X (.Name nm tpos) (.Call (.Name "zip" p) [a, b] [] pos) (rdI X.K X.mg W (itZipB f g)) :=
  PI.imp (pi_zip1 hg hm h hs hpl) fun σ H Q h => by
    obtain ⟨ca, F, e, ws, cs, st, po⟩ := h
    refine rdOA_from (ws := ws) kindI (Nxt.refl st.same) st po fun ts c1 F1 H1 v as q nx _ st1 dx n f1 po1 => ?_
    obtain ⟨n2, ce2, dd⟩ := heldA st.ce nx st1.ce dx f1
    have hl := evO_len q
    match ts, hl with
    | [t, u], _ =>
      simp only [T.dA] at dd
      obtain ⟨v1, v2, rfl, d1, d2⟩ := dd.two
      simp only at po1
      cases q1 : Dg.seqB t.d with
      | none => simp only [zipB, q1] at po1; exact po1.elim
      | some x =>
        obtain ⟨ta, xs⟩ := x
        cases q2 : Dg.seqB u.d with
        | none => simp only [zipB, q1, q2] at po1; exact po1.elim
        | some y =>
          obtain ⟨tb, ys⟩ := y
          simp only [zipB, q1, q2] at po1
          obtain ⟨a, vs, rfl, s1, e1⟩ := Dd.seqB d1 q1
          obtain ⟨b, us, rfl, s2, e2⟩ := Dd.seqB d2 q2
          exact ⟨ta, tb, a, b, vs, us, rfl, Same.sqB n2.s s1, Same.sqB n2.s s2, po1 _ H1 _ n2 ce2 (itD_zipB s1 s2 e1 e2)⟩
end
end Dg

set_option Elab.async false
set_option linter.all false
set_option maxRecDepth 100000
set_option maxHeartbeats 4000000
namespace Dg
open PySem PySem.Spec PyProof.Rows L2
/-! ### a, b, c = a held list -/
def gLst (K : PySem.W.Frag) (n : Nat) (t : TGs) : TG := fun v σ H Q => ∃ a xs, v = .ref a ∧ SqL K H a xs ∧ xs.length = n ∧ t xs σ H Q
theorem pg_lst {X : Cx} {pos : Pos} {es : List Expr} {k : Nat} {t : TGs} {n : Nat} (hc : X.calm = true) (h : PGs X es t)
    (hn : (assignEach es X.env).length = n := by rfl) (hst : (assignEach es X.env).findIdx? (·.1) = none := by rfl) : PG X (.Tuple es k pos) (gLst X.K n t) := by
  refine ⟨fun pins s σ H v u Q I r hw => ?_⟩
  obtain ⟨a, xs, e1, hq, hl, hw⟩ := hw
  subst e1
  cases r
  obtain ⟨its, rv, ht, hz⟩ := I.list hq
  rw [assign_Tuple]
  refine wpAny_bind (wpAny_standAt ?_)
  unfold unpack
  have hs : (assignEach es X.env).length = its.toArray.size := by simp [hn, ← hl, rv.length]
  rw [hs, hst]
  refine wpAny_bind (wpAny_holding (PySem.W.kun_itemsOf (I.ok.hd hc) ht.isList fun h' hx => ?_))
  have I1 : Inv X pins σ H { s with heap := h' } := I.kept (t' := s.toks) fun b o e => hx b o (Nat.ne_of_lt (Heap.lt_size e)) e
  exact h.run pins _ σ H xs _ Q I1 (by simpa using rv) hw
def lparts : T → Option (List T)
  | .v (.lst ds) => some (ds.map T.v)
  | _ => none
@[simp] theorem lparts_l (ds : List D) : lparts (.v (.lst ds)) = some (ds.map T.v) := rfl
@[simp] def sUnpL (is : List Nat) (f : MO) (e : En) (c : Cs) : R Fl := (f e c).toS e fun t c => match lparts t with
  | some ts => if ts.length = is.length then .ok (.nx (setM is ts e)) c else .stuck
  | none => .stuck
section
variable {K : PySem.W.Frag} {mg : Str → Option Value} {W : WX} {ca : List Addr} {F F' H H' : Hp} {σ : L2.St} {e : En} {ws : List Addr} {cs cs' : Cs}
theorem Same.sql {a : Addr} {xs : List V} (e : Same F F') (h : SqL K F a xs) : SqL K F' a xs := by
  rcases h with (h | ⟨o, h⟩) | h
  · exact .inl (.inl (e _ _ h))
  · exact .inl (.inr ⟨o, e _ _ h⟩)
  · exact .inr h
theorem own_lparts {v : V} {t : T} {ts : List T} {as : List Addr} (h : Own K ca F H v t as) (q : lparts t = some ts) : ∃ a xs, v = .ref a ∧ SqL K F a xs ∧ OwnA K ca F H xs ts as := by
  cases h with
  | v h1 =>
    rename_i d
    cases d with
    | lst ds =>
      cases q
      obtain ⟨a, xs, rfl, s, dd⟩ := h1.li rfl
      exact ⟨a, xs, rfl, s, OwnA.vs dd⟩
    | _ => cases q
  | l _ _ _ => cases q
  | t h1 h2 => cases q
theorem rd_sUnpL {is : List Nat} {f : MO} {Dn : Ends} (h : rdS K mg W (sUnpL is f) Dn σ H) : tAsg (rdO K mg W f) (gLst K is.length (gNames is)) Dn σ H := by
  obtain ⟨ca, F, e, ws, cs, st, po⟩ := h
  refine toS_O st po fun t c1 F1 H1 v as nx st1 dx n f1 fr po1 => ?_
  cases q : lparts t with
  | none => rw [q] at po1; exact po1.elim
  | some ts =>
    rw [q] at po1
    simp only at po1
    split at po1
    · rename_i hl
      obtain ⟨a, xs, rfl, s, o⟩ := own_lparts dx q
      refine ⟨a, xs, rfl, Same.sql st1.same s, by rw [OwnA.length o, hl], ?_⟩
      refine rd_names st1 o n fr hl fun σ' ws' st2 hw _ => po1 F1 H1 σ' ws' ⟨nx.f, fun a h => ?_, fun a o h _ q => nx.k a o h q, nx.th⟩ st2
      rcases h with h | h
      · exact (nx.n a h).elim .inl fun z => .inr (.inr z)
      · exact (hw a h).elim (fun z => .inr (.inl z)) fun z => .inr (.inr (f1 a z))
    · exact po1.elim
end
theorem ds_unpl {X : Cx} {W : WX} {is : List Nat} {f : MO} {tg a : Expr} {pos : Pos} (ha : PE X a (rdO X.K X.mg W f)) (hg : PG X tg (gLst X.K is.length (gNames is)))
    (hs : swapsWithSole [tg] a pos.line X.env = pure false := by rfl) (hw : swappedStores [tg] a X.env = pure none := by rfl) (h1 : (assignEach [tg] X.env).map (·.2) = [assign tg X.env] := by rfl) :
    PS X (.Assign [tg] a pos) (rdS X.K X.mg W (sUnpL is f)) := (ps_asg ha hg hs hw h1).imp fun _ _ _ q => rd_sUnpL q
end Dg

set_option Elab.async false
set_option linter.all false
set_option maxRecDepth 100000
set_option maxHeartbeats 4000000
namespace HT
open PySem PySem.Spec PyProof.Rows L2
variable {prog : Program} {w : World} {A : Around} {E : Value → Shared → Prop} {s : Shared}
theorem adjust_rev (n : Nat) : Builtin.Slice.sliceAdjust none none (-1) (n : Int) = ((n : Int) - 1, -1) := rfl
theorem places_rev (n : Nat) : Builtin.Slice.slicePlaces ((n : Int) - 1) (-1) (-1) = n := by
  unfold Builtin.Slice.slicePlaces
  have h1 : ¬ ((-1 : Int) > 0) := by omega
  simp only [h1, if_false]
  rw [show (- -1 : Int) = 1 by decide, Int.ediv_one]
  split <;> omega
theorem sliceApplied_rev {sl : Addr} {vl vu vs : Value} {n : Nat} {Q : Int × Int × Nat → Shared → Prop} (hs : s.heap.IsSliceOf sl vl vu vs) (pl : IsPart vl none) (pu : IsPart vu none) (ps : IsPart vs (some (-1)))
    (h : Q ((n : Int) - 1, -1, n) s) : wpAny (model prog w) A (Builtin.Slice.sliceApplied (.ref sl) (pure (n : Int))) Q E s := by
  obtain ⟨os, hos, hcs, hds⟩ := id hs
  unfold Builtin.Slice.sliceApplied Builtin.Slice.sliceFields
  refine wpAny_bind (wpAny_bind (wpAny_field hos hds (x := vl) rfl (wpAny_bind (wpAny_field hos hds (x := vu) rfl (wpAny_bind (wpAny_field hos hds (x := vs) rfl (wpAny_pure ?_)))))))
  refine wpAny_bind (slicePart_ ps ?_)
  show wpAny _ _ (if ((-1 : Int) == 0) = true then _ else _) _ _ s
  rw [if_neg (by decide)]
  refine wpAny_bind (slicePart_ pl (wpAny_bind (slicePart_ pu (wpAny_bind (wpAny_pure ?_)))))
  show wpAny _ _ (match Builtin.Slice.sliceAdjust none none (-1) (n : Int) with | (lo, hi) => pure (lo, (-1 : Int), Builtin.Slice.slicePlaces lo hi (-1))) _ _ s
  rw [adjust_rev n]
  show wpAny _ _ (pure ((n : Int) - 1, (-1 : Int), Builtin.Slice.slicePlaces ((n : Int) - 1) (-1) (-1))) _ _ s
  rw [places_rev]
  exact wpAny_pure h
theorem rev_pick (xs : Array Value) : ((List.range xs.size).filterMap fun (m : Nat) => xs[(((xs.size : Int) - 1) + (m : Int) * (-1)).toNat]?).toArray = xs.toList.reverse.toArray := by
  congr 1
  refine List.ext_getElem? fun i => ?_
  have e : ((List.range xs.size).filterMap fun (m : Nat) => xs[(((xs.size : Int) - 1) + (m : Int) * (-1)).toNat]?) = (List.range xs.size).map fun m => xs.toList.getD (xs.size - 1 - m) .none := by
    have : ∀ l : List Nat, (∀ m ∈ l, m < xs.size) → (l.filterMap fun (m : Nat) => xs[(((xs.size : Int) - 1) + (m : Int) * (-1)).toNat]?) = l.map fun m => xs.toList.getD (xs.size - 1 - m) .none := fun l => by
      induction l with
      | nil => intro _; rfl
      | cons m l ih =>
        intro h
        have hm := h m List.mem_cons_self
        have q : (((xs.size : Int) - 1) + (m : Int) * (-1)).toNat = xs.size - 1 - m := by omega
        have g : xs[xs.size - 1 - m]? = some (xs.toList.getD (xs.size - 1 - m) .none) := by
          rw [List.getD_eq_getElem?_getD, Array.getElem?_toList, Array.getElem?_eq_getElem (by omega)]; rfl
        rw [List.filterMap_cons, q, g, List.map_cons, ih fun m hm => h m (List.mem_cons_of_mem _ hm)]
    exact this _ fun m hm => List.mem_range.mp hm
  rw [e]
  by_cases hi : i < xs.size
  · rw [List.getElem?_map, List.getElem?_range hi, List.getElem?_reverse (by simpa using hi)]
    simp only [Option.map_some, Array.length_toList]
    rw [List.getD_eq_getElem?_getD, List.getElem?_eq_getElem (by simp; omega)]; rfl
  · rw [List.getElem?_eq_none (by simp; omega), List.getElem?_eq_none (by simp; omega)]
theorem getItem_tuple_rev {t sl : Addr} {items : Array Value} {vl vu vs : Value} {Q : Value → Shared → Prop} (ht : IsTup s.heap t items) (hs : s.heap.IsSliceOf sl vl vu vs) (pl : IsPart vl none) (pu : IsPart vu none) (ps : IsPart vs (some (-1)))
    (h : Q (.ref s.heap.objs.size) { s with heap := s.heap.push { cls := .type "tuple", data := .seq items.toList.reverse.toArray } })
    (hsz : items.size ≤ sizeLine) : wpAny (model prog w) A (getItem (.ref t) (.ref sl)) Q E s := by
  have htake : sizeOk (.seq items.toList.reverse.toArray) := by
    show items.toList.reverse.toArray.size ≤ sizeLine
    rw [List.size_toArray, List.length_reverse, Array.length_toList]; exact hsz
  obtain ⟨os, hos, hcs, hds⟩ := id hs
  have hTs : s.TypeIs (.ref sl) "slice" := ⟨os, hos, hcs⟩
  unfold getItem
  try with_reducible refine wpAny_holding ?_
  first | refine wpAny_bind (wpAny_pure ?_) | skip
  refine wpAny_bind (wpAny_sequenceKey ht.typeIs (by decide) ?_)
  refine wpAny_bind (wpAny_callSpecial?_slot (name := Str.ofString "__getitem__") ht.typeIs PyProof.Rows.slot_tuple_getitem
    (wpAny_call_entry PyProof.Rows.slot_tuple_getitem ht.typeIs entry_tuple_getitem ?_ (args_tuple_getitem _ _)))
  show wpAny _ _ (Builtin.Tuple.tupleItemsOf (.ref t) >>= _) _ _ s
  refine wpAny_bind (tupleItemsOf_ ht ?_)
  refine wpAny_bind (wpAny_typeOf hTs ?_)
  rw [if_pos (by decide)]
  refine wpAny_bind (sliceApplied_rev hs pl pu ps ?_)
  show wpAny _ _ (if (((items.size : Int) - 1) == 0 && (-1 : Int) == 1 && items.size == items.size) = true then _ else _) _ _ s
  rw [if_neg (by simp), rev_pick]
  first
    | exact wpAny_bind (m := Builtin.Tuple.tupleExact _) (wpAny_newObj_type (wpAny_pure ⟨_, rfl, wpAny_pure h⟩) htake)
    | exact wpAny_bind (m := Builtin.Tuple.tupleExact _) (wpAny_newObj_type (wpAny_bind (wpAny_pure (wpAny_pure ⟨_, rfl, wpAny_pure h⟩))) htake)
    | exact wpAny_bind (wpAny_bind (m := Builtin.Tuple.tupleExact _) (wpAny_newObj_type (wpAny_pure (wpAny_pure ⟨_, rfl, wpAny_pure h⟩)) htake))
    | exact wpAny_bind (wpAny_bind (m := Builtin.Tuple.tupleExact _) (wpAny_newObj_type (wpAny_pure ⟨_, rfl, wpAny_pure h⟩) htake))
end HT
namespace Dg
open PySem PySem.Spec PyProof.Rows L2
/-! ### slices with a step: xs[lo::k], t[::-1] -/
def stIx (lo st : Option Int) (n : Nat) : List Nat := sliceRange (sliceBounds lo none st n).1 (sliceBounds lo none st n).2.1 (sliceBounds lo none st n).2.2
def pickA {α : Type} (xs : List α) (lo st : Option Int) : List α := (stIx lo st xs.length).filterMap (xs[·]?)
theorem pickA_slice (us : List Value) (lo st : Option Int) : slicePick us.toArray lo none st = (pickA us lo st).toArray := by
  unfold slicePick pickA stIx
  rw [List.size_toArray]
  congr 1
  have e : (fun i : Nat => us.toArray[i]?) = fun i : Nat => us[i]? := by
    funext i
    rw [List.getElem?_toArray]
  rw [e]
theorem vals_pick {xs : List V} {us : List Value} (r : Vals xs us) : ∀ ix : List Nat, Vals (ix.filterMap (xs[·]?)) (ix.filterMap (us[·]?))
  | [] => .nil
  | i :: ix => by
    rw [List.filterMap_cons, List.filterMap_cons]
    cases q : xs[i]? with
    | none => rw [r.none_of q]; exact vals_pick r ix
    | some x =>
      obtain ⟨u, hu, ru⟩ := r.get q
      rw [hu]; exact .cons ru (vals_pick r ix)
theorem Vals.pickA {xs : List V} {us : List Value} (r : Vals xs us) (lo st : Option Int) : Vals (Dg.pickA xs lo st) (Dg.pickA us lo st) := by
  unfold Dg.pickA
  rw [r.length]
  exact vals_pick r _
theorem pickA_len {α : Type} (z : α → Value) (xs : List α) (lo st : Option Int) : (pickA xs lo st).length ≤ xs.length := by
  have e : (pickA xs lo st).length = (pickA (xs.map z) lo st).length := by
    unfold pickA
    rw [List.length_map]
    have : ∀ ix : List Nat, (ix.filterMap (xs[·]?)).length = (ix.filterMap ((xs.map z)[·]?)).length := fun ix => by
      induction ix with
      | nil => rfl
      | cons i ix ih =>
        rw [List.filterMap_cons, List.filterMap_cons, List.getElem?_map]
        cases xs[i]? with
        | none => simpa using ih
        | some x => simpa using ih
    exact this _
  have := slicePick_size_le (xs.map z).toArray lo none st
  rw [pickA_slice, List.size_toArray, List.size_toArray, List.length_map] at this
  omega
def rSlSt (K : PySem.W.Frag) : V → Option Int → Option Int → Hp → VK → Prop := fun x lo st H Q =>
  (∃ a xs, x = .ref a ∧ SqL K H a xs ∧ st ≠ some 0 ∧ ∀ p, H p = none → Q (.ref p) (upd H p (.lst (pickA xs lo st)))) ∨
  (∃ a xs, x = .ref a ∧ SqT K H a xs ∧ lo = none ∧ st = some (-1) ∧ ∀ p, H p = none → Q (.ref p) (upd H p (.tup xs.reverse)))
def tSlSt (K : PySem.W.Frag) (te : TE) (tl ts : TO) : TE := fun σ H Q => te σ H fun x H1 => tl σ H1 fun l H2 => ts σ H2 fun s H3 => rSlSt K x l s H3 Q
theorem pe_sliceSt {X : Cx} {e : Expr} {te : TE} {lo : Option Expr} {stE : Expr} {tl ts : TO} {p2 pos : Pos} (he : PE X e te) (hl : PO X lo tl) (hs : PO X (some stE) ts) : PE X (.Subscript e (.Slice lo none (some stE) p2) pos) (tSlSt X.K te tl ts) := by
  refine ⟨fun pins s σ H Q I h => ?_⟩
  refine Subscript_ (thn (he.run pins s σ H _ I h) fun v s1 ⟨x, H1, I1, r1, q1⟩ => ?_)
  refine wpAny_Slice (thn (hl.run pins s1 σ H1 _ I1 q1) fun vl s2 ⟨l, H2, I2, pl, q2⟩ => ?_)
  refine thn (po_none.run pins s2 σ H2 (fun o H3 => o = none ∧ H3 = H2) I2 ⟨rfl, rfl⟩) fun vu s3 ⟨u, H3, I3, pu, eu, e3⟩ => ?_
  subst eu e3
  refine thn (hs.run pins s3 σ H3 _ I3 q2) fun vs s4 ⟨o, H4, I4, ps, q4⟩ => ?_
  have I5 : Inv X pins σ H4 { s4 with heap := s4.heap.push { cls := .type "slice", data := .fields #[vl, vu, vs] } } := I4.kept (t' := s4.toks) fun b ob q => Heap.get?_push_of_some _ q
  show wpAny (model X.prog X.w) X.A (subscriptTail e (.Slice lo none (some stE) p2) v (.ref s4.heap.objs.size)) (EP X pins σ Q) X.xe { s4 with heap := s4.heap.push { cls := .type "slice", data := .fields #[vl, vu, vs] } }
  rcases q4 with ⟨a, xs, rfl, hx, h0, q⟩ | ⟨a, xs, rfl, hx, rfl, rfl, q⟩
  · cases r1
    obtain ⟨its, r, ht, hz⟩ := I5.list hx
    have hlen := r.length
    refine tail_any (ops := [.ref a, .ref s4.heap.objs.size]) ht.isList.typeIs (PySem.slot_list_getitem.lookup) ?_ (by with_unfolding_all rfl)
    refine wpAny_getItem_list_slice ht.isList (Heap.IsSliceOf.new _ vl vu vs) pl pu ps h0 ?_ (by rw [List.size_toArray]; omega)
    rw [pickA_slice]
    refine ⟨.ref _, _, I5.laid (t' := s4.toks) (o := .lst (pickA xs l o)) (fun b ob q => Heap.get?_push_of_some _ q) (Nat.le_refl _) ?_, rfl, q _ (I5.hok.fresh (Nat.le_refl _))⟩
    exact ⟨Nat.le_trans (pickA_len (fun _ => .none) xs l o) hz, _, 0, Vals.pickA r l o, Heap.get?_push_size _ rfl⟩
  · cases r1
    obtain ⟨its, r, ht, hz⟩ := I5.tuple hx
    have hlen := r.length
    refine tail_any (ops := [.ref a, .ref s4.heap.objs.size]) ht.typeIs (PyProof.Rows.slot_tuple_getitem.lookup) ?_ (by with_unfolding_all rfl)
    refine HT.getItem_tuple_rev ht (Heap.IsSliceOf.new _ vl vu vs) pl pu ps ?_ (by rw [List.size_toArray]; omega)
    refine ⟨.ref _, _, I5.laid (t' := s4.toks) (o := .tup xs.reverse) (fun b ob q => Heap.get?_push_of_some _ q) (Nat.le_refl _) ?_, rfl, q _ (I5.hok.fresh (Nat.le_refl _))⟩
    exact ⟨by rw [List.length_reverse]; exact hz, _, r.reverse, IsTup.new _ _⟩
def stepD (x : D) (lo st : Option Int) : Option D := match x with
  | .tup l => if lo = none ∧ st = some (-1) then some (.tup l.reverse) else none
  | .lst l => if st = some 0 then none else some (.lst (pickA l lo st))
  | _ => none
@[simp] def pSt (f : ME) (lo st : Option ME) (e : En) (c : Cs) : R D := (f e c).bind fun x c => (evS lo e c).bind fun l c => (evS st e c).bind fun h c => R.of (stepD x l h) c
section
variable {K : PySem.W.Frag} {mg : Str → Option Value} {W : WX} {ca : List Addr} {F F' H H' : Hp} {σ : L2.St} {e : En} {ws : List Addr} {cs cs' : Cs}
theorem DdA.getN : ∀ {xs : List V} {ds : List D} (i : Nat), DdA K ca F xs ds → (xs[i]? = none ∧ ds[i]? = none) ∨ ∃ x d, xs[i]? = some x ∧ ds[i]? = some d ∧ Dd K ca F x d
  | _, _, _, .nil => .inl ⟨rfl, rfl⟩
  | _, _, 0, .cons h _ => .inr ⟨_, _, rfl, rfl, h⟩
  | _, _, i + 1, .cons _ h => DdA.getN i h
theorem DdA.pickN {xs : List V} {ds : List D} (h : DdA K ca F xs ds) : ∀ ix : List Nat, DdA K ca F (ix.filterMap (xs[·]?)) (ix.filterMap (ds[·]?))
  | [] => .nil
  | i :: ix => by
    rw [List.filterMap_cons, List.filterMap_cons]
    rcases h.getN i with ⟨q1, q2⟩ | ⟨x, d, q1, q2, q3⟩
    · rw [q1, q2]; exact DdA.pickN h ix
    · rw [q1, q2]; exact .cons q3 (DdA.pickN h ix)
theorem DdA.pickA {xs : List V} {ds : List D} (h : DdA K ca F xs ds) (lo st : Option Int) : DdA K ca F (Dg.pickA xs lo st) (Dg.pickA ds lo st) := by
  unfold Dg.pickA
  rw [h.length]
  exact h.pickN _
theorem DdA.rev : ∀ {xs : List V} {ds : List D}, DdA K ca F xs ds → DdA K ca F xs.reverse ds.reverse
  | _, _, .nil => .nil
  | _, _, .cons h1 h2 => by
    rw [List.reverse_cons, List.reverse_cons]
    exact (DdA.rev h2).app (.cons h1 .nil)
theorem sem_step {x d : D} {v : V} {lo sp : Option Int} {Q : VK} (st : Stt K ca F H σ e ws cs) (dx : Dd K ca (Bh F H ws) v x) (hd : stepD x lo sp = some d) (en : En1 K ca F H ws Q d) : rSlSt K v lo sp H Q := by
  cases x with
  | tup l =>
    simp only [stepD] at hd
    split at hd
    · rename_i q
      cases hd
      obtain ⟨a, xs, rfl, s1, d1⟩ := dx.tu rfl
      exact .inr ⟨a, xs, rfl, Same.tup st.bsub s1, q.1, q.2, fun p hp => en.newT _ rfl _ p d1.rev hp⟩
    · cases hd
  | lst l =>
    simp only [stepD] at hd
    split at hd
    · cases hd
    · rename_i q
      cases hd
      obtain ⟨a, xs, rfl, s1, d1⟩ := dx.li rfl
      exact .inl ⟨a, xs, rfl, st.bsub.seq s1, q, fun p hp => en.newL _ rfl _ p (d1.pickA lo sp) hp⟩
  | _ => cases hd
theorem rd_pSt {f : ME} {lo sp : Option ME} {Q : VK} (h : rdP K mg W (pSt f lo sp) σ H Q) : tSlSt K (rdP K mg W f) (rdS1 K mg W (evS lo)) (rdS1 K mg W (evS sp)) σ H Q := by
  obtain ⟨ca, F, e, ws, cs, st, po⟩ := h
  refine rdP_from (ws := ws) kindP (Nxt.refl st.same) st po fun x c1 F1 H1 v _ nx b1 st1 dx po1 => ?_
  refine rdS1_from (ws := ws) kindP b1 st1 po1 fun l c2 F2 H2 nx2 b2 st2 po2 => ?_
  refine rdS1_from (ws := ws) kindP b2 st2 po2 fun u c3 F3 H3 nx3 b3 st3 po3 => ?_
  obtain ⟨d, hd, po4⟩ := (PoP.step po3 b3).of
  exact sem_step st3 (Dd.mono (st2.bmono nx3) _ _ (Dd.mono (st1.bmono nx2) _ _ dx)) hd (En1.ofP st3 po4)
theorem rd_oSt {f : ME} {lo sp : Option ME} {Q : VK} (h : rdO K mg W (oD (pSt f lo sp)) σ H Q) : tSlSt K (rdP K mg W f) (rdS1 K mg W (evS lo)) (rdS1 K mg W (evS sp)) σ H Q := by
  obtain ⟨ca, F, e, ws, cs, st, po⟩ := h
  unfold oD pSt at po
  simp only [R.bind_assoc] at po
  refine rdP_from (ws := ws) kindO (Nxt.refl st.same) st po fun x c1 F1 H1 v _ nx b1 st1 dx po1 => ?_
  refine rdS1_from (ws := ws) kindO b1 st1 po1 fun l c2 F2 H2 nx2 b2 st2 po2 => ?_
  refine rdS1_from (ws := ws) kindO b2 st2 po2 fun u c3 F3 H3 nx3 b3 st3 po3 => ?_
  cases q : stepD x l u with
  | none => rw [q] at po3; exact po3.elim
  | some d =>
    rw [q] at po3
    obtain ⟨t, ht, po4⟩ := PoO.of (o := keepD e d) po3
    exact sem_step st3 (Dd.mono (st2.bmono nx3) _ _ (Dd.mono (st1.bmono nx2) _ _ dx)) q (En1.ofO st3 b3 ht po4)
end
theorem dp_step {X : Cx} {W : WX} {f : ME} {lo : Option ME} {sp : Option ME} {a u : Expr} {l : Option Expr} {p2 pos : Pos} (ha : PE X a (rdP X.K X.mg W f)) (hl : PO X l (rdS1 X.K X.mg W (evS lo))) (hu : PO X (some u) (rdS1 X.K X.mg W (evS sp))) :
    PE X (.Subscript a (.Slice l none (some u) p2) pos) (rdP X.K X.mg W (pSt f lo sp)) := (pe_sliceSt ha hl hu).imp fun _ _ _ q => rd_pSt q
theorem do_step {X : Cx} {W : WX} {f : ME} {lo : Option ME} {sp : Option ME} {a u : Expr} {l : Option Expr} {p2 pos : Pos} (ha : PE X a (rdP X.K X.mg W f)) (hl : PO X l (rdS1 X.K X.mg W (evS lo))) (hu : PO X (some u) (rdS1 X.K X.mg W (evS sp))) :
    PE X (.Subscript a (.Slice l none (some u) p2) pos) (rdO X.K X.mg W (oD (pSt f lo sp))) := (pe_sliceSt ha hl hu).imp fun _ _ _ q => rd_oSt q
end Dg

set_option Elab.async false
set_option linter.all false
set_option maxHeartbeats 4000000
namespace Dg
open PySem L2
theorem LIMv : LIM = 1000000 := rfl
/-! ### sizes -/
def Bd (k : Nat) (i : Int) : Prop := i.natAbs < 2 ^ k
theorem Bd.big {k : Nat} {i : Int} (h : Bd k i) (hk : k ≤ 8000 := by omega) : bigI i = true := by
  have : 2 ^ k ≤ 2 ^ 8000 := Nat.pow_le_pow_right (by omega) hk
  exact decide_eq_true (Nat.lt_of_lt_of_le h this)
theorem Bd.up {k l : Nat} {i : Int} (h : Bd k i) (hk : k ≤ l := by omega) : Bd l i := Nat.lt_of_lt_of_le h (Nat.pow_le_pow_right (by omega) hk)
theorem Bd.mul {k l : Nat} {i j : Int} (h : Bd k i) (h2 : Bd l j) : Bd (k + l) (i * j) := by
  unfold Bd at *
  rw [Int.natAbs_mul, Nat.pow_add]
  exact Nat.mul_lt_mul'' h h2
theorem Bd.add {k : Nat} {i j : Int} (h : Bd k i) (h2 : Bd k j) : Bd (k + 1) (i + j) := by
  unfold Bd at *
  rw [Nat.pow_succ]
  omega
theorem Bd.sub {k : Nat} {i j : Int} (h : Bd k i) (h2 : Bd k j) : Bd (k + 1) (i - j) := by
  unfold Bd at *
  rw [Nat.pow_succ]
  omega
theorem Bd.le {k : Nat} {i j : Int} (h : Bd k i) (h2 : j.natAbs ≤ i.natAbs) : Bd k j := Nat.lt_of_le_of_lt h2 h
theorem Bd.of {k : Nat} {i : Int} (h : i.natAbs < 2 ^ k) : Bd k i := h
theorem okMul_of {k l : Nat} {i j : Int} (h : Bd k i) (h2 : Bd l j) (hk : k ≤ 8000 := by omega) (hl : l ≤ 8000 := by omega) : okMul i j = true := by
  unfold okMul; rw [h.big hk, h2.big hl]; rfl
theorem okMul_big {i j : Int} (h : bigI i = true) (h2 : bigI j = true) : okMul i j = true := by
  unfold okMul; rw [h, h2]; rfl
theorem okDiv_big {i j : Int} (h : j ≠ 0) (h2 : bigI j = true) : okDiv i j = true := by
  unfold okDiv; rw [h2, decide_eq_true (by omega)]; rfl
theorem big_le {i j : Int} (h : bigI i = true) (h2 : j.natAbs ≤ i.natAbs) : bigI j = true := decide_eq_true (Nat.lt_of_le_of_lt h2 (of_decide_eq_true h))
theorem big_small {i : Int} (h : i.natAbs < 2 ^ 64) : bigI i = true := Bd.big (k := 64) h
/-- a loop that keeps what it keeps -/
theorem forL_inv {tg : D → En → Option En} {body : MS} (P : En → Prop) {c : Cs} : ∀ (ds : List D) (e : En), (∀ d ∈ ds, ∀ e, P e → ∃ e1 e2, tg d e = some e1 ∧ body e1 c = .ok (.nx e2) c ∧ P e2) → P e → ∃ e', forL tg body ds e c = .ok (.nx e') c ∧ P e'
  | [], e, _, p => ⟨e, rfl, p⟩
  | d :: ds, e, h, p => by
    obtain ⟨e1, e2, a, b, q⟩ := h d List.mem_cons_self e p
    rw [forL_nx a b]
    exact forL_inv P ds e2 (fun d m => h d (List.mem_cons_of_mem _ m)) q
theorem mem_rngL {lo : Int} {n : Nat} {d : D} (h : d ∈ rngL lo n) : ∃ k : Nat, k < n ∧ d = .int (lo + k) := by
  unfold rngL at h
  obtain ⟨k, hk, rfl⟩ := List.mem_map.mp h
  exact ⟨k, List.mem_range.mp hk, rfl⟩
end Dg

set_option Elab.async false
set_option linter.all false
set_option maxHeartbeats 4000000
namespace Dg
open PySem L2
/-! ### shares: plain -/
/-- the divisor that a share is cut by -/
def sdv (a b : Int) : Int := if b < 0 then 0 - (Int.gcd a b : Int) else Int.gcd a b
def shr (a b : Int) : Int × Int := (a / sdv a b, b / sdv a b)
theorem sdv_facts {a b : Int} (hb : b ≠ 0) : sdv a b ≠ 0 ∧ sdv a b ∣ a ∧ sdv a b ∣ b ∧ (sdv a b).natAbs = Int.gcd a b ∧ 0 < Int.gcd a b := by
  have hg : 0 < Int.gcd a b := Int.gcd_pos_of_ne_zero_right a hb
  have h1 : (Int.gcd a b : Int) ∣ a := Int.gcd_dvd_left a b
  have h2 : (Int.gcd a b : Int) ∣ b := Int.gcd_dvd_right a b
  unfold sdv
  split
  · refine ⟨by omega, ?_, ?_, by omega, hg⟩
    · rw [Int.zero_sub]; exact Int.neg_dvd.mpr h1
    · rw [Int.zero_sub]; exact Int.neg_dvd.mpr h2
  · exact ⟨by omega, h1, h2, by omega, hg⟩
theorem shr_mul {a b : Int} (hb : b ≠ 0) : (shr a b).1 * sdv a b = a ∧ (shr a b).2 * sdv a b = b := by
  obtain ⟨h0, h1, h2, _⟩ := sdv_facts (a := a) hb
  exact ⟨Int.ediv_mul_cancel h1, Int.ediv_mul_cancel h2⟩
theorem shr_pos {a b : Int} (hb : b ≠ 0) : 1 ≤ (shr a b).2 := by
  obtain ⟨h0, h1, h2, _⟩ := sdv_facts (a := a) hb
  have h := (shr_mul (a := a) hb).2
  have hs : 0 < (shr a b).2 := by
    by_cases hn : b < 0
    · have hd : sdv a b < 0 := by unfold sdv; rw [if_pos hn]; have := (sdv_facts (a := a) hb).2.2.2.2; omega
      by_cases hq : 0 < (shr a b).2
      · exact hq
      · have : 0 ≤ (shr a b).2 * sdv a b := by
          have := Int.mul_nonneg_of_nonpos_of_nonpos (show (shr a b).2 ≤ 0 by omega) (show sdv a b ≤ 0 by omega)
          exact this
        omega
    · have hd : 0 < sdv a b := by unfold sdv; rw [if_neg hn]; have := (sdv_facts (a := a) hb).2.2.2.2; omega
      by_cases hq : 0 < (shr a b).2
      · exact hq
      · have : (shr a b).2 * sdv a b ≤ 0 := Int.mul_nonpos_of_nonpos_of_nonneg (by omega) (by omega)
        omega
  omega
theorem shr_gcd {a b : Int} (hb : b ≠ 0) : Int.gcd (shr a b).1 (shr a b).2 = 1 := by
  obtain ⟨h1, h2⟩ := shr_mul (a := a) hb
  obtain ⟨h0, _, _, h3, h4⟩ := sdv_facts (a := a) hb
  have h : Int.gcd ((shr a b).1 * sdv a b) ((shr a b).2 * sdv a b) = Int.gcd (shr a b).1 (shr a b).2 * (sdv a b).natAbs := Int.gcd_mul_right _ _ _
  rw [h1, h2, h3] at h
  have := Nat.eq_of_mul_eq_mul_right h4 (show 1 * Int.gcd a b = Int.gcd (shr a b).1 (shr a b).2 * Int.gcd a b by omega)
  omega
theorem shr_cross {a b : Int} (hb : b ≠ 0) : (shr a b).1 * b = a * (shr a b).2 := by
  obtain ⟨h1, h2⟩ := shr_mul (a := a) hb
  generalize (shr a b).1 = p at *
  generalize (shr a b).2 = q at *
  generalize sdv a b = s at *
  grind
/-- two shares in lowest terms that stand for one number are one -/
theorem low_unique {p q r s : Int} (hq : 1 ≤ q) (hs : 1 ≤ s) (g1 : Int.gcd p q = 1) (g2 : Int.gcd r s = 1) (h : p * s = r * q) : p = r ∧ q = s := by
  have d1 : q ∣ s := by
    have : q.natAbs ∣ (p.natAbs * s.natAbs) := by rw [← Int.natAbs_mul, h, Int.natAbs_mul]; exact Nat.dvd_mul_left _ _
    exact Int.natAbs_dvd_natAbs.mp (Nat.Coprime.dvd_of_dvd_mul_left (show Nat.Coprime q.natAbs p.natAbs by rw [Nat.coprime_comm]; exact g1) this)
  have d2 : s ∣ q := by
    have : s.natAbs ∣ (r.natAbs * q.natAbs) := by rw [← Int.natAbs_mul, ← h, Int.natAbs_mul]; exact Nat.dvd_mul_left _ _
    exact Int.natAbs_dvd_natAbs.mp (Nat.Coprime.dvd_of_dvd_mul_left (show Nat.Coprime s.natAbs r.natAbs by rw [Nat.coprime_comm]; exact g2) this)
  have e : q = s := by
    have l1 := Int.le_of_dvd (by omega) d1
    have l2 := Int.le_of_dvd (by omega) d2
    omega
  subst e
  exact ⟨Int.eq_of_mul_eq_mul_right (by omega) h, rfl⟩
theorem shr_self {p q : Int} (hq : 1 ≤ q) (g : Int.gcd p q = 1) : shr p q = (p, q) := by
  have h0 : q ≠ 0 := by omega
  obtain ⟨e1, e2⟩ := low_unique (shr_pos (a := p) h0) hq (shr_gcd h0) g (shr_cross h0)
  exact Prod.ext e1 e2
theorem shr_eq {a b a' b' : Int} (hb : b ≠ 0) (hb' : b' ≠ 0) : shr a b = shr a' b' ↔ a * b' = a' * b := by
  have p1 := shr_pos (a := a) hb
  have p2 := shr_pos (a := a') hb'
  have c1 := shr_cross (a := a) hb
  have c2 := shr_cross (a := a') hb'
  have g1 := shr_gcd (a := a) hb
  have g2 := shr_gcd (a := a') hb'
  constructor
  · intro h
    rw [h] at c1
    generalize (shr a' b').1 = r at *
    generalize (shr a' b').2 = s at *
    have : a * b' * s = a' * b * s := by grind
    exact Int.eq_of_mul_eq_mul_right (by omega) this
  · intro h
    have key : (shr a b).1 * (shr a' b').2 = (shr a' b').1 * (shr a b).2 := by
      generalize (shr a' b').1 = r at *
      generalize (shr a' b').2 = s at *
      generalize (shr a b).1 = p at *
      generalize (shr a b).2 = q at *
      -- p b = a q, r b' = a' s, a b' = a' b
      have : (p * s) * (b * b') = (r * q) * (b * b') := by grind
      exact Int.eq_of_mul_eq_mul_right (Int.mul_ne_zero hb hb') this
    obtain ⟨e1, e2⟩ := low_unique p1 p2 g1 g2 key
    exact Prod.ext e1 e2
theorem shr_le {a b : Int} (hb : b ≠ 0) : (shr a b).1.natAbs ≤ a.natAbs ∧ (shr a b).2.natAbs ≤ b.natAbs := by
  obtain ⟨h1, h2⟩ := shr_mul (a := a) hb
  obtain ⟨h0, _, _, h3, h4⟩ := sdv_facts (a := a) hb
  have e1 : a.natAbs = (shr a b).1.natAbs * (sdv a b).natAbs := by rw [← Int.natAbs_mul, h1]
  have e2 : b.natAbs = (shr a b).2.natAbs * (sdv a b).natAbs := by rw [← Int.natAbs_mul, h2]
  rw [h3] at e1 e2
  exact ⟨by rw [e1]; exact Nat.le_mul_of_pos_right _ h4, by rw [e2]; exact Nat.le_mul_of_pos_right _ h4⟩
/-- a share as data -/
def shD (s : Int × Int) : D := .tup [.int s.1, .int s.2]
end Dg

set_option Elab.async false
set_option linter.all false
set_option maxHeartbeats 4000000
namespace Dg
open PySem L2
/-! ### == of plain data -/
mutual
@[simp] def D.nb : D → Nat → Bool
  | .int _, _ => true
  | .non, _ => true
  | .str x, _ => PyData.strOk x
  | .lst l, n => decide (0 < n) && D.nbA l (n - 1)
  | .tup l, n => decide (0 < n) && D.nbA l (n - 1)
  | .bl _, _ => false
  | .scr _, _ => false
  | .cell _, _ => false
  | .exc _, _ => false
  | .ob _ _ _, _ => false
@[simp] def D.nbA : List D → Nat → Bool
  | [], _ => true
  | d :: ds, n => d.nb n && D.nbA ds n
end
mutual
theorem nb_py : ∀ (d : D) (n : Nat), d.nb n = true → ∃ p, d.py = some p ∧ p.canLay0 = true ∧ p.depth ≤ n
  | .int i, n, _ => ⟨.int i, rfl, rfl, Nat.zero_le _⟩
  | .non, n, _ => ⟨.none, rfl, rfl, Nat.zero_le _⟩
  | .str x, n, h => ⟨.str x, rfl, by simpa [PyData.canLay0] using h, Nat.zero_le _⟩
  | .lst l, n, h => by
    simp only [D.nb, Bool.and_eq_true, decide_eq_true_eq] at h
    obtain ⟨ps, e, h1, h2⟩ := nbA_py l _ h.2
    exact ⟨.list ps, by simp [D.py, e], by simpa [PyData.canLay0] using h1, by simp only [PyData.depth]; omega⟩
  | .tup l, n, h => by
    simp only [D.nb, Bool.and_eq_true, decide_eq_true_eq] at h
    obtain ⟨ps, e, h1, h2⟩ := nbA_py l _ h.2
    exact ⟨.tuple ps, by simp [D.py, e], by simpa [PyData.canLay0] using h1, by simp only [PyData.depth]; omega⟩
  | .bl _, _, h => by cases h
  | .scr _, _, h => by cases h
  | .cell _, _, h => by cases h
  | .exc _, _, h => by cases h
  | .ob _ _ _, _, h => by cases h
theorem nbA_py : ∀ (l : List D) (n : Nat), D.nbA l n = true → ∃ ps, D.pyA l = some ps ∧ PyData.canLayAll0 ps = true ∧ PyData.depthAll ps ≤ n
  | [], n, _ => ⟨[], rfl, rfl, Nat.zero_le _⟩
  | d :: ds, n, h => by
    simp only [D.nbA, Bool.and_eq_true] at h
    obtain ⟨p, e, h1, h2⟩ := nb_py d n h.1
    obtain ⟨ps, e', h1', h2'⟩ := nbA_py ds n h.2
    exact ⟨p :: ps, by simp [D.pyA, e, e'], by simp [PyData.canLayAll0, h1, h1'], by simp only [PyData.depthAll]; omega⟩
end
mutual
theorem py_eqv : ∀ (d e : D) (n m : Nat) (p q : PyData), d.nb n = true → e.nb m = true → d.py = some p → e.py = some q → (PyData.eqv p q = true ↔ d = e)
  | .int i, e, n, m, p, q, h, h', a, b => by
    cases e <;> simp [D.nb] at h' <;> simp [D.py] at a b
    all_goals first
      | (subst a; subst b; simp [PyData.eqv]; done)
      | (subst a; obtain ⟨_, _, rfl⟩ := b; simp [PyData.eqv]; done)
  | .non, e, n, m, p, q, h, h', a, b => by
    cases e <;> simp [D.nb] at h' <;> simp [D.py] at a b
    all_goals first
      | (subst a; subst b; simp [PyData.eqv]; done)
      | (subst a; obtain ⟨_, _, rfl⟩ := b; simp [PyData.eqv]; done)
  | .str x, e, n, m, p, q, h, h', a, b => by
    cases e <;> simp [D.nb] at h' <;> simp [D.py] at a b
    all_goals first
      | (subst a; subst b; simp [PyData.eqv]; done)
      | (subst a; obtain ⟨_, _, rfl⟩ := b; simp [PyData.eqv]; done)
  | .lst l, e, n, m, p, q, h, h', a, b => by
    simp only [D.nb, Bool.and_eq_true] at h
    simp only [D.py, Option.map_eq_some_iff] at a
    obtain ⟨ps, a, rfl⟩ := a
    cases e with
    | lst l' =>
      simp only [D.nb, Bool.and_eq_true] at h'
      simp only [D.py, Option.map_eq_some_iff] at b
      obtain ⟨qs, b, rfl⟩ := b
      simp only [PyData.eqv, D.lst.injEq]
      exact py_eqvA l l' _ _ ps qs h.2 h'.2 a b
    | tup l' =>
      simp only [D.py, Option.map_eq_some_iff] at b
      obtain ⟨qs, b, rfl⟩ := b
      simp [PyData.eqv]
    | int _ => cases b; simp [PyData.eqv]
    | non => cases b; simp [PyData.eqv]
    | str _ => cases b; simp [PyData.eqv]
    | bl _ => cases h'
    | scr _ => cases h'
    | cell _ => cases h'
    | exc _ => cases h'
    | ob _ _ _ => cases h'
  | .tup l, e, n, m, p, q, h, h', a, b => by
    simp only [D.nb, Bool.and_eq_true] at h
    simp only [D.py, Option.map_eq_some_iff] at a
    obtain ⟨ps, a, rfl⟩ := a
    cases e with
    | tup l' =>
      simp only [D.nb, Bool.and_eq_true] at h'
      simp only [D.py, Option.map_eq_some_iff] at b
      obtain ⟨qs, b, rfl⟩ := b
      simp only [PyData.eqv, D.tup.injEq]
      exact py_eqvA l l' _ _ ps qs h.2 h'.2 a b
    | lst l' =>
      simp only [D.py, Option.map_eq_some_iff] at b
      obtain ⟨qs, b, rfl⟩ := b
      simp [PyData.eqv]
    | int _ => cases b; simp [PyData.eqv]
    | non => cases b; simp [PyData.eqv]
    | str _ => cases b; simp [PyData.eqv]
    | bl _ => cases h'
    | scr _ => cases h'
    | cell _ => cases h'
    | exc _ => cases h'
    | ob _ _ _ => cases h'
  | .bl _, _, _, _, _, _, h, _, _, _ => by cases h
  | .scr _, _, _, _, _, _, h, _, _, _ => by cases h
  | .cell _, _, _, _, _, _, h, _, _, _ => by cases h
  | .exc _, _, _, _, _, _, h, _, _, _ => by cases h
  | .ob _ _ _, _, _, _, _, _, h, _, _, _ => by cases h
theorem py_eqvA : ∀ (l l' : List D) (n m : Nat) (ps qs : List PyData), D.nbA l n = true → D.nbA l' m = true → D.pyA l = some ps → D.pyA l' = some qs → (PyData.eqvAll ps qs = true ↔ l = l')
  | [], l', n, m, ps, qs, h, h', a, b => by
    cases a
    cases l' with
    | nil => cases b; simp [PyData.eqvAll]
    | cons d ds =>
      simp only [D.nbA, Bool.and_eq_true] at h'
      obtain ⟨p, e, _⟩ := nb_py d m h'.1
      obtain ⟨ps, e', _⟩ := nbA_py ds m h'.2
      simp only [D.pyA, e, e'] at b
      cases b
      simp [PyData.eqvAll]
  | d :: ds, l', n, m, ps, qs, h, h', a, b => by
    simp only [D.nbA, Bool.and_eq_true] at h
    obtain ⟨p, e, _⟩ := nb_py d n h.1
    obtain ⟨ps', e', _⟩ := nbA_py ds n h.2
    simp only [D.pyA, e, e'] at a
    cases a
    cases l' with
    | nil => cases b; simp [PyData.eqvAll]
    | cons d2 ds2 =>
      simp only [D.nbA, Bool.and_eq_true] at h'
      obtain ⟨p2, e2, _⟩ := nb_py d2 m h'.1
      obtain ⟨ps2, e2', _⟩ := nbA_py ds2 m h'.2
      simp only [D.pyA, e2, e2'] at b
      cases b
      simp only [PyData.eqvAll, Bool.and_eq_true, List.cons.injEq]
      rw [py_eqv d d2 n m p p2 h.1 h'.1 e e2, py_eqvA ds ds2 n m ps' ps2 h.2 h'.2 e' e2']
end
noncomputable def D.is (d e : D) : Bool := @decide (d = e) (Classical.propDecidable _)
theorem D.is_iff {d e : D} : d.is e = true ↔ d = e := by unfold D.is; exact @decide_eq_true_iff _ (Classical.propDecidable _)
@[simp] theorem D.is_self (d : D) : d.is d = true := D.is_iff.mpr rfl
theorem D.is_ne {d e : D} (h : d ≠ e) : d.is e = false := by
  cases q : d.is e with
  | false => rfl
  | true => exact absurd (D.is_iff.mp q) h
theorem nb_sh {d : D} {n : Nat} (h : d.nb n = true) (hn : n ≤ 64 := by omega) : ∃ p, d.py = some p ∧ SeqAt.shaped p = true := by
  obtain ⟨p, e, h1, h2⟩ := nb_py d n h
  exact ⟨p, e, by unfold SeqAt.shaped; rw [h1, decide_eq_true (by omega)]; rfl⟩
theorem eqD_nb (c : Cs) {d e : D} {n m : Nat} (h : d.nb n = true) (h' : e.nb m = true) (hn : n ≤ 64 := by omega) (hm : m ≤ 64 := by omega) : eqD c d e = some (.bl (d.is e)) := by
  obtain ⟨p, e1, s1⟩ := nb_sh h hn
  obtain ⟨q, e2, s2⟩ := nb_sh h' hm
  simp only [eqD, e1, e2, s1, s2, Bool.and_self, if_true]
  have := py_eqv d e n m p q h h' e1 e2
  congr 2
  rw [Bool.eq_iff_iff, this, D.is_iff]
theorem neD_nb (c : Cs) {d e : D} {n m : Nat} (h : d.nb n = true) (h' : e.nb m = true) (hn : n ≤ 64 := by omega) (hm : m ≤ 64 := by omega) : neD c d e = some (.bl (!(d.is e))) := by
  obtain ⟨p, e1, s1⟩ := nb_sh h hn
  obtain ⟨q, e2, s2⟩ := nb_sh h' hm
  simp only [neD, e1, e2, s1, s2, Bool.and_self, if_true]
  have := py_eqv d e n m p q h h' e1 e2
  congr 2
  rw [Bool.eq_iff_iff, Bool.not_eq_true', Bool.not_eq_true', ← Bool.not_eq_true, ← Bool.not_eq_true, this, D.is_iff]
@[simp] theorem eqD_bl (c : Cs) (a b : Bool) : eqD c (.bl a) (.bl b) = some (.bl (a == b)) := rfl
@[simp] theorem neD_bl (c : Cs) (a b : Bool) : neD c (.bl a) (.bl b) = some (.bl (!(a == b))) := rfl
end Dg

set_option Elab.async false
set_option linter.all false
set_option maxHeartbeats 4000000
namespace Dg
open PySem L2
/-! ### one statement after another -/
theorem seq_nx {f g : MS} {e e' : En} {c c' : Cs} (h : f e c = .ok (.nx e') c') : sSeq f g e c = g e' c' := by simp only [sSeq, h]
theorem seq_rt {f g : MS} {e : En} {t : T} {c c' : Cs} (h : f e c = .ok (.rt t) c') : sSeq f g e c = .ok (.rt t) c' := by simp only [sSeq, h]
theorem seq_er {f g : MS} {e e' : En} {x : Str} {c c' : Cs} (h : f e c = .ok (.er x e') c') : sSeq f g e c = .ok (.er x e') c' := by simp only [sSeq, h]
theorem runB_rt {n : Nat} {ms : MS} {ds : List D} {t : T} {c c' : Cs} (h : ms (en0 n ds) c = .ok (.rt t) c') : runB n ms ds c = .ok t c' := by simp only [runB, h]
theorem runB_er {n : Nat} {ms : MS} {ds : List D} {x : Str} {e : En} {c c' : Cs} (h : ms (en0 n ds) c = .ok (.er x e) c') : runB n ms ds c = .err x c' := by simp only [runB, h]
theorem op2_val {o : Cs → D → D → Option D} {f g : ME} {e : En} {c : Cs} {x y d : D} (hf : f e c = .ok x c) (hg : g e c = .ok y c) (ho : o c x y = some d) : op2 o f g e c = .ok d c := by
  simp only [op2, hf, R.bind, hg, ho, R.of]
/-! ### loops over what is mapped -/
theorem forL_fold {α β : Type} {tg : D → En → Option En} {body : MS} {c : Cs} (inj : α → D) (f : β → α → β) (P : β → En → Prop) : ∀ (l : List α) (s : β) (e : En), (∀ a ∈ l, ∀ s e, P s e → ∃ e1 e2, tg (inj a) e = some e1 ∧ body e1 c = .ok (.nx e2) c ∧ P (f s a) e2) → P s e → ∃ e', forL tg body (l.map inj) e c = .ok (.nx e') c ∧ P (l.foldl f s) e'
  | [], s, e, _, p => ⟨e, rfl, p⟩
  | a :: l, s, e, h, p => by
    obtain ⟨e1, e2, h1, h2, h3⟩ := h a List.mem_cons_self s e p
    rw [List.map_cons, forL_nx h1 h2]
    exact forL_fold inj f P l (f s a) e2 (fun b m => h b (List.mem_cons_of_mem _ m)) h3
theorem forL_app {α : Type} {tg : D → En → Option En} {body : MS} {c : Cs} (inj : α → D) (g : α → T) (P : List T → En → Prop) : ∀ (l : List α) (acc : List T) (e : En), acc.length + l.length < LIM → (∀ a ∈ l, ∀ acc e, acc.length < LIM → P acc e → ∃ e1 e2, tg (inj a) e = some e1 ∧ body e1 c = .ok (.nx e2) c ∧ P (acc ++ [g a]) e2) → P acc e → ∃ e', forL tg body (l.map inj) e c = .ok (.nx e') c ∧ P (acc ++ l.map g) e'
  | [], acc, e, _, _, p => ⟨e, rfl, by simpa using p⟩
  | a :: l, acc, e, hl, h, p => by
    simp only [List.length_cons] at hl
    obtain ⟨e1, e2, h1, h2, h3⟩ := h a List.mem_cons_self acc e (by omega) p
    rw [List.map_cons, forL_nx h1 h2]
    obtain ⟨e', h4, h5⟩ := forL_app inj g P l (acc ++ [g a]) e2 (by simp; omega) (fun b m => h b (List.mem_cons_of_mem _ m)) h3
    exact ⟨e', h4, by simpa using h5⟩
theorem forL_rng' {tg : D → En → Option En} {body : MS} {c : Cs} (inj : Nat → D) (P : Nat → En → Prop) : ∀ (n a : Nat) (e : En), (∀ k, a ≤ k → k < a + n → ∀ e, P k e → ∃ e1 e2, tg (inj k) e = some e1 ∧ body e1 c = .ok (.nx e2) c ∧ P (k + 1) e2) → P a e → ∃ e', forL tg body ((List.range' a n).map inj) e c = .ok (.nx e') c ∧ P (a + n) e'
  | 0, a, e, _, p => ⟨e, rfl, p⟩
  | n + 1, a, e, h, p => by
    obtain ⟨e1, e2, h1, h2, h3⟩ := h a (Nat.le_refl _) (by omega) e p
    rw [List.range'_succ, List.map_cons, forL_nx h1 h2]
    obtain ⟨e', h4, h5⟩ := forL_rng' inj P n (a + 1) e2 (fun k h1 h2 => h k (by omega) (by omega)) h3
    exact ⟨e', h4, by rw [show a + (n + 1) = a + 1 + n by omega]; exact h5⟩
theorem forL_rng {tg : D → En → Option En} {body : MS} {c : Cs} (inj : Nat → D) (P : Nat → En → Prop) (n : Nat) (e : En) (h : ∀ k, k < n → ∀ e, P k e → ∃ e1 e2, tg (inj k) e = some e1 ∧ body e1 c = .ok (.nx e2) c ∧ P (k + 1) e2) (p : P 0 e) : ∃ e', forL tg body ((List.range n).map inj) e c = .ok (.nx e') c ∧ P n e' := by
  rw [List.range_eq_range']
  obtain ⟨e', h1, h2⟩ := forL_rng' inj P n 0 e (fun k _ hk => h k (by omega)) p
  exact ⟨e', h1, by rwa [Nat.zero_add] at h2⟩
/-- a loop that some turn leaves -/
theorem forL_out {α : Type} {tg : D → En → Option En} {body : MS} {c : Cs} (inj : α → D) (bad : α → Prop) (t : T) (P : En → Prop) : ∀ (l : List α) (e : En), (∀ a ∈ l, bad a → ∀ e, P e → ∃ e1, tg (inj a) e = some e1 ∧ body e1 c = .ok (.rt t) c) → (∀ a ∈ l, ¬ bad a → ∀ e, P e → ∃ e1 e2, tg (inj a) e = some e1 ∧ body e1 c = .ok (.nx e2) c ∧ P e2) → P e → (∃ a ∈ l, bad a) → forL tg body (l.map inj) e c = .ok (.rt t) c
  | [], e, _, _, p, q => by obtain ⟨a, m, _⟩ := q; cases m
  | a :: l, e, h, h', p, q => by
    by_cases hb : bad a
    · obtain ⟨e1, h1, h2⟩ := h a List.mem_cons_self hb e p
      rw [List.map_cons, forL_rt h1 h2]
    · obtain ⟨e1, e2, h1, h2, h3⟩ := h' a List.mem_cons_self hb e p
      rw [List.map_cons, forL_nx h1 h2]
      refine forL_out inj bad t P l e2 (fun b m => h b (List.mem_cons_of_mem _ m)) (fun b m => h' b (List.mem_cons_of_mem _ m)) h3 ?_
      obtain ⟨b, m, hb'⟩ := q
      rcases List.mem_cons.mp m with rfl | m
      · exact absurd hb' hb
      · exact ⟨b, m, hb'⟩
theorem compL_map {α : Type} {tg : D → En → Option En} {f : MO} {e : En} {c : Cs} (inj : α → D) (g : α → T) : ∀ l : List α, (∀ a ∈ l, ∃ e1, tg (inj a) e = some e1 ∧ f e1 c = .ok (g a) c) → compL tg tY f (l.map inj) e c = .ok (l.map g) c
  | [], _ => rfl
  | a :: l, h => by
    obtain ⟨e1, h1, h2⟩ := h a List.mem_cons_self
    rw [List.map_cons, compL, h1]
    simp only [tY, R.ne, R.bind, h2, if_true]
    rw [compL_map inj g l fun b m => h b (List.mem_cons_of_mem _ m)]
    rfl
theorem compL_filter {α : Type} {tg : D → En → Option En} {t : En → Cs → R Bool} {f : MO} {e : En} {c : Cs} (inj : α → D) (p : α → Bool) (g : α → T) : ∀ l : List α, (∀ a ∈ l, ∃ e1, tg (inj a) e = some e1 ∧ t e1 c = .ok (p a) c ∧ (p a = true → f e1 c = .ok (g a) c)) → compL tg t f (l.map inj) e c = .ok ((l.filter p).map g) c
  | [], _ => rfl
  | a :: l, h => by
    obtain ⟨e1, h1, h2, h3⟩ := h a List.mem_cons_self
    rw [List.map_cons, compL, h1]
    simp only [h2, R.ne, R.bind]
    have ih := compL_filter inj p g l fun b m => h b (List.mem_cons_of_mem _ m)
    cases hp : p a with
    | true => simp only [if_true, h3 hp, R.ne, R.bind, ih, List.filter_cons, hp, List.map_cons]
    | false => simp only [hp, List.filter_cons, ih]; rfl
@[simp] theorem dA_mapf {α : Type} (g : α → T) (l : List α) : T.dA (l.map g) = l.map fun a => (g a).d := by rw [T.dA_map, List.map_map]; rfl
@[simp] theorem flatA_mapI {α : Type} (f : α → Int) (l : List α) : D.flatA (l.map fun a => D.int (f a)) = true := by rw [D.flatA_all]; simp
@[simp] theorem cleanA_mapI {α : Type} (f : α → Int) (l : List α) : T.cleanA (l.map fun a => T.v (.int (f a))) = true := by induction l with
  | nil => rfl
  | cons a l ih => simp [ih]
@[simp] theorem dA_app (l m : List T) : T.dA (l ++ m) = T.dA l ++ T.dA m := by rw [T.dA_map, T.dA_map, T.dA_map, List.map_append]
@[simp] theorem flatA_app (l m : List D) : D.flatA (l ++ m) = (D.flatA l && D.flatA m) := by rw [D.flatA_all, D.flatA_all, D.flatA_all, List.all_append]
@[simp] theorem cleanA_app (l m : List T) : T.cleanA (l ++ m) = (T.cleanA l && T.cleanA m) := by induction l with
  | nil => simp
  | cons a l ih => simp [ih, Bool.and_assoc]
theorem zipL_map {α : Type} (f g : α → D) : ∀ l : List α, zipL (l.map f) (l.map g) = l.map fun a => .tup [f a, g a]
  | [] => rfl
  | a :: l => by rw [List.map_cons, List.map_cons, zipL, zipL_map f g l]; rfl
theorem enumL_rng' (h : Nat → D) : ∀ (n a : Nat), enumL a ((List.range' a n).map h) = (List.range' a n).map fun k : Nat => .tup [.int k, h k]
  | 0, a => rfl
  | n + 1, a => by rw [List.range'_succ, List.map_cons, enumL, enumL_rng' h n (a + 1)]; rfl
theorem enumL_rng (h : Nat → D) (n : Nat) : enumL 0 ((List.range n).map h) = (List.range n).map fun k : Nat => .tup [.int k, h k] := by
  rw [List.range_eq_range']; exact enumL_rng' h n 0
theorem rngL_0 (n : Nat) : rngL 0 n = (List.range n).map fun k : Nat => D.int k := by simp [rngL]
theorem enumL_map {α : Type} (inj : α → D) : ∀ (l : List α) (n : Nat), enumL n (l.map inj) = (l.zipIdx n).map fun x => .tup [.int (x.2 : Nat), inj x.1]
  | [], _ => rfl
  | a :: l, n => by rw [List.map_cons, enumL, enumL_map inj l (n + 1), List.zipIdx_cons]; rfl
end Dg

set_option Elab.async false
set_option linter.all false
set_option maxHeartbeats 4000000
namespace Dg
open PySem L2
/-! ### glasses, plain -/
abbrev Rw := List (List Int)
def gcf (g : Nat) (l : List Int) : Nat := l.foldl (fun (g : Nat) x => Nat.gcd g x.natAbs) g
def gcr (rs : Rw) : Nat := rs.foldl gcf 0
def scl (k : Int) (rs : Rw) : Rw := rs.map fun r => r.map fun x => x * k
def dvr (k : Int) (rs : Rw) : Rw := rs.map fun r => r.map fun x => x / k
def redB (b : Int) (rs : Rw) : Int := b / (gcr rs : Int)
def redR (rs : Rw) : Rw := dvr (gcr rs) rs
theorem gcf_dvd (d : Nat) : ∀ (l : List Int) (g : Nat), d ∣ gcf g l ↔ d ∣ g ∧ ∀ x ∈ l, (d : Int) ∣ x
  | [], g => by simp [gcf]
  | x :: l, g => by
    have h : gcf g (x :: l) = gcf (Nat.gcd g x.natAbs) l := rfl
    rw [h, gcf_dvd d l, Nat.dvd_gcd_iff, List.forall_mem_cons, and_assoc, Int.ofNat_dvd_left]
theorem gcrf_dvd (d : Nat) : ∀ (rs : Rw) (g : Nat), d ∣ rs.foldl gcf g ↔ d ∣ g ∧ ∀ r ∈ rs, ∀ x ∈ r, (d : Int) ∣ x
  | [], g => by simp
  | r :: rs, g => by
    rw [List.foldl_cons, gcrf_dvd d rs, gcf_dvd, List.forall_mem_cons, and_assoc]
theorem gcr_dvd {rs : Rw} {d : Nat} : d ∣ gcr rs ↔ ∀ r ∈ rs, ∀ x ∈ r, (d : Int) ∣ x := by
  unfold gcr; rw [gcrf_dvd]; simp
theorem gcf_scl (k : Nat) : ∀ (l : List Int) (g : Nat), gcf (g * k) (l.map fun x => x * (k : Int)) = gcf g l * k
  | [], g => rfl
  | x :: l, g => by
    show gcf (Nat.gcd (g * k) (x * (k : Int)).natAbs) _ = gcf (Nat.gcd g x.natAbs) l * k
    rw [Int.natAbs_mul, Int.natAbs_natCast, Nat.gcd_mul_right, gcf_scl k l]
theorem gcr_scl (k : Nat) (rs : Rw) : gcr (scl k rs) = gcr rs * k := by
  have : ∀ (rs : Rw) (g : Nat), (scl k rs).foldl gcf (g * k) = rs.foldl gcf g * k := by
    intro rs
    induction rs with
    | nil => intro g; rfl
    | cons r rs ih => intro g; show (scl k rs).foldl gcf (gcf (g * k) _) = rs.foldl gcf (gcf g r) * k; rw [gcf_scl, ih]
  have h := this rs 0
  rw [Nat.zero_mul] at h
  exact h
theorem scl_dvr {rs : Rw} : scl (gcr rs) (redR rs) = rs := by
  unfold scl redR dvr
  rw [List.map_map]
  have h := (gcr_dvd (rs := rs) (d := gcr rs)).mp (Nat.dvd_refl _)
  conv => rhs; rw [← List.map_id rs]
  apply List.map_congr_left
  intro r hr
  simp only [Function.comp, List.map_map, id]
  conv => rhs; rw [← List.map_id r]
  apply List.map_congr_left
  intro x hx
  exact Int.ediv_mul_cancel (h r hr x hx)
/-- a glass's or a dulling's rows -/
structure Good (m w : Nat) (b : Int) (rs : Rw) : Prop where
  len : rs.length = m
  m0 : 0 < m
  wid : ∀ r ∈ rs, r.length = w
  w0 : 0 < w
  w12 : w ≤ 12
  b0 : 0 < b
  nn : ∀ r ∈ rs, ∀ x ∈ r, (0 : Int) ≤ x
  sum : ∀ r ∈ rs, r.sum = b
theorem le_sum : ∀ {l : List Int}, (∀ x ∈ l, (0 : Int) ≤ x) → ∀ x ∈ l, x ≤ l.sum
  | y :: l, h, x, m => by
    have h2 := fun z hz => h z (List.mem_cons_of_mem y hz)
    have s0 : 0 ≤ l.sum := by
      clear h m
      induction l with
      | nil => simp
      | cons z l ih => have := h2 z List.mem_cons_self; have := ih (fun q hq => h2 q (List.mem_cons_of_mem _ hq)); rw [List.sum_cons]; omega
    rw [List.sum_cons]
    rcases List.mem_cons.mp m with rfl | m
    · omega
    · have := le_sum h2 x m; have := h y List.mem_cons_self; omega
theorem sum_scl (k : Int) : ∀ l : List Int, (l.map fun x => x * k).sum = l.sum * k
  | [] => by simp
  | x :: l => by rw [List.map_cons, List.sum_cons, List.sum_cons, sum_scl k l, Int.add_mul]
section
variable {m w : Nat} {b : Int} {rs : Rw}
theorem Good.le (h : Good m w b rs) {r : List Int} (hr : r ∈ rs) {x : Int} (hx : x ∈ r) : 0 ≤ x ∧ x ≤ b := ⟨h.nn r hr x hx, by rw [← h.sum r hr]; exact le_sum (h.nn r hr) x hx⟩
theorem Good.row0 (h : Good m w b rs) : ∃ r rs', rs = r :: rs' := by
  cases rs with
  | nil => have := h.len; have := h.m0; simp at *; omega
  | cons r rs => exact ⟨r, rs, rfl⟩
theorem Good.g0 (h : Good m w b rs) : 0 < gcr rs := by
  refine Nat.pos_of_ne_zero fun z => ?_
  obtain ⟨r, rs', rfl⟩ := h.row0
  have h2 := (gcr_dvd (rs := r :: rs') (d := 0)).mp (by rw [z]; exact Nat.dvd_refl _) r List.mem_cons_self
  have h3 : ∀ l : List Int, (∀ x ∈ l, ((0 : Nat) : Int) ∣ x) → l.sum = 0 := by
    intro l
    induction l with
    | nil => intro _; rfl
    | cons x l ih => intro h; rw [List.sum_cons, ih fun q hq => h q (List.mem_cons_of_mem _ hq)]; have := h x List.mem_cons_self; rw [Int.natCast_zero, Int.zero_dvd] at this; omega
  have := h3 r h2
  rw [h.sum r List.mem_cons_self] at this
  have := h.b0
  omega
theorem Good.rowsum (h : Good m w b rs) : ∀ r ∈ redR rs, r.sum * (gcr rs : Int) = b := by
  intro r hr
  have e := scl_dvr (rs := rs)
  have : (r.map fun x => x * (gcr rs : Int)) ∈ rs := by
    have h2 : (r.map fun x => x * (gcr rs : Int)) ∈ scl (gcr rs) (redR rs) := by unfold scl; exact List.mem_map.mpr ⟨r, hr, rfl⟩
    rwa [e] at h2
  rw [← h.sum _ this, sum_scl]
theorem Good.gb (h : Good m w b rs) : (gcr rs : Int) ∣ b := by
  obtain ⟨r, rs', e⟩ := h.row0
  have : (r.map fun x => x / (gcr rs : Int)) ∈ redR rs := by unfold redR dvr; rw [e]; simp
  exact ⟨_, by rw [← h.rowsum _ this, Int.mul_comm]⟩
theorem Good.redB_mul (h : Good m w b rs) : redB b rs * gcr rs = b := Int.ediv_mul_cancel h.gb
theorem Good.redB0 (h : Good m w b rs) : 0 < redB b rs := by
  have h1 := h.redB_mul
  have h2 := h.b0
  have h3 := h.g0
  by_cases q : 0 < redB b rs
  · exact q
  · have : redB b rs * gcr rs ≤ 0 := Int.mul_nonpos_of_nonpos_of_nonneg (by omega) (by omega)
    omega
theorem Good.red (h : Good m w b rs) : Good m w (redB b rs) (redR rs) where
  len := by simp [redR, dvr, h.len]
  m0 := h.m0
  wid := by
    intro r hr
    obtain ⟨r', hr', rfl⟩ := List.mem_map.mp (show r ∈ rs.map _ from hr)
    simp [h.wid r' hr']
  w0 := h.w0
  w12 := h.w12
  b0 := h.redB0
  nn := by
    intro r hr x hx
    obtain ⟨r', hr', rfl⟩ := List.mem_map.mp (show r ∈ rs.map _ from hr)
    obtain ⟨y, hy, rfl⟩ := List.mem_map.mp hx
    exact Int.ediv_nonneg (h.nn r' hr' y hy) (by omega)
  sum := by
    intro r hr
    have h1 := h.rowsum r hr
    have h2 := h.redB_mul
    have h3 := h.g0
    rw [← h2] at h1
    exact Int.eq_of_mul_eq_mul_right (by omega) h1
theorem Good.red1 (h : Good m w b rs) : gcr (redR rs) = 1 := by
  have h1 := gcr_scl (gcr rs) (redR rs)
  rw [scl_dvr] at h1
  have := h.g0
  have h2 : 1 * gcr rs = gcr (redR rs) * gcr rs := by omega
  exact (Nat.eq_of_mul_eq_mul_right this h2).symm
theorem red_one (h : gcr rs = 1) : redB b rs = b ∧ redR rs = rs := by
  constructor
  · unfold redB; rw [h]; simp
  · have := scl_dvr (rs := rs)
    rw [h] at this
    simpa [scl] using this
theorem Good.le_red (h : Good m w b rs) : redB b rs ≤ b := by
  have h1 := h.redB_mul
  have h2 := h.redB0
  have h3 := h.g0
  have h4 : redB b rs * 1 ≤ redB b rs * (gcr rs : Int) := Int.mul_le_mul_of_nonneg_left (by omega) (by omega)
  omega
end
theorem red_scl {b : Int} {rs : Rw} (k : Nat) (hk : 0 < k) : redB (b * k) (scl k rs) = redB b rs ∧ redR (scl k rs) = redR rs := by
  have hk' : (0 : Int) < k := by omega
  unfold redB redR dvr
  rw [gcr_scl, Int.natCast_mul]
  refine ⟨Int.mul_ediv_mul_of_pos_left _ _ hk', ?_⟩
  unfold scl
  rw [List.map_map]
  apply List.map_congr_left
  intro r _
  simp only [Function.comp, List.map_map]
  apply List.map_congr_left
  intro x _
  exact Int.mul_ediv_mul_of_pos_left _ _ hk'
/-- what goes as one and the same is made one and the same -/
theorem red_prop {b b' : Int} {rs rs' : Rw} (hb : 0 < b) (hb' : 0 < b') (h : scl b' rs = scl b rs') : redB b rs = redB b' rs' ∧ redR rs = redR rs' := by
  obtain ⟨n, rfl⟩ := Int.eq_ofNat_of_zero_le (show 0 ≤ b by omega)
  obtain ⟨n', rfl⟩ := Int.eq_ofNat_of_zero_le (show 0 ≤ b' by omega)
  have h1 := red_scl (b := (n : Int)) (rs := rs) n' (by omega)
  have h2 := red_scl (b := (n' : Int)) (rs := rs') n (by omega)
  rw [h] at h1
  rw [Int.mul_comm] at h2
  exact ⟨h1.1.symm.trans h2.1, h1.2.symm.trans h2.2⟩
theorem scl_scl (a g : Int) (rs : Rw) : scl a (scl g rs) = scl (g * a) rs := by
  unfold scl
  rw [List.map_map]
  apply List.map_congr_left
  intro r _
  simp only [Function.comp, List.map_map]
  apply List.map_congr_left
  intro x _
  simp only [Function.comp]
  rw [Int.mul_assoc]
theorem Good.cross {m w : Nat} {b : Int} {rs : Rw} (h : Good m w b rs) : scl (redB b rs) rs = scl b (redR rs) := by
  have e := scl_dvr (rs := rs)
  have e2 := h.redB_mul
  calc scl (redB b rs) rs = scl (redB b rs) (scl (gcr rs) (redR rs)) := by rw [e]
    _ = scl (gcr rs * redB b rs) (redR rs) := scl_scl _ _ _
    _ = scl b (redR rs) := by rw [Int.mul_comm, e2]
/-! ### as data -/
def rowT (r : List Int) : D := .tup (r.map .int)
def rowL (r : List Int) : D := .lst (r.map .int)
def rwT (rs : Rw) : D := .tup (rs.map rowT)
def glD (b : Int) (rs : Rw) : D := .tup [.int b, rwT rs]
@[simp] theorem flatA_int (l : List Int) : D.flatA (l.map D.int) = true := by rw [D.flatA_all]; simp
@[simp] theorem flat_rowT (r : List Int) : (rowT r).flat = true := by simp [rowT]
@[simp] theorem flatA_rowT (rs : Rw) : D.flatA (rs.map rowT) = true := by rw [D.flatA_all]; simp
@[simp] theorem flat_rwT (rs : Rw) : (rwT rs).flat = true := by simp [rwT]
@[simp] theorem flat_glD (b : Int) (rs : Rw) : (glD b rs).flat = true := by simp [glD]
@[simp high] theorem keepD_rowT (e : En) (r : List Int) : keepD e (rowT r) = some (.v (rowT r)) := by
  show (if (allV e || (rowT r).flat) = true then some (T.v (rowT r)) else none) = _
  rw [flat_rowT, Bool.or_true, if_pos rfl]
@[simp high] theorem keepD_rwT (e : En) (rs : Rw) : keepD e (rwT rs) = some (.v (rwT rs)) := by
  show (if (allV e || (rwT rs).flat) = true then some (T.v (rwT rs)) else none) = _
  rw [flat_rwT, Bool.or_true, if_pos rfl]
@[simp high] theorem keepD_glD (e : En) (b : Int) (rs : Rw) : keepD e (glD b rs) = some (.v (glD b rs)) := by
  show (if (allV e || (glD b rs).flat) = true then some (T.v (glD b rs)) else none) = _
  rw [flat_glD, Bool.or_true, if_pos rfl]
@[simp] theorem nbA_int (l : List Int) (n : Nat) : D.nbA (l.map D.int) n = true := by induction l with
  | nil => rfl
  | cons x l ih => simp [ih]
@[simp] theorem nb_rowT (r : List Int) (n : Nat) : (rowT r).nb (n + 1) = true := by simp [rowT]
@[simp] theorem nb_rwT (rs : Rw) (n : Nat) : (rwT rs).nb (n + 2) = true := by
  simp only [rwT, D.nb]
  induction rs with
  | nil => rfl
  | cons x l ih => simp at ih ⊢; exact ih
@[simp] theorem nb_glD (b : Int) (rs : Rw) (n : Nat) : (glD b rs).nb (n + 3) = true := by simp [glD]
theorem int_inj : ∀ {l l' : List Int}, l.map D.int = l'.map D.int → l = l' := by
  intro l l' h
  exact (List.map_inj_right (fun x y h => by cases h; rfl)).mp h
theorem rowT_inj {r r' : List Int} (h : rowT r = rowT r') : r = r' := by
  unfold rowT at h; exact int_inj (by injection h)
theorem rwT_inj {rs rs' : Rw} (h : rwT rs = rwT rs') : rs = rs' := by
  unfold rwT at h
  exact (List.map_inj_right (fun x y h => rowT_inj h)).mp (by injection h)
theorem glD_inj {b b' : Int} {rs rs' : Rw} (h : glD b rs = glD b' rs') : b = b' ∧ rs = rs' := by
  unfold glD at h
  simp only [D.tup.injEq, List.cons.injEq, D.int.injEq, and_true] at h
  exact ⟨h.1, rwT_inj h.2⟩
end Dg

set_option Elab.async false
set_option linter.all false
set_option maxHeartbeats 4000000
namespace Dg
open PySem L2
/-! ### tables -/
def tab (m w : Nat) (f : Nat → Nat → Int) : Rw := (List.range m).map fun i => (List.range w).map fun j => f i j
def ent (rs : Rw) (i j : Nat) : Int := (rs.getD i []).getD j 0
def sumTo : Nat → (Nat → Int) → Int
  | 0, _ => 0
  | n + 1, f => sumTo n f + f n
theorem tab_congr {m w : Nat} {f g : Nat → Nat → Int} (h : ∀ i, i < m → ∀ j, j < w → f i j = g i j) : tab m w f = tab m w g := by
  unfold tab
  apply List.map_congr_left
  intro i hi
  apply List.map_congr_left
  intro j hj
  exact h i (List.mem_range.mp hi) j (List.mem_range.mp hj)
theorem list_tab {α : Type} (z : α) : ∀ (l : List α), l = (List.range l.length).map fun j => l.getD j z
  | l => by
    refine List.ext_getElem (by simp) fun i h1 h2 => ?_
    simp at h2 ⊢
    rw [List.getElem?_eq_getElem h1]; rfl
theorem tab_of {m w : Nat} {rs : Rw} (h1 : rs.length = m) (h2 : ∀ r ∈ rs, r.length = w) : rs = tab m w (ent rs) := by
  subst h1
  conv => lhs; rw [list_tab [] rs]
  unfold tab ent
  apply List.map_congr_left
  intro i hi
  have hi := List.mem_range.mp hi
  have hm : rs.getD i [] ∈ rs := by
    rw [List.getD_eq_getElem?_getD, List.getElem?_eq_getElem hi]; exact List.getElem_mem hi
  conv => lhs; rw [list_tab 0 (rs.getD i [])]
  rw [h2 _ hm]
theorem tab_len (m w : Nat) (f : Nat → Nat → Int) : (tab m w f).length = m := by simp [tab]
theorem tab_wid {m w : Nat} {f : Nat → Nat → Int} : ∀ r ∈ tab m w f, r.length = w := fun r hr => by
  obtain ⟨i, _, rfl⟩ := List.mem_map.mp hr
  simp
theorem tab_at {m w : Nat} {f : Nat → Nat → Int} {i : Nat} (h : i < m) : (tab m w f)[i]? = some ((List.range w).map fun j => f i j) := by simp [tab, h]
theorem row_at {w : Nat} {f : Nat → Int} {j : Nat} (h : j < w) : ((List.range w).map fun j => f j)[j]? = some (f j) := by simp [h]
theorem scl_tab (k : Int) (m w : Nat) (f : Nat → Nat → Int) : scl k (tab m w f) = tab m w fun i j => f i j * k := by
  unfold scl tab
  rw [List.map_map]
  apply List.map_congr_left
  intro i _
  simp [Function.comp_def]
theorem dvr_tab (k : Int) (m w : Nat) (f : Nat → Nat → Int) : dvr k (tab m w f) = tab m w fun i j => f i j / k := by
  unfold dvr tab
  rw [List.map_map]
  apply List.map_congr_left
  intro i _
  simp [Function.comp_def]
theorem sum_rng : ∀ (n : Nat) (f : Nat → Int), ((List.range n).map f).sum = sumTo n f
  | 0, f => rfl
  | n + 1, f => by rw [List.range_succ, List.map_append, List.sum_append, sum_rng n f]; simp [sumTo]
theorem ent_tab {N u : Nat} {E : Nat → Nat → Int} {k q : Nat} (hk : k < N) (hq : q < u) : ent (tab N u E) k q = E k q := by simp [ent, tab, hk, hq]
theorem getD_rng {N : Nat} {S : Nat → Int} {k : Nat} (hk : k < N) : ((List.range N).map S).getD k 0 = S k := by simp [hk]
theorem sumTo_congr {f g : Nat → Int} : ∀ {n : Nat}, (∀ i, i < n → f i = g i) → sumTo n f = sumTo n g
  | 0, _ => rfl
  | n + 1, h => by rw [sumTo, sumTo, sumTo_congr fun i hi => h i (by omega), h n (by omega)]
theorem sumTo_add (f g : Nat → Int) : ∀ n : Nat, sumTo n (fun i => f i + g i) = sumTo n f + sumTo n g
  | 0 => rfl
  | n + 1 => by rw [sumTo, sumTo, sumTo, sumTo_add f g n]; omega
theorem sumTo_mul (k : Int) (f : Nat → Int) : ∀ n : Nat, sumTo n (fun i => k * f i) = k * sumTo n f
  | 0 => by simp [sumTo]
  | n + 1 => by rw [sumTo, sumTo, sumTo_mul k f n, Int.mul_add]
theorem sumTo_mulr (k : Int) (f : Nat → Int) : ∀ n : Nat, sumTo n (fun i => f i * k) = sumTo n f * k
  | 0 => by simp [sumTo]
  | n + 1 => by rw [sumTo, sumTo, sumTo_mulr k f n, Int.add_mul]
theorem sumTo_zero : ∀ n : Nat, sumTo n (fun _ => 0) = 0
  | 0 => rfl
  | n + 1 => by rw [sumTo, sumTo_zero n]; rfl
theorem sumTo_nn {f : Nat → Int} : ∀ {n : Nat}, (∀ i, i < n → 0 ≤ f i) → 0 ≤ sumTo n f
  | 0, _ => by simp [sumTo]
  | n + 1, h => by have := sumTo_nn (n := n) fun i hi => h i (by omega); have := h n (by omega); rw [sumTo]; omega
theorem sumTo_comm (f : Nat → Nat → Int) (n : Nat) : ∀ m : Nat, sumTo m (fun i => sumTo n (f i)) = sumTo n fun j => sumTo m fun i => f i j
  | 0 => by simp only [sumTo]; rw [sumTo_zero]
  | m + 1 => by rw [sumTo, sumTo_comm f n m, ← sumTo_add]; rfl
theorem sumTo_one {f : Nat → Int} {j : Nat} : ∀ {n : Nat}, j < n → sumTo n (fun i => if i = j then f i else 0) = f j
  | 0, h => by omega
  | n + 1, h => by
    rw [sumTo]
    by_cases hj : j = n
    · subst hj
      rw [if_pos rfl, sumTo_congr (g := fun _ => 0) fun i hi => if_neg (by omega), sumTo_zero]; omega
    · rw [if_neg (Ne.symm hj), sumTo_one (n := n) (by omega)]; omega
theorem sumTo_le {f : Nat → Int} {j : Nat} : ∀ {n : Nat}, (∀ i, i < n → 0 ≤ f i) → j < n → f j ≤ sumTo n f
  | 0, _, h => by omega
  | n + 1, h, hj => by
    rw [sumTo]
    by_cases e : j = n
    · subst e; have := sumTo_nn (n := j) fun i hi => h i (by omega); omega
    · have := sumTo_le (n := n) (fun i hi => h i (by omega)) (show j < n by omega); have := h n (by omega); omega
/-- a glass's numbers, pointwise -/
structure GT (m w : Nat) (b : Int) (f : Nat → Nat → Int) : Prop where
  m0 : 0 < m
  w0 : 0 < w
  w12 : w ≤ 12
  b0 : 0 < b
  nn : ∀ i, i < m → ∀ j, j < w → 0 ≤ f i j
  sum : ∀ i, i < m → sumTo w (f i) = b
section
variable {m n w : Nat} {a b : Int} {f g : Nat → Nat → Int} {rs : Rw}
theorem GT.good (h : GT m w b f) : Good m w b (tab m w f) where
  len := tab_len m w f
  m0 := h.m0
  wid := tab_wid
  w0 := h.w0
  w12 := h.w12
  b0 := h.b0
  nn := fun r hr x hx => by
    obtain ⟨i, hi, rfl⟩ := List.mem_map.mp hr
    obtain ⟨j, hj, rfl⟩ := List.mem_map.mp hx
    exact h.nn i (List.mem_range.mp hi) j (List.mem_range.mp hj)
  sum := fun r hr => by
    obtain ⟨i, hi, rfl⟩ := List.mem_map.mp hr
    rw [sum_rng]; exact h.sum i (List.mem_range.mp hi)
theorem Good.tabE (h : Good m w b rs) : rs = Dg.tab m w (ent rs) := tab_of h.len h.wid
theorem Good.gt (h : Good m w b (Dg.tab m w f)) : GT m w b f where
  m0 := h.m0
  w0 := h.w0
  w12 := h.w12
  b0 := h.b0
  nn := fun i hi j hj => h.nn _ (List.mem_map.mpr ⟨i, List.mem_range.mpr hi, rfl⟩) _ (List.mem_map.mpr ⟨j, List.mem_range.mpr hj, rfl⟩)
  sum := fun i hi => by
    have := h.sum _ (List.mem_map.mpr ⟨i, List.mem_range.mpr hi, rfl⟩)
    rwa [sum_rng] at this
theorem GT.le (h : GT m w b f) {i j : Nat} (hi : i < m) (hj : j < w) : 0 ≤ f i j ∧ f i j ≤ b := ⟨h.nn i hi j hj, by rw [← h.sum i hi]; exact sumTo_le (h.nn i hi) hj⟩
theorem GT.congr (h : GT m w b f) (e : ∀ i, i < m → ∀ j, j < w → f i j = g i j) : GT m w b g := ⟨h.m0, h.w0, h.w12, h.b0, fun i hi j hj => by rw [← e i hi j hj]; exact h.nn i hi j hj, fun i hi => by rw [← h.sum i hi]; exact (sumTo_congr fun j hj => (e i hi j hj)).symm⟩
/-- one and the same, made -/
theorem red_tab {b' : Int} (hb : 0 < b) (hb' : 0 < b') (h : ∀ i, i < m → ∀ j, j < w → f i j * b' = g i j * b) : redB b (Dg.tab m w f) = redB b' (Dg.tab m w g) ∧ redR (Dg.tab m w f) = redR (Dg.tab m w g) :=
  red_prop hb hb' (by rw [scl_tab, scl_tab]; exact tab_congr h)
/-- the made one, pointwise -/
def rdF (m w : Nat) (f : Nat → Nat → Int) : Nat → Nat → Int := fun i j => f i j / (gcr (Dg.tab m w f) : Int)
theorem redR_tab : redR (Dg.tab m w f) = Dg.tab m w (rdF m w f) := dvr_tab _ _ _ _
theorem GT.red (h : GT m w b f) : GT m w (redB b (Dg.tab m w f)) (rdF m w f) := by
  have := h.good.red
  rw [redR_tab] at this
  exact this.gt
theorem GT.cross (h : GT m w b f) {i j : Nat} (hi : i < m) (hj : j < w) : f i j * redB b (Dg.tab m w f) = rdF m w f i j * b := by
  have e := h.good.cross
  rw [redR_tab, scl_tab, scl_tab] at e
  have e2 := congrArg (fun r : Rw => ent r i j) e
  simpa [ent, Dg.tab, hi, hj] using e2
/-- the product's numbers -/
def mulF (n : Nat) (f g : Nat → Nat → Int) : Nat → Nat → Int := fun i k => sumTo n fun j => f i j * g j k
theorem GT.mul (h : GT m n a f) (h2 : GT n w b g) : GT m w (a * b) (mulF n f g) where
  m0 := h.m0
  w0 := h2.w0
  w12 := h2.w12
  b0 := Int.mul_pos h.b0 h2.b0
  nn := fun i hi k hk => sumTo_nn fun j hj => Int.mul_nonneg (h.nn i hi j hj) (h2.nn j hj k hk)
  sum := fun i hi => by
    unfold mulF
    rw [sumTo_comm (fun k j => f i j * g j k)]
    rw [sumTo_congr (g := fun j => f i j * b) fun j hj => by rw [sumTo_mul, h2.sum j hj], sumTo_mulr, h.sum i hi]
end
end Dg

set_option Elab.async false
set_option linter.all false
set_option maxRecDepth 100000
set_option maxHeartbeats 4000000
namespace Dg
open PySem PySem.Spec PyProof.Rows L2
noncomputable def b_Ldrawn_902e8 : MS := (sSeq (sSet 3 (oP (mC (.int 0))))
  (sSeq (sIf (toT (op2 ltD (mVar 1) (opA lenD [(mVar 0)]))) (sSet 3 (oIx (oVar 0) (mVar 1))) sNil)
  (sSeq (sSet 4 (oLst []))
  (sSeq (sIf (toT (op2 eqD (op2 modD (op2 ixD (op2 addD (mVar 0) (pO (oLst [(oP (mC (.int 0)))]))) (mC (.int 0))) (mC (.int 2))) (mC (.int 0)))) (sSeq (sFor (itSeq (oVar 2)) (tgN 5) (sSeq (sApp 4 (oP (op2 modD (mVar 3) (mVar 5))))
  (sSet 3 (oP (op2 divD (mVar 3) (mVar 5))))))
  (sRetV 4)) sNil)
  (sSeq (sSet 6 (oF (op2O addD (op2 modD (op2 addD (mVar 3) (op2 mulD (mC (.int 48271)) (mVar 1))) (mC (.int 2147483647))) (mC (.int 1)))))
  (sSeq (sFor (itEnumB (oVar 2)) (tgT [7, 5]) (sSeq (sSet 6 (oP (op2 modD (op2 addD (op2 mulD (mVar 6) (mC (.int 48271))) (mVar 7)) (mC (.int 2147483647)))))
  (sSeq (sSet 8 (oP (op2 modD (op2 addD (op2 addD (op2 mulD (mVar 6) (mVar 6)) (op2 mulD (mC (.int 69621)) (mVar 6))) (mVar 1)) (mC (.int 2147483629)))))
  (sApp 4 (oP (op2 modD (op2 divD (op2 modD (op2 addD (op2 mulD (mVar 8) (mC (.int 40692))) (mVar 6)) (mC (.int 2147483399))) (mC (.int 7))) (mVar 5)))))))
  (sRetV 4)))))))
noncomputable def m_Ldrawn_902e8 : List D → Cs → R T := runB 9 b_Ldrawn_902e8

noncomputable def b_Lcommon_839ba : MS := (sSeq (sWhile (toT (op2 gtD (mVar 1) (mC (.int 0)))) (sSeq (sSet 2 (oP (op2 modD (mVar 0) (mVar 1))))
  (sSeq (sSet 0 (oVar 1))
  (sSet 1 (oVar 2)))))
  (sRetV 0))
noncomputable def m_Lcommon_839ba : List D → Cs → R T := runB 3 b_Lcommon_839ba

noncomputable def b_Lmade_c9de9 : MS := (sSeq (sSet 2 (oP (mC (.int 0))))
  (sSeq (sFor (itSeq (oVar 1)) (tgN 3) (sFor (itSeq (oVar 3)) (tgN 4) (sSet 2 (oF (callO m_Lcommon_839ba [(mVar 4), (mVar 2)])))))
  (sSeq (sSet 5 (oLst []))
  (sSeq (sFor (itSeq (oVar 1)) (tgN 3) (sApp 5 (oD (opA tupleD [(pO (oComp [4] (itSeq (oVar 3)) (tgN 4) tY (oP (op2 divD (mVar 4) (mVar 2)))))]))))
  (sRet (oTup [(oP (op2 divD (mVar 0) (mVar 2))), (oD (opA tupleD [(mVar 5)]))]))))))
noncomputable def m_Lmade_c9de9 : List D → Cs → R T := runB 6 b_Lmade_c9de9

noncomputable def b_Lcut_57d94 : MS := (sSeq (sSet 2 (oLst []))
  (sSeq (sSet 3 (oP (mC (.int 0))))
  (sSeq (sFor (itSeq (op2O addD (opA sortedD [(mVar 1)]) (pO (oLst [(oVar 0)])))) (tgN 4) (sSeq (sApp 2 (oP (op2 subD (mVar 4) (mVar 3))))
  (sSet 3 (oVar 4))))
  (sRetV 2))))
noncomputable def m_Lcut_57d94 : List D → Cs → R T := runB 5 b_Lcut_57d94

noncomputable def b_Lrows_357fb : MS := (sSeq (sSet 4 (oF (oLst [(op2O addD (op2 subD (op2 ixD (mVar 2) (mC (.int 1))) (op2 ixD (mVar 2) (mC (.int 0)))) (mC (.int 1))), (oVar 3), (oP (mC (.int 9))), (oP (mC (.int 999999)))])))
  (sSeq (sSet 5 (oF (callO m_Ldrawn_902e8 [(mVar 0), (mVar 1), (mVar 4)])))
  (sSeq (sSet 6 (oF (op2O addD (op2 ixD (mVar 2) (mC (.int 0))) (op2 ixD (mVar 5) (mC (.int 0))))))
  (sSeq (sSet 7 (oIx (oLst [(oP (mC (.int 1))), (oP (mC (.int 2))), (oP (mC (.int 3))), (oP (mC (.int 4))), (oP (mC (.int 5))), (oP (mC (.int 6))), (oP (mC (.int 12))), (oP (mC (.int 60))), (op2O addD (mC (.int 1)) (op2 ixD (mVar 5) (mC (.int 3))))]) (op2 ixD (mVar 5) (mC (.int 2)))))
  (sSeq (sSet 8 (oF (oD (pSl (callP m_Ldrawn_902e8 [(mVar 0), (mVar 1), (op2 addD (mVar 4) (op2 mulD (pO (oLst [(op2O addD (mVar 7) (mC (.int 1)))])) (op2 mulD (mVar 6) (op2 ixD (mVar 5) (mC (.int 1))))))]) (some (mC (.int 4))) none))))
  (sSeq (sSet 9 (oLst []))
  (sSeq (sFor (itRng [(mVar 6)]) (tgN 10) (sSeq (sSet 11 (oF (oD (op2 mulD (mVar 10) (op2 ixD (mVar 5) (mC (.int 1)))))))
  (sApp 9 (callO m_Lcut_57d94 [(mVar 7), (pSl (mVar 8) (some (mVar 11)) (some (op2 addD (mVar 11) (op2 ixD (mVar 5) (mC (.int 1))))))]))))
  (sFrz 9 (sRet (oTup [(oVar 7), (oVar 9)]))))))))))
noncomputable def m_Lrows_357fb : List D → Cs → R T := runB 12 b_Lrows_357fb

noncomputable def b_Lglass_995d4 : MS := (sSeq (sUnp [4, 5] (oF (callO m_Lrows_357fb [(mVar 0), (mVar 1), (mVar 2), (mVar 3)])))
  (sRet (callO m_Lmade_c9de9 [(mVar 4), (mVar 5)])))
noncomputable def m_Lglass_995d4 : List D → Cs → R T := runB 6 b_Lglass_995d4

noncomputable def b_common_73267 : MS := (sSeq (sSet 0 (oP (opA absD [(mVar 0)])))
  (sSeq (sSet 1 (oP (opA absD [(mVar 1)])))
  (sSeq (sWhile (toT (op2 gtD (mVar 1) (mC (.int 0)))) (sSeq (sSet 2 (oP (op2 modD (mVar 0) (mVar 1))))
  (sSeq (sSet 0 (oVar 1))
  (sSet 1 (oVar 2)))))
  (sRetV 0))))
noncomputable def m_common_73267 : List D → Cs → R T := runB 3 b_common_73267

noncomputable def b_is_whole_c5d19 : MS := (sRet (oP (andP (isiP "int" (mVar 0)) (notP (isiP "bool" (mVar 0))))))
noncomputable def m_is_whole_c5d19 : List D → Cs → R T := runB 1 b_is_whole_c5d19

noncomputable def b_share_95521 : MS := (sSeq (sIf (orT (notT (toT (callP m_is_whole_c5d19 [(mVar 0)]))) (orT (notT (toT (callP m_is_whole_c5d19 [(mVar 1)]))) (toT (op2 eqD (mVar 1) (mC (.int 0)))))) (sRaise "NoShare") sNil)
  (sSeq (sSet 2 (oF (callO m_common_73267 [(mVar 0), (mVar 1)])))
  (sSeq (sIf (toT (op2 ltD (mVar 1) (mC (.int 0)))) (sSet 2 (oP (op2 subD (mC (.int 0)) (mVar 2)))) sNil)
  (sRet (oTup [(oP (op2 divD (mVar 0) (mVar 2))), (oP (op2 divD (mVar 1) (mVar 2)))])))))
noncomputable def m_share_95521 : List D → Cs → R T := runB 3 b_share_95521

noncomputable def b_is_steeper_9add5 : MS := (sRet (oP (op2 gtD (op2 mulD (op2 ixD (mVar 0) (mC (.int 1))) (op2 ixD (mVar 1) (mC (.int 0)))) (op2 mulD (op2 ixD (mVar 1) (mC (.int 1))) (op2 ixD (mVar 0) (mC (.int 0)))))))
noncomputable def m_is_steeper_9add5 : List D → Cs → R T := runB 2 b_is_steeper_9add5

noncomputable def b_steps_of_c2200 : MS := (sSeq (sSet 1 (oLst []))
  (sSeq (sFor (itZipB (oIx (oIx (oVar 0) (mC (.int 1))) (mC (.int 0))) (oIx (oIx (oVar 0) (mC (.int 1))) (mC (.int 1)))) (tgN 2) (sIf (toT (op2 neD (mVar 2) (pTup [(mC (.int 0)), (mC (.int 0))]))) (sSeq (sSet 3 (oP (mC (.int 0))))
  (sSeq (sWhile (andT (toT (op2 ltD (mVar 3) (opA lenD [(mVar 1)]))) (toT (callP m_is_steeper_9add5 [(op2 ixD (mVar 1) (mVar 3)), (mVar 2)]))) (sSet 3 (oF (op2O addD (mVar 3) (mC (.int 1))))))
  (sIf (andT (toT (op2 ltD (mVar 3) (opA lenD [(mVar 1)]))) (notT (toT (callP m_is_steeper_9add5 [(mVar 2), (op2 ixD (mVar 1) (mVar 3))])))) (sSto 1 (mVar 3) (oTup [(op2O addD (op2 ixD (op2 ixD (mVar 1) (mVar 3)) (mC (.int 0))) (op2 ixD (mVar 2) (mC (.int 0)))), (op2O addD (op2 ixD (op2 ixD (mVar 1) (mVar 3)) (mC (.int 1))) (op2 ixD (mVar 2) (mC (.int 1))))])) (sIns 1 (mVar 3) (oVar 2))))) sNil))
  (sRetV 1)))
noncomputable def m_steps_of_c2200 : List D → Cs → R T := runB 4 b_steps_of_c2200

noncomputable def b_stands_39d5e : MS := (sRet (oP (opA lenD [(op2 ixD (mVar 0) (mC (.int 1)))])))
noncomputable def m_stands_39d5e : List D → Cs → R T := runB 1 b_stands_39d5e

noncomputable def b_two_stands_04f69 : MS := (sIf (toT (op2 neD (callP m_stands_39d5e [(mVar 0)]) (mC (.int 2)))) (sRaise "NoFit") sNil)
noncomputable def m_two_stands_04f69 : List D → Cs → R T := runB 1 b_two_stands_04f69

noncomputable def b_curve_6c79e : MS := (sSeq (sDrop (callP m_two_stands_04f69 [(mVar 0)]))
  (sSeq (sSet 1 (oP (mC (.int 0))))
  (sSeq (sSet 2 (oP (mC (.int 0))))
  (sSeq (sSet 3 (oLst [(oTup [(oTup [(oP (mC (.int 0))), (oP (mC (.int 1)))]), (oTup [(oP (mC (.int 0))), (oP (mC (.int 1)))])])]))
  (sSeq (sFor (itSeq (callO m_steps_of_c2200 [(mVar 0)])) (tgN 4) (sSeq (sSet 1 (oF (op2O addD (mVar 1) (op2 ixD (mVar 4) (mC (.int 0))))))
  (sSeq (sSet 2 (oF (op2O addD (mVar 2) (op2 ixD (mVar 4) (mC (.int 1))))))
  (sApp 3 (oTup [(callO m_share_95521 [(mVar 1), (op2 ixD (mVar 0) (mC (.int 0)))]), (callO m_share_95521 [(mVar 2), (op2 ixD (mVar 0) (mC (.int 0)))])])))))
  (sRetV 3))))))
noncomputable def m_curve_6c79e : List D → Cs → R T := runB 5 b_curve_6c79e

noncomputable def b_Lis_no_fit_45fb8 : MS := (sSeq (sSet 1 (oP (mC .non)))
  (sSeq (sTry ["NoFit", "NoShare"] 2 1 (sDrop (callP m_curve_6c79e [(mVar 0)])))
  (sRet (oP (isiC ["NoFit", "NoShare"] ["NoFit"] (mVar 1))))))
noncomputable def m_Lis_no_fit_45fb8 : List D → Cs → R T := runB 3 b_Lis_no_fit_45fb8

noncomputable def b_Lnear_4f673 : MS := (sSeq (sSet 2 (oF (callO m_Ldrawn_902e8 [(mVar 0), (mVar 1), (pO (oLst [(oP (mC (.int 3))), (oP (op2 powD (mC (.int 10)) (mC (.int 9)))), (oP (op2 powD (mC (.int 10)) (mC (.int 9)))), (oP (op2 powD (mC (.int 10)) (mC (.int 9)))), (oP (mC (.int 3)))]))])))
  (sSeq (sSet 3 (oIx (oLst [(op2O addD (mC (.int 1)) (op2 modD (op2 ixD (mVar 2) (mC (.int 1))) (mC (.int 1000)))), (op2O addD (mC (.int 1)) (op2 ixD (mVar 2) (mC (.int 1)))), (op2O addD (op2 addD (op2 powD (mC (.int 10)) (mC (.int 18))) (op2 mulD (op2 ixD (mVar 2) (mC (.int 1))) (op2 powD (mC (.int 10)) (mC (.int 9))))) (op2 ixD (mVar 2) (mC (.int 2))))]) (op2 ixD (mVar 2) (mC (.int 0)))))
  (sSeq (sSet 4 (oF (oD (op2 mulD (op2 ixD (mVar 2) (mC (.int 3))) (op2 ixD (pO (oLst [(oP (mC (.int 1))), (oP (mC (.int 1))), (oP (op2 powD (mC (.int 10)) (mC (.int 20))))])) (op2 ixD (mVar 2) (mC (.int 0))))))))
  (sSeq (sSet 5 (oF (oLst [(oTup [(oVar 3), (op2O addD (mVar 3) (mC (.int 1)))]), (oTup [(op2O addD (mVar 3) (mC (.int 1))), (op2O addD (mVar 3) (mC (.int 2)))]), (oTup [(op2O addD (mVar 4) (mC (.int 2))), (oVar 4)])])))
  (sSeq (sSet 5 (oF (op2O addD (pSl (mVar 5) (some (op2 ixD (mVar 2) (mC (.int 4)))) none) (pSl (mVar 5) none (some (op2 ixD (mVar 2) (mC (.int 4))))))))
  (sSeq (sSet 6 (oF (oLst [(oComp [7] (itSeq (oVar 5)) (tgN 7) tY (oIx (oVar 7) (mC (.int 0)))), (oComp [7] (itSeq (oVar 5)) (tgN 7) tY (oIx (oVar 7) (mC (.int 1))))])))
  (sRet (callO m_Lmade_c9de9 [(opA sumD [(op2 ixD (mVar 6) (mC (.int 0)))]), (mVar 6)]))))))))
noncomputable def m_Lnear_4f673 : List D → Cs → R T := runB 8 b_Lnear_4f673

noncomputable def b_Lparted_91e29 : MS := (sSeq (sSet 2 (oP (opA lenD [(op2 ixD (op2 ixD (mVar 0) (mC (.int 1))) (mC (.int 0)))])))
  (sSeq (sIf (orT (toT (op2 gtD (op2 ixD (mVar 1) (mC (.int 0))) (mC (.int 0)))) (toT (op2 gtD (mVar 2) (mC (.int 6))))) (sRetV 0) sNil)
  (sSeq (sSet 3 (oLst []))
  (sSeq (sFor (itSeq (oIx (oVar 0) (mC (.int 1)))) (tgN 4) (sSeq (sSet 5 (oF (oLst [])))
  (sSeq (sFor (itRng [(mVar 2)]) (tgN 6) (sSet 5 (oF (op2O addD (mVar 5) (pO (oLst [(oD (op2 mulD (op2 ixD (mVar 4) (mVar 6)) (op2 modD (op2 ixD (mVar 1) (mC (.int 1))) (mC (.int 5))))), (oD (op2 mulD (op2 ixD (mVar 4) (mVar 6)) (op2 subD (mC (.int 5)) (op2 modD (op2 ixD (mVar 1) (mC (.int 1))) (mC (.int 5))))))]))))))
  (sApp 3 (op2O addD (pSt (mVar 5) none (some (mC (.int 2)))) (pSt (mVar 5) (some (mC (.int 1))) (some (mC (.int 2)))))))))
  (sRet (callO m_Lmade_c9de9 [(op2 mulD (mC (.int 5)) (op2 ixD (mVar 0) (mC (.int 0)))), (mVar 3)]))))))
noncomputable def m_Lparted_91e29 : List D → Cs → R T := runB 7 b_Lparted_91e29

noncomputable def b_Lsteeper_c6160 : MS := (sRet (oP (op2 subD (op2 mulD (op2 ixD (mVar 0) (mC (.int 1))) (op2 ixD (mVar 1) (mC (.int 0)))) (op2 mulD (op2 ixD (mVar 1) (mC (.int 1))) (op2 ixD (mVar 0) (mC (.int 0)))))))
noncomputable def m_Lsteeper_c6160 : List D → Cs → R T := runB 2 b_Lsteeper_c6160

noncomputable def b_Lsteps_35a56 : MS := (sSeq (sSet 1 (oLst []))
  (sSeq (sFor (itRng [(opA lenD [(op2 ixD (op2 ixD (mVar 0) (mC (.int 1))) (mC (.int 0)))])]) (tgN 2) (sIf (toT (op2 gtD (op2 addD (op2 ixD (op2 ixD (op2 ixD (mVar 0) (mC (.int 1))) (mC (.int 0))) (mVar 2)) (op2 ixD (op2 ixD (op2 ixD (mVar 0) (mC (.int 1))) (mC (.int 1))) (mVar 2))) (mC (.int 0)))) (sApp 1 (oTup [(oIx (oIx (oIx (oVar 0) (mC (.int 1))) (mC (.int 0))) (mVar 2)), (oIx (oIx (oIx (oVar 0) (mC (.int 1))) (mC (.int 1))) (mVar 2))])) sNil))
  (sSeq (sSet 3 (oLst []))
  (sSeq (sWhile (toT (op2 neD (mVar 1) (pO (oLst [])))) (sSeq (sSet 4 (oP (op2 ixD (mVar 1) (mC (.int 0)))))
  (sSeq (sFrz 1 (sFor (itSeq (oVar 1)) (tgN 5) (sIf (toT (op2 gtD (callP m_Lsteeper_c6160 [(mVar 5), (mVar 4)]) (mC (.int 0)))) (sSet 4 (oVar 5)) sNil)))
  (sSeq (sFrz 1 (sSet 6 (oF (oComp [5] (itSeq (oVar 1)) (tgN 5) (toT (op2 eqD (callP m_Lsteeper_c6160 [(mVar 5), (mVar 4)]) (mC (.int 0)))) (oVar 5)))))
  (sSeq (sApp 3 (oTup [(oP (opA sumD [(pO (oComp [5] (itSeq (oVar 6)) (tgN 5) tY (oIx (oVar 5) (mC (.int 0)))))])), (oP (opA sumD [(pO (oComp [5] (itSeq (oVar 6)) (tgN 5) tY (oIx (oVar 5) (mC (.int 1)))))]))]))
  (sFrz 1 (sSet 1 (oComp [5] (itSeq (oVar 1)) (tgN 5) (toT (op2 neD (callP m_Lsteeper_c6160 [(mVar 5), (mVar 4)]) (mC (.int 0)))) (oVar 5)))))))))
  (sRetV 3)))))
noncomputable def m_Lsteps_35a56 : List D → Cs → R T := runB 7 b_Lsteps_35a56

noncomputable def b_Lcorners_3a844 : MS := (sSeq (sSet 1 (oP (mC (.int 0))))
  (sSeq (sSet 2 (oP (mC (.int 0))))
  (sSeq (sSet 3 (oLst [(oTup [(oP (mC (.int 0))), (oP (mC (.int 0)))])]))
  (sSeq (sFor (itSeq (callO m_Lsteps_35a56 [(mVar 0)])) (tgN 4) (sSeq (sSet 1 (oF (op2O addD (mVar 1) (op2 ixD (mVar 4) (mC (.int 0))))))
  (sSeq (sSet 2 (oF (op2O addD (mVar 2) (op2 ixD (mVar 4) (mC (.int 1))))))
  (sApp 3 (oTup [(oVar 1), (oVar 2)])))))
  (sRetV 3)))))
noncomputable def m_Lcorners_3a844 : List D → Cs → R T := runB 5 b_Lcorners_3a844

noncomputable def b_Lwhole_c5d19 : MS := (sRet (oP (andP (isiP "int" (mVar 0)) (notP (isiP "bool" (mVar 0))))))
noncomputable def m_Lwhole_c5d19 : List D → Cs → R T := runB 1 b_Lwhole_c5d19

noncomputable def b_Lis_share_ad7b7 : MS := (sSeq (sIf (orT (notT (toT (isiP "tuple" (mVar 0)))) (toT (op2 neD (opA lenD [(mVar 0)]) (mC (.int 2))))) (sRet (oP (mC (.bl false)))) sNil)
  (sSeq (sIf (orT (notT (toT (callP m_Lwhole_c5d19 [(op2 ixD (mVar 0) (mC (.int 0)))]))) (notT (toT (callP m_Lwhole_c5d19 [(op2 ixD (mVar 0) (mC (.int 1)))])))) (sRet (oP (mC (.bl false)))) sNil)
  (sSeq (sSet 1 (oP (opA absD [(op2 ixD (mVar 0) (mC (.int 0)))])))
  (sSeq (sSet 2 (oIx (oVar 0) (mC (.int 1))))
  (sSeq (sIf (toT (op2 ltD (mVar 2) (mC (.int 1)))) (sRet (oP (mC (.bl false)))) sNil)
  (sSeq (sWhile (toT (op2 gtD (mVar 2) (mC (.int 0)))) (sSeq (sSet 3 (oP (op2 modD (mVar 1) (mVar 2))))
  (sSeq (sSet 1 (oVar 2))
  (sSet 2 (oVar 3)))))
  (sRet (oP (op2 eqD (mVar 1) (mC (.int 1)))))))))))
noncomputable def m_Lis_share_ad7b7 : List D → Cs → R T := runB 4 b_Lis_share_ad7b7

noncomputable def b_Lstands_for_a1c40 : MS := (sRet (oP (andP (callP m_Lis_share_ad7b7 [(mVar 0)]) (op2 eqD (op2 mulD (op2 ixD (mVar 0) (mC (.int 0))) (mVar 2)) (op2 mulD (mVar 1) (op2 ixD (mVar 0) (mC (.int 1))))))))
noncomputable def m_Lstands_for_a1c40 : List D → Cs → R T := runB 3 b_Lstands_for_a1c40

noncomputable def b_Lright_5da97 : MS := (sSeq (sSet 1 (callO m_curve_6c79e [(mVar 0)]))
  (sSeq (sSet 2 (oF (callO m_Lcorners_3a844 [(mVar 0)])))
  (sSeq (sIf (orT (notT (toT (isiP "list" (mVar 1)))) (toT (op2 neD (opA lenD [(mVar 1)]) (opA lenD [(mVar 2)])))) (sRet (oP (mC (.bl false)))) sNil)
  (sSeq (sFor (itRng [(opA lenD [(mVar 2)])]) (tgN 3) (sSeq (sIf (orT (notT (toT (isiP "tuple" (op2 ixD (mVar 1) (mVar 3))))) (toT (op2 neD (opA lenD [(op2 ixD (mVar 1) (mVar 3))]) (mC (.int 2))))) (sRet (oP (mC (.bl false)))) sNil)
  (sSeq (sIf (notT (toT (callP m_Lstands_for_a1c40 [(op2 ixD (op2 ixD (mVar 1) (mVar 3)) (mC (.int 0))), (op2 ixD (op2 ixD (mVar 2) (mVar 3)) (mC (.int 0))), (op2 ixD (mVar 0) (mC (.int 0)))]))) (sRet (oP (mC (.bl false)))) sNil)
  (sIf (notT (toT (callP m_Lstands_for_a1c40 [(op2 ixD (op2 ixD (mVar 1) (mVar 3)) (mC (.int 1))), (op2 ixD (op2 ixD (mVar 2) (mVar 3)) (mC (.int 1))), (op2 ixD (mVar 0) (mC (.int 0)))]))) (sRet (oP (mC (.bl false)))) sNil))))
  (sSeq (sSet 4 (oF (oD (opA listD [(mVar 1)]))))
  (sSeq (sApp 1 (oP (mC .non)))
  (sSeq (sSet 5 (oF (oTup [(oIx (oVar 0) (mC (.int 0))), (oD (opA tupleD [(pO (oComp [6] (itSeq (oIx (oVar 0) (mC (.int 1)))) (tgN 6) tY (oD (pSt (mVar 6) none (some (op1 negD (mC (.int 1))))))))]))])))
  (sRet (oP (andP (op2 eqD (op2 ixD (mVar 4) (op1 negD (mC (.int 1)))) (pTup [(pTup [(mC (.int 1)), (mC (.int 1))]), (pTup [(mC (.int 1)), (mC (.int 1))])])) (andP (op2 eqD (callP m_curve_6c79e [(mVar 0)]) (mVar 4)) (op2 eqD (callP m_curve_6c79e [(mVar 5)]) (mVar 4)))))))))))))
noncomputable def m_Lright_5da97 : List D → Cs → R T := runB 7 b_Lright_5da97

noncomputable def b_law_0d8e6 : MS := (sSeq (sFor (itRng [(mC (.int 1)), (opA min2D [(mC (.int 11)), (opA max2D [(mC (.int 2)), (opA lenD [(mVar 0)])])])]) (tgN 1) (sSeq (sSet 2 (oF (callO m_Lglass_995d4 [(mVar 0), (mVar 1), (pO (oLst [(oP (mC (.int 2))), (oP (mC (.int 4)))])), (mC (.int 12))])))
  (sSeq (sSet 3 (oF (oTup [(oIx (oVar 2) (mC (.int 0))), (oD (pSl (op2 ixD (mVar 2) (mC (.int 1))) none (some (mC (.int 2)))))])))
  (sSeq (sSet 3 (oF (callO m_Lmade_c9de9 [(op2 ixD (mVar 3) (mC (.int 0))), (op2 ixD (mVar 3) (mC (.int 1)))])))
  (sSeq (sIf (notT (toT (callP m_Lright_5da97 [(callP m_Lparted_91e29 [(mVar 3), (callP m_Ldrawn_902e8 [(mVar 0), (op2 addD (mVar 1) (mC (.int 1))), (pO (oLst [(oP (mC (.int 3))), (oP (mC (.int 5)))]))])])]))) (sRet (oP (mC (.bl false)))) sNil)
  (sSeq (sIf (andT (toT (op2 gtD (opA lenD [(op2 ixD (mVar 2) (mC (.int 1)))]) (mC (.int 2)))) (notT (toT (callP m_Lis_no_fit_45fb8 [(mVar 2)])))) (sRet (oP (mC (.bl false)))) sNil)
  (sIf (notT (toT (callP m_Lright_5da97 [(callP m_Lnear_4f673 [(mVar 0), (mVar 1)])]))) (sRet (oP (mC (.bl false)))) sNil)))))))
  (sRet (oP (mC (.bl true)))))
noncomputable def m_law_0d8e6 : List D → Cs → R T := runB 4 b_law_0d8e6
end Dg

namespace Dg
open PySem L2
theorem isw_int (i : Int) (c : Cs) : m_is_whole_c5d19 [.int i] c = .ok (.v (.bl true)) c := by
  simp [m_is_whole_c5d19, b_is_whole_c5d19]
theorem common_loop (b : Nat) : ∀ (a : Nat) (x : Option T) (c : Cs), ∃ y, sWhile (toT (op2 gtD (mVar 1) (mC (.int 0)))) (sSeq (sSet 2 (oP (op2 modD (mVar 0) (mVar 1)))) (sSeq (sSet 0 (oVar 1)) (sSet 1 (oVar 2)))) [some (.v (.int a)), some (.v (.int b)), x] c = .ok (.nx [some (.v (.int (Nat.gcd a b))), some (.v (.int 0)), y]) c := by
  induction b using Nat.strongRecOn with
  | ind b ih =>
    intro a x c
    by_cases h : b = 0
    · subst h
      refine ⟨x, ?_⟩
      rw [while_f (c1 := c) (by simp), Nat.gcd_zero_right]
      rfl
    · have hb : 0 < b := by omega
      obtain ⟨y, hy⟩ := ih (a % b) (Nat.mod_lt _ (by omega)) b (some (.v (.int ((a % b : Nat) : Int)))) c
      refine ⟨y, ?_⟩
      rw [while_t (c1 := c) (c2 := c) (e2 := [some (.v (.int b)), some (.v (.int ((a % b : Nat) : Int))), some (.v (.int ((a % b : Nat) : Int)))]) (by simp; omega) (by simp [intOp, okMod, hb]), hy, Nat.gcd_comm a b, Nat.gcd_rec b a, Nat.gcd_comm]
theorem abs_nat (i : Int) : (if i < 0 then -i else i) = (i.natAbs : Int) := by omega
theorem common_spec (a b : Int) (c : Cs) : m_common_73267 [.int a, .int b] c = .ok (.v (.int (Int.gcd a b))) c := by
  obtain ⟨y, hy⟩ := common_loop b.natAbs a.natAbs none c
  simp only [m_common_73267, b_common_73267]
  simp [-sWhile, absD, abs_nat, hy, Int.gcd]
end Dg

set_option Elab.async false
set_option linter.all false
set_option maxHeartbeats 4000000
namespace Dg
open PySem L2
/-- numbers below sizes -/
def Drw : List Int → List Int → Prop
  | [], [] => True
  | s :: ss, r :: rs => 0 ≤ r ∧ r < s ∧ Drw ss rs
  | _, _ => False
def goodS : List Int → Bool
  | [] => true
  | s :: ss => decide (0 < s) && bigI s && goodS ss
def vI (rs : List Int) : List T := rs.map fun r => T.v (.int r)
theorem vI_app (rs : List Int) (r : Int) : vI rs ++ [T.v (.int r)] = vI (rs ++ [r]) := by simp [vI]
theorem drawn_loop1 (scr at' szs : D) (c : Cs) : ∀ (ss acc : List Int) (n : Int) (x5 x6 x7 x8 : Option T), goodS ss = true → acc.length + ss.length < LIM →
    ∃ rs e, Drw ss rs ∧ forL (tgN 5) (sSeq (sApp 4 (oP (op2 modD (mVar 3) (mVar 5)))) (sSet 3 (oP (op2 divD (mVar 3) (mVar 5))))) (ss.map D.int) [some (.v scr), some (.v at'), some (.v szs), some (.v (.int n)), some (.ol (vI acc)), x5, x6, x7, x8] c = .ok (.nx e) c ∧ e[4]? = some (some (.ol (vI (acc ++ rs)))) := by
  intro ss
  induction ss with
  | nil => intro acc n x5 x6 x7 x8 _ _; exact ⟨[], _, trivial, rfl, by simp⟩
  | cons s ss ih =>
    intro acc n x5 x6 x7 x8 h hL
    have hL1 : acc.length < LIM := by simp at hL; omega
    simp only [goodS, Bool.and_eq_true, decide_eq_true_eq] at h
    obtain ⟨⟨h1, h2⟩, h3⟩ := h
    obtain ⟨rs, e, d1, d2, d3⟩ := ih (acc ++ [n % s]) (n / s) (some (.v (.int s))) x6 x7 x8 h3 (by simp at hL ⊢; omega)
    refine ⟨n % s :: rs, e, ⟨Int.emod_nonneg _ (by omega), Int.emod_lt_of_pos _ h1, d1⟩, ?_, by rw [d3, List.append_assoc]; rfl⟩
    rw [List.map_cons, ← d2]
    exact forL_nx rfl (by simp [intOp, okMod, okDiv, h1, h2, vI, hL1])
theorem drawn_loop2 (scr szs : D) (at' : Int) (hat : 0 ≤ at' ∧ at' < 1000000) (c : Cs) : ∀ (ss acc : List Int) (k : Nat) (x : Int) (x3 x5 x7 x8 : Option T), goodS ss = true → k + ss.length < 1000000 → 0 ≤ x ∧ x ≤ 2147483647 → acc.length + ss.length < LIM →
    ∃ rs e, Drw ss rs ∧ forL (tgT [7, 5]) (sSeq (sSet 6 (oP (op2 modD (op2 addD (op2 mulD (mVar 6) (mC (.int 48271))) (mVar 7)) (mC (.int 2147483647)))))
  (sSeq (sSet 8 (oP (op2 modD (op2 addD (op2 addD (op2 mulD (mVar 6) (mVar 6)) (op2 mulD (mC (.int 69621)) (mVar 6))) (mVar 1)) (mC (.int 2147483629)))))
  (sApp 4 (oP (op2 modD (op2 divD (op2 modD (op2 addD (op2 mulD (mVar 8) (mC (.int 40692))) (mVar 6)) (mC (.int 2147483399))) (mC (.int 7))) (mVar 5)))))) (enumL k (ss.map D.int)) [some (.v scr), some (.v (.int at')), some (.v szs), x3, some (.ol (vI acc)), x5, some (.v (.int x)), x7, x8] c = .ok (.nx e) c ∧ e[4]? = some (some (.ol (vI (acc ++ rs)))) := by
  intro ss
  induction ss with
  | nil => intro acc k x x3 x5 x7 x8 _ _ _ _; exact ⟨[], _, trivial, rfl, by simp⟩
  | cons s ss ih =>
    intro acc k x x3 x5 x7 x8 h hk hx hL
    have hL1 : acc.length < LIM := by simp at hL; omega
    simp only [goodS, Bool.and_eq_true, decide_eq_true_eq] at h
    obtain ⟨⟨h1, h2⟩, h3⟩ := h
    have b1 : bigI x = true := big_small (by omega)
    have b2 : bigI ((x * 48271 + (k : Int)) % 2147483647) = true := big_small (by omega)
    have b3 : bigI (((x * 48271 + (k : Int)) % 2147483647 * ((x * 48271 + (k : Int)) % 2147483647) + 69621 * ((x * 48271 + (k : Int)) % 2147483647) + at') % 2147483629) = true := big_small (by omega)
    have b4 : bigI 48271 = true := big_small (by omega)
    have b5 : bigI 69621 = true := big_small (by omega)
    have b6 : bigI 40692 = true := big_small (by omega)
    have b7 : bigI 7 = true := big_small (by omega)
    obtain ⟨rs, e, d1, d2, d3⟩ := ih (acc ++ [(((x * 48271 + (k : Int)) % 2147483647 * ((x * 48271 + (k : Int)) % 2147483647) + 69621 * ((x * 48271 + (k : Int)) % 2147483647) + at') % 2147483629 * 40692 + (x * 48271 + (k : Int)) % 2147483647) % 2147483399 / 7 % s]) (k + 1) ((x * 48271 + (k : Int)) % 2147483647) x3 (some (.v (.int s))) (some (.v (.int k))) (some (.v (.int (((x * 48271 + (k : Int)) % 2147483647 * ((x * 48271 + (k : Int)) % 2147483647) + 69621 * ((x * 48271 + (k : Int)) % 2147483647) + at') % 2147483629)))) h3 (by simp at hk ⊢; omega) (by omega) (by simp at hL ⊢; omega)
    refine ⟨_ :: rs, e, ⟨Int.emod_nonneg _ (by omega), Int.emod_lt_of_pos _ h1, d1⟩, ?_, by rw [d3, List.append_assoc]; rfl⟩
    rw [List.map_cons, enumL, ← d2]
    refine forL_nx rfl ?_
    simp [setM, intOp, mulD, okMul, okMod, okDiv, h1, h2, vI, hL1, b1, b2, b3, b4, b5, b6, b7]
theorem drawn_spec (ns : List Int) (at' : Nat) (ss : List Int) (c : Cs) (hn : ns.length ≤ 63) (ha : at' < 1000000) (hs : goodS ss = true) (hl : ss.length < 10000) :
    ∃ rs, Drw ss rs ∧ m_Ldrawn_902e8 [.scr ns, .int at', .lst (ss.map D.int)] c = .ok (.ol (vI rs)) c := by
  have hL : ([] : List Int).length + ss.length < LIM := by show 0 + ss.length < 1000000; omega
  have hN : ns.length + 1 < LIM := by show ns.length + 1 < 1000000; omega
  obtain ⟨n, hn1⟩ : ∃ n : Int, (at' < ns.length → atI ns (at' : Int) = some n) ∧ (¬ at' < ns.length → n = 0) := by
    by_cases h : at' < ns.length
    · exact ⟨ns[at'], fun _ => ix_nat h, fun z => absurd h z⟩
    · exact ⟨0, fun z => absurd z h, fun _ => rfl⟩
  obtain ⟨z, hz⟩ : ∃ z : Int, atI (ns.map D.int ++ [D.int 0]) 0 = some (.int z) := by
    cases ns with
    | nil => exact ⟨0, by simp⟩
    | cons a l => exact ⟨a, by simp⟩
  by_cases hp : z % 2 = 0
  · obtain ⟨rs, e, d1, d2, d3⟩ := drawn_loop1 (.scr ns) (.int at') (.lst (ss.map D.int)) c ss [] n none none none none hs hL
    refine ⟨rs, d1, ?_⟩
    simp only [m_Ldrawn_902e8, b_Ldrawn_902e8]
    by_cases h : at' < ns.length
    · have := hn1.1 h
      simp [vI] at d2 d3
      simp [h, this, intOp, hN, hz, okMod, hp, d2, d3, vI]
    · have := hn1.2 h
      subst this
      simp [vI] at d2 d3
      simp [h, intOp, hN, hz, okMod, hp, d2, d3, vI]
  · have ha1 : (at' : Int) < 1000000 := by omega
    have b0 : bigI (48271 : Int) = true := big_small (by omega)
    have b1 : bigI (at' : Int) = true := big_small (by omega)
    obtain ⟨rs, e, d1, d2, d3⟩ := drawn_loop2 (.scr ns) (.lst (ss.map D.int)) at' ⟨by omega, by omega⟩ c ss [] 0 ((n + 48271 * (at' : Int)) % 2147483647 + 1) (some (.v (.int n))) none none none hs (by omega) (by omega) hL
    refine ⟨rs, d1, ?_⟩
    simp only [m_Ldrawn_902e8, b_Ldrawn_902e8]
    by_cases h : at' < ns.length
    · have := hn1.1 h
      simp [vI] at d2 d3
      simp [h, this, intOp, hN, hz, okMod, hp, d2, d3, vI, mulD, okMul, b0, b1]
    · have := hn1.2 h
      subst this
      simp [vI] at d2 d3
      simp [h, intOp, hN, hz, okMod, hp, d2, d3, vI, mulD, okMul, b0, b1]
theorem Drw.cons {s : Int} {ss rs : List Int} (h : Drw (s :: ss) rs) : ∃ r rs', rs = r :: rs' ∧ 0 ≤ r ∧ r < s ∧ Drw ss rs' := by
  cases rs with
  | nil => exact h.elim
  | cons r rs => exact ⟨r, rs, rfl, h.1, h.2.1, h.2.2⟩
theorem Drw.nil {rs : List Int} (h : Drw [] rs) : rs = [] := by
  cases rs with
  | nil => rfl
  | cons r rs => exact h.elim
theorem vI_d (rs : List Int) : T.dA (vI rs) = rs.map D.int := by
  rw [T.dA_map]; simp [vI]
end Dg

set_option Elab.async false
set_option linter.all false
set_option maxHeartbeats 4000000
namespace Dg
open PySem L2
/-! ### glasses: what the defs tell -/
theorem div_in (c : Cs) : ∀ (r : List Int) (g : Nat) (x0 x2 x3 : Option T), ∃ y, forL (tgN 3) (sSet 1 (oF (callO m_common_73267 [(mVar 1), (mVar 3)]))) (r.map D.int) [x0, some (.v (.int g)), x2, x3] c = .ok (.nx [x0, some (.v (.int (gcf g r))), x2, y]) c
  | [], g, x0, x2, x3 => ⟨x3, rfl⟩
  | x :: r, g, x0, x2, x3 => by
    obtain ⟨y, hy⟩ := div_in c r (Nat.gcd g x.natAbs) x0 x2 (some (.v (.int x)))
    refine ⟨y, ?_⟩
    rw [List.map_cons, forL_nx (c2 := c) (e1 := [x0, some (.v (.int g)), x2, some (.v (.int x))]) (e2 := [x0, some (.v (.int (Nat.gcd g x.natAbs : Nat))), x2, some (.v (.int x))]) (by simp) (by simp [common_spec, Int.gcd]), hy]
    rfl
theorem div_out (c : Cs) : ∀ (rs : Rw) (g : Nat) (x0 x2 x3 : Option T), ∃ y z, forL (tgN 2) (sFor (itSeq (oVar 2)) (tgN 3) (sSet 1 (oF (callO m_common_73267 [(mVar 1), (mVar 3)])))) (rs.map rowT) [x0, some (.v (.int g)), x2, x3] c = .ok (.nx [x0, some (.v (.int (rs.foldl gcf g : Nat))), y, z]) c
  | [], g, x0, x2, x3 => ⟨x2, x3, rfl⟩
  | r :: rs, g, x0, x2, x3 => by
    obtain ⟨y0, hy0⟩ := div_in c r g x0 (some (.v (rowT r))) x3
    obtain ⟨y, z, hy⟩ := div_out c rs (gcf g r) x0 (some (.v (rowT r))) y0
    refine ⟨y, z, ?_⟩
    rw [List.map_cons, forL_nx (c2 := c) (e1 := [x0, some (.v (.int g)), some (.v (rowT r)), x3]) (e2 := [x0, some (.v (.int (gcf g r))), some (.v (rowT r)), y0]) (by simp) (by simp [rowT] at hy0 ⊢; simp [hy0]), hy]
    rfl
theorem dvI_pos {i j : Int} (h : 0 < j) : dvI i j = i / j := by simp [h]
theorem red_comp (c : Cs) (r : List Int) (g : Int) (hg : 0 < g) (hb : bigI g = true) (x0 x1 x3 x4 : Option T) : compL (tgN 5) tY (oP (op2 divD (mVar 5) (mVar 2))) (r.map D.int) [x0, x1, some (.v (.int g)), x3, x4, none] c = .ok (r.map fun x => T.v (.int (x / g))) c := by
  refine compL_map D.int _ r fun a _ => ⟨[x0, x1, some (.v (.int g)), x3, x4, some (.v (.int a))], by simp, ?_⟩
  simp [intOp, okDiv, hg, hb]
theorem red_loop (c : Cs) (g : Int) (hg : 0 < g) (hb : bigI g = true) (x0 x1 : Option T) (rs : Rw) (hl : rs.length < LIM) (hw : ∀ r ∈ rs, r.length < LIM) (x4 : Option T) : ∃ y, forL (tgN 4) (sApp 3 (oD (opA tupleD [(pO (oComp [5] (itSeq (oVar 4)) (tgN 5) tY (oP (op2 divD (mVar 5) (mVar 2)))))]))) (rs.map rowT) [x0, x1, some (.v (.int g)), some (.ol []), x4, none] c = .ok (.nx [x0, x1, some (.v (.int g)), some (.ol ((dvr g rs).map fun r => T.v (rowT r))), y, none]) c := by
  obtain ⟨e', h1, y, h2⟩ := forL_app (c := c) (tg := tgN 4) (body := (sApp 3 (oD (opA tupleD [(pO (oComp [5] (itSeq (oVar 4)) (tgN 5) tY (oP (op2 divD (mVar 5) (mVar 2)))))])))) rowT (fun r => T.v (rowT (r.map fun x => x / g))) (fun acc e => ∃ y, e = [x0, x1, some (.v (.int g)), some (.ol acc), y, none]) rs [] [x0, x1, some (.v (.int g)), some (.ol []), x4, none] (by simpa using hl) (fun r hr acc e ha he => by
    obtain ⟨y, rfl⟩ := he
    have hc := red_comp c r g hg hb x0 x1 (some (.ol acc)) (some (.v (rowT r)))
    have hw' := hw r hr
    refine ⟨[x0, x1, some (.v (.int g)), some (.ol acc), some (.v (rowT r)), none], [x0, x1, some (.v (.int g)), some (.ol (acc ++ [T.v (rowT (r.map fun x => x / g))])), some (.v (rowT r)), none], by simp, ?_, _, rfl⟩
    simp only [rowT, List.map_map] at hc ⊢
    simp [hc, hw', tupleD, ha, Function.comp_def]) ⟨x4, rfl⟩
  exact ⟨y, by rw [h1, h2]; simp [dvr]⟩
theorem Good.bigs {m w : Nat} {b : Int} {rs : Rw} (h : Good m w b rs) {k : Nat} (hb : Bd k b) (hk : k ≤ 8000 := by omega) : 0 < (gcr rs : Int) ∧ bigI (gcr rs : Int) = true := by
  have h0 := h.g0
  refine ⟨by omega, (Bd.le hb ?_).big hk⟩
  have h1 := h.gb
  have h2 := h.b0
  have h3 : (gcr rs : Int) ≤ b := Int.le_of_dvd h2 h1
  omega
theorem Good.lim {m w : Nat} {b : Int} {rs : Rw} (h : Good m w b rs) : ∀ r ∈ rs, r.length < LIM := fun r hr => by
  have := h.wid r hr
  have := h.w12
  show r.length < 1000000
  omega
/-- a list or a tuple -/
def sq (t : Bool) (l : List D) : D := if t then .tup l else .lst l
theorem as_rows_loop (c : Cs) (x0 : Option T) (rs : List (Bool × List Int)) (hl : rs.length < LIM) : ∃ y, forL (tgN 2) (sSeq (sIf (notT (toT (isiPs ["list", "tuple"] (mVar 2)))) (sRet (oP (mC .non))) sNil)
  (sApp 1 (oD (opA tupleD [(mVar 2)])))) (rs.map fun x => sq x.1 (x.2.map D.int)) [x0, some (.ol []), none] c = .ok (.nx [x0, some (.ol (rs.map fun x => T.v (rowT x.2))), y]) c := by
  obtain ⟨e', h1, y, h2⟩ := forL_app (c := c) (tg := tgN 2) (body := (sSeq (sIf (notT (toT (isiPs ["list", "tuple"] (mVar 2)))) (sRet (oP (mC .non))) sNil)
  (sApp 1 (oD (opA tupleD [(mVar 2)]))))) (fun x : Bool × List Int => sq x.1 (x.2.map D.int)) (fun x => T.v (rowT x.2)) (fun acc e => ∃ y, e = [x0, some (.ol acc), y]) rs [] [x0, some (.ol []), none] (by simpa using hl) (fun r hr acc e ha he => by
    obtain ⟨y, rfl⟩ := he
    obtain ⟨t, r⟩ := r
    refine ⟨[x0, some (.ol acc), some (.v (sq t (r.map D.int)))], [x0, some (.ol (acc ++ [T.v (rowT r)])), some (.v (sq t (r.map D.int)))], by simp, ?_, _, rfl⟩
    have kb : kitBs "tuple" ["list", "tuple"] = some true := by decide +kernel
    have kb2 : kitBs "list" ["list", "tuple"] = some true := by decide +kernel
    cases t <;> simp [sq, kb, kb2, tupleD, ha, rowT]) ⟨none, rfl⟩
  exact ⟨y, by rw [h1, h2]; simp⟩
/-- a row of numbers as it must be -/
theorem is_row_loop (c : Cs) : ∀ (r : List Int) (x0 x1 x2 : Option T), (∀ x ∈ r, (0 : Int) ≤ x) → ∃ y, forL (tgN 2) (sIf (orT (notT (toT (callP m_is_whole_c5d19 [(mVar 2)]))) (toT (op2 ltD (mVar 2) (mC (.int 0))))) (sRet (oP (mC (.bl false)))) sNil) (r.map D.int) [x0, x1, x2] c = .ok (.nx [x0, x1, y]) c
  | [], _, _, x2, _ => ⟨x2, rfl⟩
  | x :: r, x0, x1, x2, h => by
    obtain ⟨y, hy⟩ := is_row_loop c r x0 x1 (some (.v (.int x))) fun z m => h z (List.mem_cons_of_mem _ m)
    have h0 := h x List.mem_cons_self
    refine ⟨y, ?_⟩
    rw [List.map_cons, forL_nx (c2 := c) (e1 := [x0, x1, some (.v (.int x))]) (e2 := [x0, x1, some (.v (.int x))]) (by simp) (by simp [isw_int]; omega), hy]
end Dg

set_option Elab.async false
set_option linter.all false
set_option maxHeartbeats 4000000
namespace Dg
open PySem L2
/-- a made glass (or dulling) -/
structure Gls (m w : Nat) (b : Int) (rs : Rw) : Prop extends Good m w b rs where
  one : gcr rs = 1
theorem Good.gls {m w : Nat} {b : Int} {rs : Rw} (h : Good m w b rs) : Gls m w (redB b rs) (redR rs) := ⟨h.red, h.red1⟩
end Dg

set_option Elab.async false
set_option linter.all false
set_option maxHeartbeats 4000000
namespace Dg
open PySem L2
theorem gcd_big {a b : Int} (hb : b ≠ 0) (h : bigI b = true) : bigI (Int.gcd a b : Int) = true := by
  refine big_le h ?_
  have h1 := (sdv_facts (a := a) hb).2.2.1
  have h3 := (sdv_facts (a := a) hb).2.2.2.1
  have h4 : (sdv a b).natAbs ∣ b.natAbs := Int.natAbs_dvd_natAbs.mpr h1
  have h5 := Nat.le_of_dvd (by omega) h4
  omega
theorem dvI_dvd {i j : Int} (hj : j ∣ i) : dvI i j = i / j := by
  rw [dvI_eq]; exact Int.fdiv_eq_ediv_of_dvd hj
/-- share tells the share in lowest terms -/
theorem share_spec (a b : Int) (c : Cs) (hb : b ≠ 0) (h : bigI b = true) : m_share_95521 [.int a, .int b] c = .ok (.v (shD (shr a b))) c := by
  obtain ⟨h0, h1, h2, h3, h4⟩ := sdv_facts (a := a) hb
  have hg := gcd_big (a := a) hb h
  have hd : bigI (sdv a b) = true := big_le hg (by omega)
  have ok : ∀ x : Int, okDiv x (sdv a b) = true := fun x => okDiv_big h0 hd
  simp only [m_share_95521, b_share_95521]
  by_cases hn : b < 0
  · have es : sdv a b = - (Int.gcd a b : Int) := by unfold sdv; rw [if_pos hn]; omega
    have d1 := dvI_dvd h1
    have d2 := dvI_dvd h2
    rw [es] at ok d1 d2
    simp only [shD, shr, es]
    simp [isw_int, common_spec, hb, intOp, okAny, hn, ok, d1, d2, -dvI]
  · have es : sdv a b = (Int.gcd a b : Int) := by unfold sdv; rw [if_neg hn]
    have d1 := dvI_dvd h1
    have d2 := dvI_dvd h2
    rw [es] at ok d1 d2
    simp only [shD, shr, es]
    simp [isw_int, common_spec, hb, intOp, okAny, hn, ok, d1, d2, -dvI]
/-- 0 below refuses -/
theorem share_zero (a : Int) (c : Cs) : m_share_95521 [.int a, .int 0] c = .err "NoShare" c := by
  simp only [m_share_95521, b_share_95521]
  simp [isw_int]
/-! ### sums -/
end Dg

set_option Elab.async false
set_option linter.all false
set_option maxHeartbeats 4000000
namespace Dg
open PySem L2
theorem lwhole_int (i : Int) (c : Cs) : m_Lwhole_c5d19 [.int i] c = .ok (.v (.bl true)) c := by
  simp [m_Lwhole_c5d19, b_Lwhole_c5d19]
theorem iss_loop (s : D) (b : Nat) : ∀ (a : Nat) (x : Option T) (c : Cs), ∃ y, sWhile (toT (op2 gtD (mVar 2) (mC (.int 0)))) (sSeq (sSet 3 (oP (op2 modD (mVar 1) (mVar 2)))) (sSeq (sSet 1 (oVar 2)) (sSet 2 (oVar 3)))) [some (.v s), some (.v (.int a)), some (.v (.int b)), x] c = .ok (.nx [some (.v s), some (.v (.int (Nat.gcd a b))), some (.v (.int 0)), y]) c := by
  induction b using Nat.strongRecOn with
  | ind b ih =>
    intro a x c
    by_cases h : b = 0
    · subst h
      refine ⟨x, ?_⟩
      rw [while_f (c1 := c) (by simp), Nat.gcd_zero_right]
      rfl
    · have hb : 0 < b := by omega
      obtain ⟨y, hy⟩ := ih (a % b) (Nat.mod_lt _ (by omega)) b (some (.v (.int ((a % b : Nat) : Int)))) c
      refine ⟨y, ?_⟩
      rw [while_t (c1 := c) (c2 := c) (e2 := [some (.v s), some (.v (.int b)), some (.v (.int ((a % b : Nat) : Int))), some (.v (.int ((a % b : Nat) : Int)))]) (by simp; omega) (by simp [intOp, okMod, hb]), hy, Nat.gcd_comm a b, Nat.gcd_rec b a, Nat.gcd_comm]
theorem isshare_spec (p q : Int) (c : Cs) (hq : 1 ≤ q) (hg : Int.gcd p q = 1) : m_Lis_share_ad7b7 [.tup [.int p, .int q]] c = .ok (.v (.bl true)) c := by
  obtain ⟨y, hy⟩ := iss_loop (.tup [.int p, .int q]) q.natAbs p.natAbs none c
  have hg' : Nat.gcd p.natAbs q.natAbs = 1 := hg
  have e : ((q.natAbs : Nat) : Int) = q := by omega
  rw [e, hg'] at hy
  have hq' : ¬ q < 1 := by omega
  simp only [m_Lis_share_ad7b7, b_Lis_share_ad7b7]
  simp at hy
  simp [lwhole_int, absD, abs_nat, hq', hy]
/-- lowest terms, the second above nought -/
def Low (s : Int × Int) : Prop := 1 ≤ s.2 ∧ Int.gcd s.1 s.2 = 1
theorem low_shr {a b : Int} (hb : b ≠ 0) : Low (shr a b) := ⟨shr_pos hb, shr_gcd hb⟩
theorem stands_spec (p q t b : Int) (c : Cs) (hl : Low (p, q)) (h : p * b = t * q) (bp : bigI p = true) (bq : bigI q = true) (bt : bigI t = true) (bb : bigI b = true) : m_Lstands_for_a1c40 [.tup [.int p, .int q], .int t, .int b] c = .ok (.v (.bl true)) c := by
  simp only [m_Lstands_for_a1c40, b_Lstands_for_a1c40]
  simp [isshare_spec p q c hl.1 hl.2, mulD, okMul, bp, bq, bt, bb, h]
end Dg

set_option Elab.async false
set_option linter.all false
set_option maxHeartbeats 4000000
namespace Dg
open PySem L2
theorem atI_row {r : List Int} {j : Nat} {x : Int} (h : r[j]? = some x) : atI (r.map D.int) (j : Int) = some (.int x) := atI_nat (by rw [List.getElem?_map, h]; rfl)
theorem atI_rows {rs : Rw} {i : Nat} {r : List Int} (h : rs[i]? = some r) : atI (rs.map rowT) (i : Int) = some (rowT r) := atI_nat (by rw [List.getElem?_map, h]; rfl)
end Dg

set_option Elab.async false
set_option linter.all false
set_option maxHeartbeats 4000000
set_option maxRecDepth 100000
namespace Dg
open PySem L2
/-! ### rows cut at drawn places -/
def diffs : Int → List Int → List Int
  | _, [] => []
  | p, x :: l => (x - p) :: diffs x l
theorem diffs_len : ∀ (l : List Int) (p : Int), (diffs p l).length = l.length
  | [], _ => rfl
  | x :: l, p => by simp [diffs, diffs_len l]
theorem diffs_sum : ∀ (l : List Int) (p z : Int), (diffs p (l ++ [z])).sum = z - p
  | [], p, z => by simp [diffs]
  | x :: l, p, z => by rw [List.cons_append, diffs, List.sum_cons, diffs_sum l]; omega
theorem diffs_nn : ∀ (l : List Int) (p : Int), (∀ x ∈ l, p ≤ x) → l.Pairwise (· ≤ ·) → ∀ y ∈ diffs p l, 0 ≤ y
  | [], _, _, _, y, m => by cases m
  | x :: l, p, h, s, y, m => by
    rw [List.pairwise_cons] at s
    rcases List.mem_cons.mp m with rfl | m
    · have := h x List.mem_cons_self; omega
    · exact diffs_nn l x s.1 s.2 y m
theorem sortI_perm (ns : List Int) : (sortI ns).Perm ns := List.mergeSort_perm _ _
theorem sortI_sorted (ns : List Int) : (sortI ns).Pairwise (· ≤ ·) := (List.pairwise_mergeSort (le := fun a b : Int => decide (a ≤ b)) (fun a b c h1 h2 => by simp at *; omega) (fun a b => by simp; omega) ns).imp fun h => of_decide_eq_true h
def cutR (b : Int) (cs : List Int) : List Int := diffs 0 (sortI cs ++ [b])
theorem cutR_good (b : Int) (cs : List Int) (h : ∀ x ∈ cs, 0 ≤ x ∧ x ≤ b) (hb : 0 ≤ b) : (cutR b cs).length = cs.length + 1 ∧ (∀ y ∈ cutR b cs, 0 ≤ y) ∧ (cutR b cs).sum = b := by
  have hp := sortI_perm cs
  refine ⟨by rw [cutR, diffs_len]; simp [hp.length_eq], diffs_nn _ _ (fun x m => ?_) ?_, by rw [cutR, diffs_sum]; omega⟩
  · rcases List.mem_append.mp m with m | m
    · exact (h x (hp.mem_iff.mp m)).1
    · rw [List.mem_singleton.mp m]; exact hb
  · refine List.pairwise_append.mpr ⟨sortI_sorted cs, List.pairwise_singleton _ _, fun a ma z mz => ?_⟩
    rw [List.mem_singleton.mp mz]
    exact (h a (hp.mem_iff.mp ma)).2
theorem cut_loop (c : Cs) (x0 x1 : Option T) : ∀ (l : List Int) (acc : List Int) (p : Int) (x4 : Option T), acc.length + l.length < LIM → ∃ y z, forL (tgN 4) (sSeq (sApp 2 (oP (op2 subD (mVar 4) (mVar 3)))) (sSet 3 (oVar 4))) (l.map D.int) [x0, x1, some (.ol (vI acc)), some (.v (.int p)), x4] c = .ok (.nx [x0, x1, some (.ol (vI (acc ++ diffs p l))), y, z]) c
  | [], acc, p, x4, _ => ⟨_, _, by simp [forL_nil, diffs]; exact ⟨rfl, rfl⟩⟩
  | x :: l, acc, p, x4, h => by
    simp only [List.length_cons] at h
    obtain ⟨y, z, hy⟩ := cut_loop c x0 x1 l (acc ++ [x - p]) x (some (.v (.int x))) (by simp; omega)
    refine ⟨y, z, ?_⟩
    have ha : acc.length < LIM := by omega
    rw [List.map_cons, forL_nx (c2 := c) (e1 := [x0, x1, some (.ol (vI acc)), some (.v (.int p)), some (.v (.int x))]) (e2 := [x0, x1, some (.ol (vI (acc ++ [x - p]))), some (.v (.int x)), some (.v (.int x))]) (by simp) (by simp [intOp, okAny, vI, ha]), hy]
    simp [diffs]
theorem cut_spec (b : Int) (cs : List Int) (h : cs.length < 10000) (c : Cs) : m_Lcut_57d94 [.int b, .lst (cs.map D.int)] c = .ok (.ol (vI (cutR b cs))) c := by
  have hl := (sortI_perm cs).length_eq
  obtain ⟨y, z, hy⟩ := cut_loop c (some (.v (.int b))) (some (.v (.lst (cs.map D.int)))) (sortI cs ++ [b]) [] 0 none (by simp [hl]; show cs.length + 1 < 1000000; omega)
  have hs : sortedD c [.lst (cs.map D.int)] = some (.lst ((sortI cs).map D.int)) := by simp [sortedD, liI, intsD_map]
  have hz : (sortI cs).length + 1 < LIM := by show _ < 1000000; omega
  simp only [List.map_append, List.map_cons, List.map_nil, vI, List.nil_append] at hy
  simp only [m_Lcut_57d94, b_Lcut_57d94]
  simp [hs, hz, hy, vI, cutR]
/-! ### what a draw tells, in parts -/
theorem Drw.app : ∀ {s1 s2 rs : List Int}, Drw (s1 ++ s2) rs → Drw s1 (rs.take s1.length) ∧ Drw s2 (rs.drop s1.length)
  | [], s2, rs, h => ⟨by simp [Drw], by simpa using h⟩
  | a :: s1, s2, rs, h => by
    obtain ⟨r, rs', rfl, h1, h2, h3⟩ := Drw.cons h
    obtain ⟨h4, h5⟩ := h3.app
    exact ⟨⟨h1, h2, by simpa using h4⟩, by simpa using h5⟩
theorem Drw.rep {s : Int} : ∀ {n : Nat} {rs : List Int}, Drw (List.replicate n s) rs → rs.length = n ∧ ∀ x ∈ rs, 0 ≤ x ∧ x < s
  | 0, rs, h => by rw [show rs = [] from h.nil]; simp
  | n + 1, rs, h => by
    rw [List.replicate_succ] at h
    obtain ⟨r, rs', rfl, h1, h2, h3⟩ := h.cons
    obtain ⟨h4, h5⟩ := h3.rep
    refine ⟨by simp [h4], fun x m => ?_⟩
    rcases List.mem_cons.mp m with rfl | m
    · exact ⟨h1, h2⟩
    · exact h5 x m
theorem goodS_app : ∀ (a b : List Int), goodS (a ++ b) = (goodS a && goodS b)
  | [], b => by simp [goodS]
  | x :: a, b => by rw [List.cons_append, goodS, goodS, goodS_app a b]; simp only [Bool.and_assoc]
theorem goodS_rep (s : Int) (h : 0 < s) (hb : bigI s = true) : ∀ n, goodS (List.replicate n s) = true
  | 0 => rfl
  | n + 1 => by rw [List.replicate_succ, goodS, goodS_rep s h hb n, hb, decide_eq_true h]; rfl
/-- the cuts of row k -/
def seg (cs : List Int) (q k : Nat) : List Int := (cs.drop (k * q)).take q
theorem seg_len {cs : List Int} {q k m : Nat} (h : cs.length = m * q) (hk : k < m) : (seg cs q k).length = q := by
  unfold seg
  rw [List.length_take, List.length_drop, h]
  have : (k + 1) * q ≤ m * q := Nat.mul_le_mul_right q hk
  rw [Nat.add_mul] at this
  omega
theorem seg_mem {cs : List Int} {q k : Nat} {x : Int} (h : x ∈ seg cs q k) : x ∈ cs := List.mem_of_mem_drop (List.mem_of_mem_take h)
theorem cut_sl {α : Type} {cs : List α} {lo hi : Nat} (h1 : lo ≤ hi) (h2 : hi ≤ cs.length) : cutD cs (some (lo : Int)) (some (hi : Int)) = (cs.drop lo).take (hi - lo) := by
  unfold cutD
  rw [HT.sIx_nat, HT.sIx_nat, Nat.min_eq_left h2, Nat.min_eq_left (by omega)]
theorem cut_from {α : Type} {cs : List α} {lo : Nat} (h1 : lo ≤ cs.length) : cutD cs (some (lo : Int)) none = cs.drop lo := by
  unfold cutD
  rw [HT.sIx_nat, HT.sIx_none, Nat.min_eq_left h1, List.take_of_length_le (by rw [List.length_drop]; omega)]
/-- the rows of the cuts -/
def cutRs (b : Int) (cs : List Int) (q m : Nat) : Rw := (List.range m).map fun k => cutR b (seg cs q k)
theorem cutRs_good {b : Int} {cs : List Int} {q m : Nat} (hl : cs.length = m * q) (h : ∀ x ∈ cs, 0 ≤ x ∧ x < b + 1) (hb : 1 ≤ b) (hm : 0 < m) (hq : q < 12) : Good m (q + 1) b (cutRs b cs q m) := by
  have key : ∀ r ∈ cutRs b cs q m, r.length = q + 1 ∧ (∀ y ∈ r, 0 ≤ y) ∧ r.sum = b := fun r hr => by
    obtain ⟨k, hk, rfl⟩ := List.mem_map.mp hr
    have g := cutR_good b (seg cs q k) (fun x mx => by have := h x (seg_mem mx); omega) (by omega)
    rw [seg_len hl (List.mem_range.mp hk)] at g
    exact g
  exact ⟨by simp [cutRs], hm, fun r hr => (key r hr).1, by omega, by omega, by omega, fun r hr => (key r hr).2.1, fun r hr => (key r hr).2.2⟩
theorem rows_loop (c : Cs) (x0 x1 x2 x3 x4 x6 : Option T) (b : Int) (cs : List Int) (q m : Nat) (hds : List D) (hq : atI hds 1 = some (.int q)) (hl : cs.length = m * q) (hm : m ≤ 20) (hq2 : q < 12) : ∃ y z, forL (tgN 10) (sSeq (sSet 11 (oF (oD (op2 mulD (mVar 10) (op2 ixD (mVar 5) (mC (.int 1)))))))
  (sApp 9 (callO m_Lcut_57d94 [(mVar 7), (pSl (mVar 8) (some (mVar 11)) (some (op2 addD (mVar 11) (op2 ixD (mVar 5) (mC (.int 1))))))]))) ((List.range m).map fun k : Nat => D.int k) [x0, x1, x2, x3, x4, some (.v (.lst hds)), x6, some (.v (.int b)), some (.v (.lst (cs.map D.int))), some (.ol []), none, none] c
    = .ok (.nx [x0, x1, x2, x3, x4, some (.v (.lst hds)), x6, some (.v (.int b)), some (.v (.lst (cs.map D.int))), some (.ol ((cutRs b cs q m).map fun r => T.ol (vI r))), y, z]) c := by
  obtain ⟨e', h1, y, z, h2⟩ := forL_app (c := c) (tg := tgN 10) (body := (sSeq (sSet 11 (oF (oD (op2 mulD (mVar 10) (op2 ixD (mVar 5) (mC (.int 1)))))))
  (sApp 9 (callO m_Lcut_57d94 [(mVar 7), (pSl (mVar 8) (some (mVar 11)) (some (op2 addD (mVar 11) (op2 ixD (mVar 5) (mC (.int 1))))))])))) (fun k : Nat => D.int k) (fun k => T.ol (vI (cutR b (seg cs q k)))) (fun acc e => ∃ y z, e = [x0, x1, x2, x3, x4, some (.v (.lst hds)), x6, some (.v (.int b)), some (.v (.lst (cs.map D.int))), some (.ol acc), y, z]) (List.range m) [] [x0, x1, x2, x3, x4, some (.v (.lst hds)), x6, some (.v (.int b)), some (.v (.lst (cs.map D.int))), some (.ol []), none, none] (by simp; show m < 1000000; omega) (fun k hk acc e ha he => by
    obtain ⟨y, z, rfl⟩ := he
    have hk' := List.mem_range.mp hk
    have hkq : k * q + q ≤ m * q := by
      have := Nat.mul_le_mul_right q (show k + 1 ≤ m from hk')
      rw [Nat.add_mul] at this; omega
    have hkm : k * q < 1000 := by
      have h1 := Nat.mul_le_mul (show k ≤ 20 by omega) (show q ≤ 12 by omega)
      omega
    have g := cut_spec b (seg cs q k) (by rw [seg_len hl hk']; omega) c
    have e1 : sliceD (.lst (cs.map D.int)) (some ((k : Int) * q)) (some ((k : Int) * q + q)) = some (.lst ((seg cs q k).map D.int)) := by
      have e0 : ((k : Int) * q) = ((k * q : Nat) : Int) := by simp
      have e2 : ((k : Int) * q + q) = ((k * q + q : Nat) : Int) := by simp
      rw [e2, e0]
      simp only [sliceD, D.li, Option.map_some]
      rw [cut_sl (by omega) (by rw [List.length_map, hl]; exact hkq)]
      simp only [seg, List.map_take, List.map_drop]
      congr 4
      omega
    have bk : bigI (k : Int) = true := big_small (by omega)
    have bq : bigI (q : Int) = true := big_small (by omega)
    refine ⟨_, [x0, x1, x2, x3, x4, some (.v (.lst hds)), x6, some (.v (.int b)), some (.v (.lst (cs.map D.int))), some (.ol (acc ++ [T.ol (vI (cutR b (seg cs q k)))])), some (.v (.int k)), some (.v (.int ((k : Int) * q)))], rfl, ?_, _, _, rfl⟩
    simp [hq, mulD, okMul, bk, bq, e1, g, ha, vI]) ⟨none, none, rfl⟩
  exact ⟨y, z, by rw [h1, h2]; simp [cutRs, Function.comp_def]⟩
def rwL (rs : Rw) : D := .lst (rs.map rowL)
theorem rows_spec (ns : List Int) (at' lo hi most : Nat) (c : Cs) (hn : ns.length ≤ 63) (ha : at' < 1000000) (h1 : 1 ≤ lo) (h2 : lo ≤ hi) (h3 : hi ≤ 20) (h4 : 1 ≤ most) (h5 : most ≤ 12) :
    ∃ (m w : Nat) (b : Int) (rs : Rw), Good m w b rs ∧ lo ≤ m ∧ m ≤ hi ∧ w ≤ most ∧ b < 1000000 ∧ m_Lrows_357fb [.scr ns, .int at', .lst [.int lo, .int hi], .int most] c = .ok (.v (.tup [.int b, rwL rs])) c := by
  obtain ⟨rs1, d1, e1⟩ := drawn_spec ns at' [(hi : Int) - lo + 1, most, 9, 999999] c hn ha (by
    have b1 : bigI ((hi : Int) - lo + 1) = true := big_small (by omega)
    have b2 : bigI (most : Int) = true := big_small (by omega)
    have b3 : bigI (9 : Int) = true := big_small (by omega)
    have b4 : bigI (999999 : Int) = true := big_small (by omega)
    simp [goodS, b1, b2, b3, b4]; omega) (by simp)
  obtain ⟨r0, _, rfl, l0, u0, d1⟩ := d1.cons
  obtain ⟨r1, _, rfl, l1, u1, d1⟩ := d1.cons
  obtain ⟨r2, _, rfl, l2, u2, d1⟩ := d1.cons
  obtain ⟨r3, _, rfl, l3, u3, d1⟩ := d1.cons
  cases d1.nil
  obtain ⟨m, hm⟩ : ∃ m : Nat, (m : Int) = lo + r0 := ⟨lo + r0.toNat, by omega⟩
  obtain ⟨q, hq⟩ : ∃ q : Nat, (q : Int) = r1 := ⟨r1.toNat, by omega⟩
  subst hq
  obtain ⟨b, hb, hb1, hb2⟩ : ∃ b : Int, atI [D.int 1, .int 2, .int 3, .int 4, .int 5, .int 6, .int 12, .int 60, .int (1 + r3)] r2 = some (.int b) ∧ 1 ≤ b ∧ b < 1000000 := by
    have : r2 = 0 ∨ r2 = 1 ∨ r2 = 2 ∨ r2 = 3 ∨ r2 = 4 ∨ r2 = 5 ∨ r2 = 6 ∨ r2 = 7 ∨ r2 = 8 := by omega
    rcases this with h | h | h | h | h | h | h | h | h <;> subst h <;> exact ⟨_, rfl, by omega, by omega⟩
  have hmq : m * q ≤ 20 * 12 := Nat.mul_le_mul (by omega) (by omega)
  obtain ⟨rs2, d2, e2⟩ := drawn_spec ns at' ([(hi : Int) - lo + 1, most, 9, 999999] ++ List.replicate (m * q) (b + 1)) c hn ha (by
    have b1 : bigI ((hi : Int) - lo + 1) = true := big_small (by omega)
    have b2 : bigI (most : Int) = true := big_small (by omega)
    have b3 : bigI (9 : Int) = true := big_small (by omega)
    have b4 : bigI (999999 : Int) = true := big_small (by omega)
    rw [goodS_app, goodS_rep _ (by omega) (big_small (by omega))]
    simp [goodS, b1, b2, b3, b4]; omega) (by simp; omega)
  obtain ⟨_, d3⟩ := d2.app
  obtain ⟨n3, m3⟩ := d3.rep
  have n2 : 4 ≤ rs2.length ∧ rs2.length = 4 + m * q := by
    have : ∀ {a b : List Int}, Drw a b → b.length = a.length := by
      intro a
      induction a with
      | nil => intro b h; rw [h.nil]
      | cons x a ih => intro b h; obtain ⟨r, rs', rfl, _, _, h3⟩ := h.cons; simp [ih h3]
    have := this d2
    simp at this
    omega
  have hsl : sliceD (.lst (rs2.map D.int)) (some 4) none = some (.lst ((rs2.drop 4).map D.int)) := by
    simp only [sliceD, D.li, Option.map_some]
    rw [show (4 : Int) = ((4 : Nat) : Int) from rfl, cut_from (by rw [List.length_map]; exact n2.1), List.map_drop]
  simp only [List.length_cons, List.length_nil] at n3 m3
  obtain ⟨cs, hcs⟩ : ∃ cs, rs2.drop 4 = cs := ⟨_, rfl⟩
  rw [hcs] at hsl
  rw [show rs2.drop (0 + 1 + 1 + 1 + 1) = cs from hcs] at n3 m3
  obtain ⟨y, z, hloop⟩ := rows_loop c (some (.v (.scr ns))) (some (.v (.int at'))) (some (.v (.lst [.int lo, .int hi]))) (some (.v (.int most))) (some (.v (.lst [.int ((hi : Int) - lo + 1), .int most, .int 9, .int 999999]))) (some (.v (.int m))) b cs q m [.int r0, .int q, .int r2, .int r3] (by simp) n3 (by omega) (by omega)
  refine ⟨m, q + 1, b, cutRs b cs q m, cutRs_good n3 m3 hb1 (by omega) (by omega), by omega, by omega, by omega, hb2, ?_⟩
  have bm : bigI (m : Int) = true := big_small (by omega)
  have bq : bigI (q : Int) = true := big_small (by omega)
  have hrep : mulD c (.lst [.int (b + 1)]) (.int ((m : Int) * q)) = some (.lst (List.replicate (m * q) (D.int (b + 1)))) := by
    have h0 : ((m : Int) * q) = ((m * q : Nat) : Int) := by simp
    rw [h0]
    have : (m * q) < LIM := by show _ < 1000000; omega
    simp only [mulD]
    rw [if_pos ⟨inR_of (by omega) (by omega), by simp; omega⟩]
    have rr : ∀ n, (List.replicate n [D.int (b + 1)]).flatten = List.replicate n (D.int (b + 1)) := by
      intro n
      induction n with
      | zero => rfl
      | succ n ih => rw [List.replicate_succ, List.flatten_cons, ih, List.replicate_succ]; rfl
    rw [Int.toNat_natCast, rr]
  have hadd : addD c (.lst [.int ((hi : Int) - lo + 1), .int most, .int 9, .int 999999]) (.lst (List.replicate (m * q) (D.int (b + 1)))) = some (.lst ([.int ((hi : Int) - lo + 1), .int most, .int 9, .int 999999] ++ List.replicate (m * q) (D.int (b + 1)))) := by
    rw [addD_lst, if_pos (by rw [List.length_replicate]; show 4 + m * q < 1000000; omega)]
  simp [vI] at e1 e2
  have hm1 : inR (m : Int) := inR_of (by omega) (by omega)
  rw [← rngL_0] at hloop
  have hmul := mulD_int (c := c) (okMul_big bm bq)
  refine runB_rt ?_
  unfold b_Lrows_357fb
  simp only [en0, List.map_cons, List.map_nil, List.length_cons, List.length_nil, List.replicate, List.cons_append, List.nil_append]
  rw [seq_nx (c' := c) (e' := [some (.v (.scr ns)), some (.v (.int at')), some (.v (.lst [.int lo, .int hi])), some (.v (.int most)), some (.v (.lst [.int ((hi : Int) - lo + 1), .int most, .int 9, .int 999999])), none, none, none, none, none, none, none]) (by simp [intOp, okAny])]
  rw [seq_nx (c' := c) (e' := [some (.v (.scr ns)), some (.v (.int at')), some (.v (.lst [.int lo, .int hi])), some (.v (.int most)), some (.v (.lst [.int ((hi : Int) - lo + 1), .int most, .int 9, .int 999999])), some (.v (.lst [.int r0, .int q, .int r2, .int r3])), none, none, none, none, none, none]) (by simp [e1])]
  rw [seq_nx (c' := c) (e' := [some (.v (.scr ns)), some (.v (.int at')), some (.v (.lst [.int lo, .int hi])), some (.v (.int most)), some (.v (.lst [.int ((hi : Int) - lo + 1), .int most, .int 9, .int 999999])), some (.v (.lst [.int r0, .int q, .int r2, .int r3])), some (.v (.int m)), none, none, none, none, none]) (by simp [hm.symm])]
  rw [seq_nx (c' := c) (e' := [some (.v (.scr ns)), some (.v (.int at')), some (.v (.lst [.int lo, .int hi])), some (.v (.int most)), some (.v (.lst [.int ((hi : Int) - lo + 1), .int most, .int 9, .int 999999])), some (.v (.lst [.int r0, .int q, .int r2, .int r3])), some (.v (.int m)), some (.v (.int b)), none, none, none, none]) (by simp [hb])]
  have hX : op2 addD (mVar 4) (op2 mulD (pO (oLst [(op2O addD (mVar 7) (mC (.int 1)))])) (op2 mulD (mVar 6) (op2 ixD (mVar 5) (mC (.int 1))))) [some (.v (.scr ns)), some (.v (.int at')), some (.v (.lst [.int lo, .int hi])), some (.v (.int most)), some (.v (.lst [.int ((hi : Int) - lo + 1), .int most, .int 9, .int 999999])), some (.v (.lst [.int r0, .int q, .int r2, .int r3])), some (.v (.int m)), some (.v (.int b)), none, none, none, none] c = .ok (.lst ([.int ((hi : Int) - lo + 1), .int most, .int 9, .int 999999] ++ List.replicate (m * q) (D.int (b + 1)))) c :=
    op2_val (by simp) (op2_val (x := .lst [.int (b + 1)]) (by simp) (op2_val (x := .int m) (y := .int q) (by simp) (op2_val (x := .lst [.int r0, .int q, .int r2, .int r3]) (y := .int 1) (by simp) (by simp) (by simp)) hmul) hrep) hadd
  generalize (op2 addD (mVar 4) (op2 mulD (pO (oLst [(op2O addD (mVar 7) (mC (.int 1)))])) (op2 mulD (mVar 6) (op2 ixD (mVar 5) (mC (.int 1)))))) = X at hX ⊢
  simp only [List.cons_append, List.nil_append] at hX
  rw [seq_nx (c' := c) (e' := [some (.v (.scr ns)), some (.v (.int at')), some (.v (.lst [.int lo, .int hi])), some (.v (.int most)), some (.v (.lst [.int ((hi : Int) - lo + 1), .int most, .int 9, .int 999999])), some (.v (.lst [.int r0, .int q, .int r2, .int r3])), some (.v (.int m)), some (.v (.int b)), some (.v (.lst (cs.map D.int))), none, none, none]) (by simp [hX, e2, hsl])]
  rw [seq_nx (c' := c) (e' := [some (.v (.scr ns)), some (.v (.int at')), some (.v (.lst [.int lo, .int hi])), some (.v (.int most)), some (.v (.lst [.int ((hi : Int) - lo + 1), .int most, .int 9, .int 999999])), some (.v (.lst [.int r0, .int q, .int r2, .int r3])), some (.v (.int m)), some (.v (.int b)), some (.v (.lst (cs.map D.int))), some (.ol []), none, none]) (by simp)]
  rw [seq_nx (c' := c) (e' := [some (.v (.scr ns)), some (.v (.int at')), some (.v (.lst [.int lo, .int hi])), some (.v (.int most)), some (.v (.lst [.int ((hi : Int) - lo + 1), .int most, .int 9, .int 999999])), some (.v (.lst [.int r0, .int q, .int r2, .int r3])), some (.v (.int m)), some (.v (.int b)), some (.v (.lst (cs.map D.int))), some (.ol ((cutRs b cs q m).map fun r => T.ol (vI r))), y, z]) (by simp [hloop, hm1])]
  simp [rwL, rowL, vI_d]
end Dg

set_option Elab.async false
set_option linter.all false
set_option maxHeartbeats 4000000
set_option maxRecDepth 100000
namespace Dg
open PySem L2
/-! ### the law's own way to lowest terms -/
theorem lcommon_loop (b : Nat) : ∀ (a : Nat) (x : Option T) (c : Cs), ∃ y, sWhile (toT (op2 gtD (mVar 1) (mC (.int 0)))) (sSeq (sSet 2 (oP (op2 modD (mVar 0) (mVar 1)))) (sSeq (sSet 0 (oVar 1)) (sSet 1 (oVar 2)))) [some (.v (.int a)), some (.v (.int b)), x] c = .ok (.nx [some (.v (.int (Nat.gcd a b))), some (.v (.int 0)), y]) c := common_loop b
theorem lcommon_spec (a b : Nat) (c : Cs) : m_Lcommon_839ba [.int a, .int b] c = .ok (.v (.int (Nat.gcd a b))) c := by
  obtain ⟨y, hy⟩ := common_loop b a none c
  simp only [m_Lcommon_839ba, b_Lcommon_839ba]
  simp [-sWhile, hy]
theorem made_in (c : Cs) (x0 x1 x3 x5 : Option T) : ∀ (r : List Int), (∀ x ∈ r, (0 : Int) ≤ x) → ∀ (g : Nat) (x4 : Option T), ∃ y, forL (tgN 4) (sSet 2 (oF (callO m_Lcommon_839ba [(mVar 4), (mVar 2)]))) (r.map D.int) [x0, x1, some (.v (.int g)), x3, x4, x5] c = .ok (.nx [x0, x1, some (.v (.int (gcf g r))), x3, y, x5]) c
  | [], _, g, x4 => ⟨x4, rfl⟩
  | x :: r, h, g, x4 => by
    obtain ⟨n, rfl⟩ := Int.eq_ofNat_of_zero_le (h x List.mem_cons_self)
    obtain ⟨y, hy⟩ := made_in c x0 x1 x3 x5 r (fun z m => h z (List.mem_cons_of_mem _ m)) (Nat.gcd g n) (some (.v (.int n)))
    refine ⟨y, ?_⟩
    have hc := lcommon_spec n g c
    rw [Nat.gcd_comm] at hc
    rw [List.map_cons, forL_nx (c2 := c) (e1 := [x0, x1, some (.v (.int g)), x3, some (.v (.int n)), x5]) (e2 := [x0, x1, some (.v (.int (Nat.gcd g n : Nat))), x3, some (.v (.int n)), x5]) (by simp) (by simp [hc]), hy]
    rfl
/-- rows in lists or tuples -/
def rowQ (t : Bool) (r : List Int) : D := sq t (r.map D.int)
theorem made_out (c : Cs) (t : Bool) (x0 x1 x5 : Option T) : ∀ (rs : Rw), (∀ r ∈ rs, ∀ x ∈ r, (0 : Int) ≤ x) → ∀ (g : Nat) (x3 x4 : Option T), ∃ y z, forL (tgN 3) (sFor (itSeq (oVar 3)) (tgN 4) (sSet 2 (oF (callO m_Lcommon_839ba [(mVar 4), (mVar 2)])))) (rs.map (rowQ t)) [x0, x1, some (.v (.int g)), x3, x4, x5] c = .ok (.nx [x0, x1, some (.v (.int (rs.foldl gcf g : Nat))), y, z, x5]) c
  | [], _, g, x3, x4 => ⟨x3, x4, rfl⟩
  | r :: rs, h, g, x3, x4 => by
    obtain ⟨y0, hy0⟩ := made_in c x0 x1 (some (.v (rowQ t r))) x5 r (h r List.mem_cons_self) g x4
    obtain ⟨y, z, hy⟩ := made_out c t x0 x1 x5 rs (fun q m => h q (List.mem_cons_of_mem _ m)) (gcf g r) (some (.v (rowQ t r))) y0
    refine ⟨y, z, ?_⟩
    rw [List.map_cons, forL_nx (c2 := c) (e1 := [x0, x1, some (.v (.int g)), some (.v (rowQ t r)), x4, x5]) (e2 := [x0, x1, some (.v (.int (gcf g r))), some (.v (rowQ t r)), y0, x5]) (by simp) (by cases t <;> simp [rowQ, sq] at hy0 ⊢ <;> simp [hy0]), hy]
    rfl
theorem made_comp (c : Cs) (r : List Int) (g : Int) (hg : 0 < g) (hb : bigI g = true) (x0 x1 x3 x5 : Option T) : compL (tgN 4) tY (oP (op2 divD (mVar 4) (mVar 2))) (r.map D.int) [x0, x1, some (.v (.int g)), x3, none, x5] c = .ok (r.map fun x => T.v (.int (x / g))) c := by
  refine compL_map D.int _ r fun a _ => ⟨[x0, x1, some (.v (.int g)), x3, some (.v (.int a)), x5], by simp, ?_⟩
  simp [intOp, okDiv, hg, hb]
theorem made_loop (c : Cs) (t : Bool) (g : Int) (hg : 0 < g) (hb : bigI g = true) (x0 x1 : Option T) (rs : Rw) (hl : rs.length < LIM) (hw : ∀ r ∈ rs, r.length < LIM) (x3 x4 : Option T) : ∃ y z, forL (tgN 3) (sApp 5 (oD (opA tupleD [(pO (oComp [4] (itSeq (oVar 3)) (tgN 4) tY (oP (op2 divD (mVar 4) (mVar 2)))))]))) (rs.map (rowQ t)) [x0, x1, some (.v (.int g)), x3, x4, some (.ol [])] c = .ok (.nx [x0, x1, some (.v (.int g)), y, z, some (.ol ((dvr g rs).map fun r => T.v (rowT r)))]) c := by
  obtain ⟨e', h1, y, z, h2⟩ := forL_app (c := c) (tg := tgN 3) (body := (sApp 5 (oD (opA tupleD [(pO (oComp [4] (itSeq (oVar 3)) (tgN 4) tY (oP (op2 divD (mVar 4) (mVar 2)))))])))) (rowQ t) (fun r => T.v (rowT (r.map fun x => x / g))) (fun acc e => ∃ y z, e = [x0, x1, some (.v (.int g)), y, z, some (.ol acc)]) rs [] [x0, x1, some (.v (.int g)), x3, x4, some (.ol [])] (by simpa using hl) (fun r hr acc e ha he => by
    obtain ⟨y, z, rfl⟩ := he
    have hc := made_comp c r g hg hb x0 x1 (some (.v (rowQ t r))) (some (.ol acc))
    have hw' := hw r hr
    refine ⟨[x0, x1, some (.v (.int g)), some (.v (rowQ t r)), z, some (.ol acc)], [x0, x1, some (.v (.int g)), some (.v (rowQ t r)), z, some (.ol (acc ++ [T.v (rowT (r.map fun x => x / g))]))], by simp, ?_, _, _, rfl⟩
    simp only [rowT, List.map_map] at hc ⊢
    cases t <;> simp [rowQ, sq] at hc ⊢ <;> simp [hc, hw', tupleD, ha, Function.comp_def]) ⟨x3, x4, rfl⟩
  exact ⟨y, z, by rw [h1, h2]; simp [dvr]⟩
theorem made_spec {m w : Nat} {b : Int} {rs : Rw} (h : Good m w b rs) (hm : m < 1000) {k : Nat} (hb : Bd k b) (hk : k ≤ 8000) (t t' : Bool) (c : Cs) : m_Lmade_c9de9 [.int b, sq t' (rs.map (rowQ t))] c = .ok (.v (glD (redB b rs) (redR rs))) c := by
  obtain ⟨g1, g2⟩ := h.bigs hb hk
  have hl : rs.length < LIM := by show rs.length < 1000000; have := h.len; omega
  obtain ⟨y, z, hy⟩ := made_out c t (some (.v (.int b))) (some (.v (sq t' (rs.map (rowQ t))))) none rs h.nn 0 none none
  obtain ⟨y', z', hy'⟩ := made_loop c t (gcr rs) g1 g2 (some (.v (.int b))) (some (.v (sq t' (rs.map (rowQ t))))) rs hl h.lim y z
  have hf : D.flatA ((dvr (gcr rs) rs).map rowT) = true := flatA_rowT _
  have hit : ∀ (x2 x3 x4 x5 : Option T), itSeq (oVar 1) [some (.v (.int b)), some (.v (sq t' (rs.map (rowQ t)))), x2, x3, x4, x5] c = .ok (rs.map (rowQ t)) c := by cases t' <;> simp [sq]
  change forL _ _ _ _ _ = R.ok (Fl.nx [_, _, some (T.v (D.int (gcr rs : Nat))), _, _, _]) _ at hy
  simp only [m_Lmade_c9de9, b_Lmade_c9de9, glD, rwT, redB, redR]
  simp only [Int.natCast_zero] at hy
  generalize (gcr rs : Int) = g at *
  simp [-itSeq, hit, hy, hy', intOp, okDiv, g1, g2, tupleD, hf]
end Dg

set_option Elab.async false
set_option linter.all false
set_option maxHeartbeats 4000000
set_option maxRecDepth 100000
namespace Dg
open PySem L2
theorem stands_spec' (b : Int) (rs : Rw) (c : Cs) : m_stands_39d5e [glD b rs] c = .ok (.v (.int rs.length)) c := by
  simp only [m_stands_39d5e, b_stands_39d5e, glD, rwT]
  simp
/-- the rows of the clear glass, the blind one -/
def idm (m : Nat) : Rw := (List.range m).map fun i : Nat => (List.range m).map fun j : Nat => if j = i then 1 else 0
def one1 (m : Nat) : Rw := (List.range m).map fun _ => [1]
theorem idm_gls {m : Nat} (h : m = 2 ∨ m = 3 ∨ m = 4) : Gls m m 1 (idm m) := by
  rcases h with rfl | rfl | rfl <;> exact ⟨⟨rfl, by decide, by decide, by decide, by decide, by decide, by decide, by decide⟩, by decide⟩
theorem one1_gls {m : Nat} (h : m = 2 ∨ m = 3 ∨ m = 4) : Gls m 1 1 (one1 m) := by
  rcases h with rfl | rfl | rfl <;> exact ⟨⟨rfl, by decide, by decide, by decide, by decide, by decide, by decide, by decide⟩, by decide⟩
theorem Gls.red {m w : Nat} {b : Int} {rs : Rw} (h : Gls m w b rs) : redB b rs = b ∧ redR rs = rs := red_one h.one
end Dg

set_option Elab.async false
set_option linter.all false
set_option maxHeartbeats 4000000
set_option maxRecDepth 100000
namespace Dg
open PySem L2
/-! ### tables as data -/
theorem rwT_tab (m w : Nat) (f : Nat → Nat → Int) : rwT (tab m w f) = .tup ((List.range m).map fun i => .tup ((List.range w).map fun j => .int (f i j))) := by
  simp [rwT, tab, rowT, Function.comp_def]
theorem rwL_tab (m w : Nat) (f : Nat → Nat → Int) : rwL (tab m w f) = .lst ((List.range m).map fun i => .lst ((List.range w).map fun j => .int (f i j))) := by
  simp [rwL, tab, rowL, Function.comp_def]
theorem atI_rng {f : Nat → D} {n i : Nat} (h : i < n) : atI ((List.range n).map f) (i : Int) = some (f i) := atI_nat (by simp [h])
theorem atI_rng0 {f : Nat → D} {n : Nat} (h : 0 < n) : atI ((List.range n).map f) 0 = some (f 0) := atI_nat (j := 0) (by simp [h])
theorem range_lim {n : Nat} {α : Type} (f : Nat → α) (h : n < 1000000) : ((List.range n).map f).length < LIM := by simp; exact h
/-- a made glass, as a law draws it -/
theorem lglass_spec (ns : List Int) (at' lo hi most : Nat) (c : Cs) (hn : ns.length ≤ 63) (ha : at' < 1000000) (h1 : 1 ≤ lo) (h2 : lo ≤ hi) (h3 : hi ≤ 20) (h4 : 1 ≤ most) (h5 : most ≤ 12) :
    ∃ (m w : Nat) (b : Int) (f : Nat → Nat → Int), GT m w b f ∧ gcr (tab m w f) = 1 ∧ lo ≤ m ∧ m ≤ hi ∧ w ≤ most ∧ b < 1000000 ∧ m_Lglass_995d4 [.scr ns, .int at', .lst [.int lo, .int hi], .int most] c = .ok (.v (glD b (tab m w f))) c := by
  obtain ⟨m, w, b, rs, g, g1, g2, g3, g4, e1⟩ := rows_spec ns at' lo hi most c hn ha h1 h2 h3 h4 h5
  have bb : Bd 20 b := Bd.of (by have := g.b0; omega)
  have e2 := made_spec g (by omega) bb (by decide) false false c
  have hQ : rs.map (rowQ false) = rs.map rowL := rfl
  rw [hQ] at e2
  have e2' : m_Lmade_c9de9 [.int b, rwL rs] c = .ok (.v (glD (redB b rs) (redR rs))) c := e2
  have g' := g.gls
  refine ⟨m, w, redB b rs, ent (redR rs), ?_, ?_, g1, g2, g3, by have := g.le_red; omega, ?_⟩
  · have := g'.toGood; rw [this.tabE] at this; exact this.gt
  · rw [← g'.toGood.tabE]; exact g'.one
  · rw [← g'.toGood.tabE]
    simp only [m_Lglass_995d4, b_Lglass_995d4]
    simp [e1, e2']
/-! ### the product -/
theorem prod_zip (c : Cs) (w : Nat) (p : Nat → Int) (g : Nat → Int) (x : Int) (bx : bigI x = true) (bg : ∀ j, j < w → bigI (g j) = true) (x0 x1 x2 x3 x4 x6 : Option T) : compL (tgT [7, 8]) tY (op2O addD (mVar 7) (op2 mulD (mVar 5) (mVar 8))) (zipL ((List.range w).map fun j => D.int (p j)) ((List.range w).map fun j => D.int (g j))) [x0, x1, x2, x3, x4, some (.v (.int x)), x6, none, none] c = .ok ((List.range w).map fun j => T.v (.int (p j + x * g j))) c := by
  rw [zipL_map]
  refine compL_map (fun j => .tup [D.int (p j), D.int (g j)]) _ _ fun j hj => ⟨[x0, x1, x2, x3, x4, some (.v (.int x)), x6, some (.v (.int (p j))), some (.v (.int (g j)))], by simp, ?_⟩
  have := mulD_int (c := c) (okMul_big bx (bg j (List.mem_range.mp hj)))
  simp [this]
end Dg

set_option Elab.async false
set_option linter.all false
set_option maxHeartbeats 4000000
set_option maxRecDepth 100000
namespace Dg
open PySem L2
end Dg

set_option Elab.async false
set_option linter.all false
set_option maxHeartbeats 4000000
set_option maxRecDepth 100000
namespace Dg
open PySem L2
/-! ### dulled, and the law's way to it -/
theorem GT.bd {m w : Nat} {b : Int} {f : Nat → Nat → Int} (h : GT m w b f) {k : Nat} (hb : Bd k b) {i j : Nat} (hi : i < m) (hj : j < w) : Bd k (f i j) := Bd.le hb (by have := h.le hi hj; omega)
theorem gl0 (c : Cs) (b : Int) (rs : Rw) : ixD c (glD b rs) (.int 0) = some (.int b) := by simp [glD]
theorem gl1 (c : Cs) (b : Int) (rs : Rw) : ixD c (glD b rs) (.int 1) = some (rwT rs) := by simp [glD]
theorem rw_len (c : Cs) (m w : Nat) (f : Nat → Nat → Int) : lenD c [rwT (tab m w f)] = some (.int m) := by simp [rwT, tab]
theorem rw_at (c : Cs) {m w i : Nat} {f : Nat → Nat → Int} (h : i < m) : ixD c (rwT (tab m w f)) (.int i) = some (rowT ((List.range w).map fun j => f i j)) := by
  rw [rwT_tab]; simp [atI_rng h, rowT, Function.comp_def]
theorem rw_at0 (c : Cs) {m w : Nat} {f : Nat → Nat → Int} (h : 0 < m) : ixD c (rwT (tab m w f)) (.int 0) = some (rowT ((List.range w).map fun j => f 0 j)) := by
  rw [rwT_tab]; simp [atI_rng0 h, rowT, Function.comp_def]
theorem row_len (c : Cs) (w : Nat) (f : Nat → Int) : lenD c [rowT ((List.range w).map fun j => f j)] = some (.int w) := by simp [rowT]
theorem row_ix (c : Cs) {w j : Nat} {f : Nat → Int} (h : j < w) : ixD c (rowT ((List.range w).map fun j => f j)) (.int j) = some (.int (f j)) := by
  simp only [rowT, ixD_tup, List.map_map]
  exact atI_rng (f := D.int ∘ fun j => f j) h
/-- the made one of the product -/
def prB (m n w : Nat) (a b : Int) (f g : Nat → Nat → Int) : Int := redB (a * b) (tab m w (mulF n f g))
def prF (m n w : Nat) (f g : Nat → Nat → Int) : Nat → Nat → Int := rdF m w (mulF n f g)
/-! ### whole numbers -/
theorem kinds_in (c : Cs) (b : Int) (rs : Rw) : ∀ (l : List Int) (x1 x2 : Option T), ∃ y, forL (tgN 2) (sIf (orT (notT (toT (isiP "int" (mVar 2)))) (toT (isiP "bool" (mVar 2)))) (sRet (oP (mC (.bl false)))) sNil) (l.map D.int) [some (.v (glD b rs)), x1, x2] c = .ok (.nx [some (.v (glD b rs)), x1, y]) c
  | [], x1, x2 => ⟨x2, rfl⟩
  | x :: l, x1, x2 => by
    obtain ⟨y, hy⟩ := kinds_in c b rs l x1 (some (.v (.int x)))
    refine ⟨y, ?_⟩
    rw [List.map_cons, forL_nx (c2 := c) (e1 := [some (.v (glD b rs)), x1, some (.v (.int x))]) (e2 := [some (.v (glD b rs)), x1, some (.v (.int x))]) (by simp) (by simp), hy]
theorem tab_short {m w : Nat} {f : Nat → Nat → Int} (hw : w < 1000) : ∀ r ∈ tab m w f, r.length < 1000 := fun r hr => by rw [tab_wid r hr]; exact hw
/-! ### the law's product -/
theorem lsum_comp (c : Cs) (n : Nat) (hn : n < 1000) (p q : Nat → Int) (bp : ∀ j, j < n → bigI (p j) = true) (bq : ∀ j, j < n → bigI (q j) = true) (m w : Nat) (a b : Int) (f g : Nat → Nat → Int) (i k : Nat) (hp : p = fun j => f i j) (hq : q = fun j => g j k) (hk : k < w) (x2 x4 : Option T) :
    compL (tgN 6) tY (oD (op2 mulD (op2 ixD (mVar 3) (mVar 6)) (op2 ixD (op2 ixD (op2 ixD (mVar 1) (mC (.int 1))) (mVar 6)) (mVar 5)))) ((List.range n).map fun j : Nat => D.int j) [some (.v (glD a (tab m n f))), some (.v (glD b (tab n w g))), x2, some (.v (rowT ((List.range n).map fun j => f i j))), x4, some (.v (.int k)), none] c = .ok ((List.range n).map fun j => T.v (.int (p j * q j))) c := by
  refine compL_map (fun j : Nat => D.int j) _ _ fun j hj => ⟨[some (.v (glD a (tab m n f))), some (.v (glD b (tab n w g))), x2, some (.v (rowT ((List.range n).map fun j => f i j))), x4, some (.v (.int k)), some (.v (.int j))], by simp, ?_⟩
  have hj := List.mem_range.mp hj
  have hmul := mulD_int (c := c) (okMul_big (bp j hj) (bq j hj))
  subst hp hq
  simp [gl1, rw_at c hj, row_ix c hj, row_ix c hk, hmul]
end Dg

set_option Elab.async false
set_option linter.all false
set_option maxHeartbeats 4000000
set_option maxRecDepth 100000
namespace Dg
open PySem L2
/-! ### dulled by each sign itself, by one sign -/
theorem red_to {m w : Nat} {b b' : Int} {f g : Nat → Nat → Int} (hb : 0 < b) (hb' : 0 < b') (h : ∀ i, i < m → ∀ j, j < w → f i j * b' = g i j * b) (h1 : gcr (tab m w g) = 1) : redB b (tab m w f) = b' ∧ tab m w (rdF m w f) = tab m w g := by
  have e := red_tab hb hb' h
  have e1 := red_one (b := b') h1
  rw [redR_tab] at e
  exact ⟨e.1.trans e1.1, e.2.trans e1.2⟩
def idF (i j : Nat) : Int := if j = i then 1 else 0
theorem idm_tab (n : Nat) : idm n = tab n n idF := rfl
theorem one1_tab (n : Nat) : one1 n = tab n 1 fun _ _ => 1 := rfl
theorem id_gt {n : Nat} (h0 : 0 < n) (h : n ≤ 12) : GT n n 1 idF where
  m0 := h0
  w0 := h0
  w12 := h
  b0 := by decide
  nn := fun i _ j _ => by unfold idF; split <;> decide
  sum := fun i hi => by
    have := sumTo_one (f := fun _ => 1) (j := i) (n := n) hi
    exact this
theorem one_gt {n : Nat} (h0 : 0 < n) : GT n 1 1 fun _ _ => 1 where
  m0 := h0
  w0 := by decide
  w12 := by decide
  b0 := by decide
  nn := fun i _ j _ => by decide
  sum := fun i hi => rfl
theorem mul_id {n : Nat} {f : Nat → Nat → Int} {i k : Nat} (hk : k < n) : mulF n f idF i k = f i k := by
  unfold mulF idF
  rw [sumTo_congr (g := fun j => if j = k then f i j else 0) fun j hj => ?_]
  · exact sumTo_one hk
  · by_cases h : j = k
    · subst h; simp
    · rw [if_neg (Ne.symm h), if_neg h]; simp
theorem mul_one {m n : Nat} {a : Int} {f : Nat → Nat → Int} (h : GT m n a f) {i k : Nat} (hi : i < m) : mulF n f (fun _ _ => 1) i k = a := by
  unfold mulF
  rw [sumTo_mulr, h.sum i hi]; omega
theorem gl_self (c : Cs) (b : Int) (rs : Rw) : neD c (glD b rs) (glD b rs) = some (.bl false) := by rw [neD_nb (n := 3) (m := 3) c (nb_glD _ _ 0) (nb_glD _ _ 0)]; simp
theorem gl_selfE (c : Cs) (b : Int) (rs : Rw) : eqD c (glD b rs) (glD b rs) = some (.bl true) := by rw [eqD_nb (n := 3) (m := 3) c (nb_glD _ _ 0) (nb_glD _ _ 0)]; simp
end Dg

set_option Elab.async false
set_option linter.all false
set_option maxHeartbeats 4000000
set_option maxRecDepth 100000
namespace Dg
open PySem L2
/-! ### one behind the other -/
def catF (n : Nat) (f g : Nat → Nat → Int) : Nat → Nat → Int := fun i j => if j < n then f i j else g i (j - n)
theorem range_cat {α : Type} (p q : Nat → α) (n : Nat) : ∀ k : Nat, (List.range n).map p ++ (List.range k).map q = (List.range (n + k)).map fun j => if j < n then p j else q (j - n)
  | 0 => by
    simp only [List.range_zero, List.map_nil, List.append_nil, Nat.add_zero]
    exact List.map_congr_left fun j hj => by rw [if_pos (List.mem_range.mp hj)]
  | k + 1 => by
    rw [List.range_succ, List.map_append, ← List.append_assoc, range_cat p q n k, Nat.add_succ, List.range_succ, List.map_append]
    simp
    intro hh
    omega
theorem sumTo_cat (p q : Nat → Int) (n : Nat) : ∀ k : Nat, sumTo (n + k) (fun j => if j < n then p j else q (j - n)) = sumTo n p + sumTo k q
  | 0 => by
    rw [Nat.add_zero, sumTo_congr (g := p) fun j hj => by rw [if_pos hj]]; simp [sumTo]
  | k + 1 => by
    rw [Nat.add_succ, sumTo, sumTo_cat p q n k, sumTo]
    simp; omega
/-- two glasses mixed by p over q -/
def mixF (n : Nat) (p q a b : Int) (f g : Nat → Nat → Int) : Nat → Nat → Int := catF n (fun i j => f i j * (p * b)) (fun i j => g i j * ((q - p) * a))
theorem GT.mix {m n1 n2 : Nat} {a b p q : Int} {f g : Nat → Nat → Int} (h : GT m n1 a f) (h2 : GT m n2 b g) (hp : 0 ≤ p) (hpq : p ≤ q) (hq : 1 ≤ q) (h12 : n1 + n2 ≤ 12) : GT m (n1 + n2) (q * a * b) (mixF n1 p q a b f g) where
  m0 := h.m0
  w0 := by have := h.w0; omega
  w12 := h12
  b0 := Int.mul_pos (Int.mul_pos (by omega) h.b0) h2.b0
  nn := fun i hi j hj => by
    have ha := h.b0
    have hb := h2.b0
    unfold mixF catF
    split
    · exact Int.mul_nonneg (h.nn i hi j (by assumption)) (Int.mul_nonneg hp (by omega))
    · exact Int.mul_nonneg (h2.nn i hi (j - n1) (by omega)) (Int.mul_nonneg (by omega) (by omega))
  sum := fun i hi => by
    unfold mixF catF
    rw [sumTo_cat (fun j => f i j * (p * b)) (fun j => g i j * ((q - p) * a)), sumTo_mulr, sumTo_mulr, h.sum i hi, h2.sum i hi]
    grind
theorem stands_tab (b : Int) (m w : Nat) (f : Nat → Nat → Int) (c : Cs) : m_stands_39d5e [glD b (tab m w f)] c = .ok (.v (.int m)) c := by
  have := stands_spec' b (tab m w f) c
  rwa [tab_len] at this
theorem mul_comp8 (c : Cs) (n : Nat) (p : Nat → Int) (x : Int) (hx : bigI x = true) (hp : ∀ j, j < n → bigI (p j) = true) (e : En) (v : Nat) (hv : ∀ d : D, (e.set 8 (some (.v d)))[v]? = some (some (.v (.int x)))) (h8 : 8 < e.length) :
    compL (tgN 8) tY (oD (op2 mulD (mVar 8) (mVar v))) ((List.range n).map fun j => D.int (p j)) e c = .ok ((List.range n).map fun j => T.v (.int (p j * x))) c := by
  refine compL_map (fun j => D.int (p j)) _ _ fun j hj => ⟨_, rfl, ?_⟩
  have := mulD_int (c := c) (okMul_big (hp j (List.mem_range.mp hj)) hx)
  have h9 : (e.set 8 (some (.v (.int (p j)))))[8]? = some (some (.v (.int (p j)))) := by rw [List.getElem?_set_self h8]
  simp only [oD, op2, mVar, h9, hv, R.bind, T.d, this, R.of, keepD_int]
end Dg

set_option Elab.async false
set_option linter.all false
set_option maxHeartbeats 4000000
set_option maxRecDepth 100000
namespace Dg
open PySem L2
/-! ### one beside the other -/
theorem dm_of {i n j : Nat} (hj : j < n) : (i * n + j) / n = i ∧ (i * n + j) % n = j := by
  have hn : 0 < n := by omega
  constructor
  · rw [Nat.mul_comm, Nat.mul_add_div hn, Nat.div_eq_of_lt hj]; omega
  · rw [Nat.mul_comm, Nat.mul_add_mod, Nat.mod_eq_of_lt hj]
theorem range_mul {α : Type} (h : Nat → Nat → α) (n i : Nat) (hn : 0 < n) : (List.range (i * n)).map (fun k => h (k / n) (k % n)) ++ (List.range n).map (fun j => h i j) = (List.range ((i + 1) * n)).map fun k => h (k / n) (k % n) := by
  rw [range_cat, Nat.add_mul, Nat.one_mul]
  apply List.map_congr_left
  intro k hk
  have hk := List.mem_range.mp hk
  by_cases h1 : k < i * n
  · rw [if_pos h1]
  · rw [if_neg h1]
    have := dm_of (i := i) (n := n) (j := k - i * n) (by omega)
    rw [show i * n + (k - i * n) = k by omega] at this
    rw [this.1, this.2]
theorem sumTo_dm (h : Nat → Nat → Int) (n : Nat) (hn : 0 < n) : ∀ i : Nat, sumTo (i * n) (fun k => h (k / n) (k % n)) = sumTo i fun a => sumTo n fun j => h a j
  | 0 => by simp [sumTo]
  | i + 1 => by
    rw [Nat.add_mul, Nat.one_mul, sumTo, ← sumTo_dm h n hn i]
    rw [sumTo_congr (g := fun k => if k < i * n then h (k / n) (k % n) else h i (k - i * n)) fun k hk => ?_]
    · exact sumTo_cat (fun k => h (k / n) (k % n)) (fun j => h i j) (i * n) n
    · by_cases h1 : k < i * n
      · rw [if_pos h1]
      · rw [if_neg h1]
        have := dm_of (i := i) (n := n) (j := k - i * n) (by omega)
        rw [show i * n + (k - i * n) = k by omega] at this
        rw [this.1, this.2]
def besF (n : Nat) (f g : Nat → Nat → Int) : Nat → Nat → Int := fun r k => f r (k / n) * g r (k % n)
theorem dm_lt {n1 n2 k : Nat} (hk : k < n1 * n2) : k / n2 < n1 ∧ k % n2 < n2 := by
  have hn : 0 < n2 := Nat.pos_of_ne_zero fun z => by subst z; omega
  exact ⟨Nat.div_lt_of_lt_mul (by rw [Nat.mul_comm]; exact hk), Nat.mod_lt _ hn⟩
theorem GT.bes {m n1 n2 : Nat} {a b : Int} {f g : Nat → Nat → Int} (h : GT m n1 a f) (h2 : GT m n2 b g) (h12 : n1 * n2 ≤ 12) : GT m (n1 * n2) (a * b) (besF n2 f g) where
  m0 := h.m0
  w0 := Nat.mul_pos h.w0 h2.w0
  w12 := h12
  b0 := Int.mul_pos h.b0 h2.b0
  nn := fun i hi k hk => Int.mul_nonneg (h.nn i hi _ (dm_lt hk).1) (h2.nn i hi _ (dm_lt hk).2)
  sum := fun i hi => by
    show sumTo (n1 * n2) (fun k => (fun x y => f i x * g i y) (k / n2) (k % n2)) = a * b
    rw [sumTo_dm (fun x y => f i x * g i y) n2 h2.w0 n1, sumTo_congr (n := n1) (g := fun x => f i x * b) fun x hx => ?_, sumTo_mulr, h.sum i hi]
    show sumTo n2 (fun j => f i x * g i j) = f i x * b
    rw [sumTo_mul, h2.sum i hi]
/-- joined to the first, the second one's signs -/
def toF1 (n2 : Nat) : Nat → Nat → Int := fun k c => if c = k / n2 then 1 else 0
def toF2 (n2 : Nat) : Nat → Nat → Int := fun k c => if c = k % n2 then 1 else 0
theorem to1_gt {n1 n2 : Nat} (h1 : 0 < n1) (h2 : 0 < n2) (h : n1 ≤ 12) : GT (n1 * n2) n1 1 (toF1 n2) where
  m0 := Nat.mul_pos h1 h2
  w0 := h1
  w12 := h
  b0 := by decide
  nn := fun i _ j _ => by unfold toF1; split <;> decide
  sum := fun k hk => sumTo_one (f := fun _ => 1) (j := k / n2) (dm_lt hk).1
theorem to2_gt {n1 n2 : Nat} (h1 : 0 < n1) (h2 : 0 < n2) (h : n2 ≤ 12) : GT (n1 * n2) n2 1 (toF2 n2) where
  m0 := Nat.mul_pos h1 h2
  w0 := h2
  w12 := h
  b0 := by decide
  nn := fun i _ j _ => by unfold toF2; split <;> decide
  sum := fun k hk => sumTo_one (f := fun _ => 1) (j := k % n2) (dm_lt hk).2
theorem ite_mul1 (p : Prop) [Decidable p] (x : Int) : x * (if p then 1 else 0) = if p then x else 0 := by split <;> simp
theorem bes_to1 {m n1 n2 : Nat} {b : Int} {f g : Nat → Nat → Int} (h2 : GT m n2 b g) {i c : Nat} (hi : i < m) (hc : c < n1) : mulF (n1 * n2) (besF n2 f g) (toF1 n2) i c = f i c * b := by
  have h := sumTo_dm (fun x y => f i x * g i y * (if c = x then 1 else 0)) n2 h2.w0 n1
  have e : mulF (n1 * n2) (besF n2 f g) (toF1 n2) i c = sumTo n1 fun x => sumTo n2 fun y => f i x * g i y * (if c = x then 1 else 0) := h
  rw [e, sumTo_congr (g := fun x => if x = c then f i x * b else 0) fun x hx => ?_]
  · exact sumTo_one (f := fun x => f i x * b) hc
  · by_cases hcx : x = c
    · subst hcx
      simp only [if_true, Int.mul_one]
      rw [sumTo_mul, h2.sum i hi]
    · rw [if_neg hcx, sumTo_congr (g := fun _ => 0) fun y hy => by rw [if_neg (Ne.symm hcx)]; simp, sumTo_zero]
theorem bes_to2 {m n1 n2 : Nat} {a : Int} {f g : Nat → Nat → Int} (h : GT m n1 a f) (h0 : 0 < n2) {i c : Nat} (hi : i < m) (hc : c < n2) : mulF (n1 * n2) (besF n2 f g) (toF2 n2) i c = g i c * a := by
  have h' := sumTo_dm (fun x y => f i x * g i y * (if c = y then 1 else 0)) n2 h0 n1
  have e : mulF (n1 * n2) (besF n2 f g) (toF2 n2) i c = sumTo n1 fun x => sumTo n2 fun y => f i x * g i y * (if c = y then 1 else 0) := h'
  rw [e, sumTo_congr (g := fun x => f i x * g i c) fun x hx => ?_, sumTo_mulr, h.sum i hi, Int.mul_comm]
  rw [sumTo_congr (g := fun y => if y = c then f i x * g i y else 0) fun y hy => ?_]
  · exact sumTo_one (f := fun y => f i x * g i y) hc
  · rw [ite_mul1]
    by_cases hcy : y = c
    · subst hcy; simp
    · rw [if_neg (Ne.symm hcy), if_neg hcy]
/-- a sum of what was made lower goes as the sum -/
theorem mul_cross {m n : Nat} {b : Int} {f : Nat → Nat → Int} (h : GT m n b f) (g : Nat → Nat → Int) {i k : Nat} (hi : i < m) : mulF n (rdF m n f) g i k * b = mulF n f g i k * redB b (tab m n f) := by
  unfold mulF
  rw [← sumTo_mulr, ← sumTo_mulr]
  refine sumTo_congr fun j hj => ?_
  have := h.cross hi hj
  generalize rdF m n f i j = x at *
  generalize f i j = y at *
  grind
/-! what is told -/
theorem bes_comp (c : Cs) (n : Nat) (x : Int) (g : Nat → Int) (bx : bigI x = true) (bg : ∀ j, j < n → bigI (g j) = true) (x0 x1 x2 x3 x4 x5 : Option T) : compL (tgN 7) tY (oD (op2 mulD (mVar 6) (mVar 7))) ((List.range n).map fun j => D.int (g j)) [x0, x1, x2, x3, x4, x5, some (.v (.int x)), none] c = .ok ((List.range n).map fun j => T.v (.int (x * g j))) c := by
  refine compL_map (fun j => D.int (g j)) _ _ fun j hj => ⟨_, rfl, ?_⟩
  have := mulD_int (c := c) (okMul_big bx (bg j (List.mem_range.mp hj)))
  simp [this]
end Dg

set_option Elab.async false
set_option linter.all false
set_option maxHeartbeats 4000000
set_option maxRecDepth 100000
namespace Dg
open PySem L2
/-! ### some stands kept -/
def selF (s : List Nat) (f : Nat → Nat → Int) : Nat → Nat → Int := fun i j => f (s.getD i 0) j
/-- rising numbers below m, from above l -/
def okR (m : Int) : Int → List Int → Bool
  | _, [] => true
  | l, x :: xs => decide (l < x) && decide (x < m) && okR m x xs
structure Ris (m : Nat) (s : List Nat) : Prop where
  p : s.Pairwise (· < ·)
  lt : ∀ x ∈ s, x < m
  two : 2 ≤ s.length
  four : s.length ≤ 4
theorem okR_of : ∀ (s : List Nat) (m : Nat) (l : Int), s.Pairwise (· < ·) → (∀ x ∈ s, x < m) → (∀ x ∈ s, l < (x : Int)) → okR m l (s.map fun x : Nat => (x : Int)) = true
  | [], _, _, _, _, _ => rfl
  | x :: s, m, l, p, h, h2 => by
    rw [List.pairwise_cons] at p
    have h3 := h x List.mem_cons_self
    have h4 := h2 x List.mem_cons_self
    rw [List.map_cons, okR, decide_eq_true (show l < (x : Int) from h4), decide_eq_true (show (x : Int) < m by omega)]
    exact okR_of s m x p.2 (fun y hy => h y (List.mem_cons_of_mem _ hy)) fun y hy => by have := p.1 y hy; omega
theorem sel_gt {m n : Nat} {a : Int} {f : Nat → Nat → Int} {s : List Nat} (h : GT m n a f) (hs : Ris m s) : GT s.length n a (selF s f) := by
  have hl := hs.two
  have key : ∀ i, i < s.length → s.getD i 0 < m := fun i hi => by
    have : s.getD i 0 ∈ s := by rw [List.getD_eq_getElem?_getD, List.getElem?_eq_getElem hi]; exact List.getElem_mem hi
    exact hs.lt _ this
  exact ⟨by omega, h.w0, h.w12, h.b0, fun i hi j hj => h.nn _ (key i hi) j hj, fun i hi => h.sum _ (key i hi)⟩
theorem sel_key {m : Nat} {s : List Nat} (hs : Ris m s) {i : Nat} (hi : i < s.length) : s.getD i 0 < m := by
  have : s.getD i 0 ∈ s := by rw [List.getD_eq_getElem?_getD, List.getElem?_eq_getElem hi]; exact List.getElem_mem hi
  exact hs.lt _ this
theorem stands_tab2 (b : Int) (m w : Nat) (f : Nat → Nat → Int) (c : Cs) : m_stands_39d5e [glD b (tab m w f)] c = .ok (.v (.int m)) c := by
  have := stands_spec' b (tab m w f) c
  rwa [tab_len] at this
/-- the loop: all rising, or it is refused -/
theorem kept_loop (c : Cs) {m n : Nat} {a : Int} {f : Nat → Nat → Int} (x1 : Option T) : ∀ (L : List Int) (l : Int) (x3 : Option T),
    (okR m l L = true → ∃ y z, forL (tgN 3) (sSeq (sIf (orT (notT (toT (callP m_is_whole_c5d19 [(mVar 3)]))) (notT (toT (chain ltD ltD (mVar 2) (mVar 3) (callP m_stands_39d5e [(mVar 0)]))))) (sRaise "NoFit") sNil) (sSet 2 (oVar 3))) (L.map D.int) [some (.v (glD a (tab m n f))), x1, some (.v (.int l)), x3] c = .ok (.nx [some (.v (glD a (tab m n f))), x1, some (.v (.int y)), z]) c) ∧
    (okR m l L = false → ∃ e', forL (tgN 3) (sSeq (sIf (orT (notT (toT (callP m_is_whole_c5d19 [(mVar 3)]))) (notT (toT (chain ltD ltD (mVar 2) (mVar 3) (callP m_stands_39d5e [(mVar 0)]))))) (sRaise "NoFit") sNil) (sSet 2 (oVar 3))) (L.map D.int) [some (.v (glD a (tab m n f))), x1, some (.v (.int l)), x3] c = .ok (.er "NoFit" e') c)
  | [], l, x3 => ⟨fun _ => ⟨l, x3, rfl⟩, fun h => by cases h⟩
  | x :: L, l, x3 => by
    have ih := kept_loop c (m := m) (n := n) (a := a) (f := f) x1 L x (some (.v (.int x)))
    have st := stands_tab2 a m n f c
    by_cases h1 : l < x
    · by_cases h2 : x < (m : Int)
      · have e : okR m l (x :: L) = okR m x L := by rw [okR, decide_eq_true h1, decide_eq_true h2]; rfl
        have step : (sSeq (sIf (orT (notT (toT (callP m_is_whole_c5d19 [(mVar 3)]))) (notT (toT (chain ltD ltD (mVar 2) (mVar 3) (callP m_stands_39d5e [(mVar 0)]))))) (sRaise "NoFit") sNil) (sSet 2 (oVar 3))) [some (.v (glD a (tab m n f))), x1, some (.v (.int l)), some (.v (.int x))] c = .ok (.nx [some (.v (glD a (tab m n f))), x1, some (.v (.int x)), some (.v (.int x))]) c := by simp [isw_int, st, h1, h2]
        rw [e, List.map_cons, forL_nx (c2 := c) (e1 := [some (.v (glD a (tab m n f))), x1, some (.v (.int l)), some (.v (.int x))]) (by simp) step]
        exact ih
      · have e : okR m l (x :: L) = false := by rw [okR, decide_eq_false h2]; simp
        refine ⟨(fun h => by rw [e] at h; cases h), fun _ => ⟨[some (.v (glD a (tab m n f))), x1, some (.v (.int l)), some (.v (.int x))], ?_⟩⟩
        rw [List.map_cons]
        exact forL_er (c2 := c) (e1 := [some (.v (glD a (tab m n f))), x1, some (.v (.int l)), some (.v (.int x))]) (e2 := [some (.v (glD a (tab m n f))), x1, some (.v (.int l)), some (.v (.int x))]) (by simp) (by simp [isw_int, st, h1, h2])
    · have e : okR m l (x :: L) = false := by rw [okR, decide_eq_false h1]; simp
      refine ⟨(fun h => by rw [e] at h; cases h), fun _ => ⟨[some (.v (glD a (tab m n f))), x1, some (.v (.int l)), some (.v (.int x))], ?_⟩⟩
      rw [List.map_cons]
      exact forL_er (c2 := c) (e1 := [some (.v (glD a (tab m n f))), x1, some (.v (.int l)), some (.v (.int x))]) (e2 := [some (.v (glD a (tab m n f))), x1, some (.v (.int l)), some (.v (.int x))]) (by simp) (by simp [isw_int, st, h1])
end Dg

set_option Elab.async false
set_option linter.all false
set_option maxHeartbeats 4000000
set_option maxRecDepth 100000
namespace Dg
open PySem L2
/-! ### two signs joined -/
def jnF (i j : Nat) (f : Nat → Nat → Int) : Nat → Nat → Int := fun r k => if k = i then f r i + f r j else if k < j then f r k else f r (k + 1)
theorem sumTo_skip (f : Nat → Int) (j : Nat) : ∀ n, j ≤ n → sumTo n (fun k => if k < j then f k else f (k + 1)) + f j = sumTo (n + 1) f
  | 0, h => by have : j = 0 := by omega
               subst this; simp [sumTo]
  | n + 1, h => by
    by_cases hj : j = n + 1
    · subst hj
      rw [sumTo_congr (g := f) fun k hk => if_pos hk]; rfl
    · have := sumTo_skip f j n (by omega)
      rw [sumTo, if_neg (by omega)]
      show _ + f (n + 1) + f j = sumTo (n + 1) f + f (n + 1)
      omega
theorem sumTo_jn {i j n : Nat} (f : Nat → Int) (hi : i < j) (hj : j ≤ n) : sumTo n (fun k => if k = i then f i + f j else if k < j then f k else f (k + 1)) = sumTo (n + 1) f := by
  have h1 := sumTo_skip f j n hj
  have h2 := sumTo_one (f := fun _ => f j) (j := i) (n := n) (by omega)
  have h3 := sumTo_add (fun k => if k < j then f k else f (k + 1)) (fun k => if k = i then f j else 0) n
  rw [sumTo_congr (g := fun k => (if k < j then f k else f (k + 1)) + if k = i then f j else 0) fun k hk => ?_, h3]
  · rw [h2]; exact h1
  · by_cases e : k = i
    · subst e; simp [hi]
    · simp [e]
theorem GT.jn {m n i j : Nat} {a : Int} {f : Nat → Nat → Int} (h : GT m (n + 1) a f) (hi : i < j) (hj : j ≤ n) : GT m n a (jnF i j f) where
  m0 := h.m0
  w0 := by omega
  w12 := by have := h.w12; omega
  b0 := h.b0
  nn := fun r hr k hk => by
    have h1 := h.nn r hr i (by omega)
    have h2 := h.nn r hr j (by omega)
    have h3 := h.nn r hr k (by omega)
    have h4 := h.nn r hr (k + 1) (by omega)
    unfold jnF
    split
    · omega
    · split <;> assumption
  sum := fun r hr => by rw [← h.sum r hr]; exact sumTo_jn (f r) hi hj
theorem skip_list {α : Type} (g : Nat → α) (n j : Nat) (h : j ≤ n) : ((List.range (n + 1)).map g).take j ++ ((List.range (n + 1)).map g).drop (j + 1) = (List.range n).map fun k => if k < j then g k else g (k + 1) := by
  refine List.ext_getElem (by simp; omega) fun k h1 h2 => ?_
  simp at h2
  rw [List.getElem_append]
  simp only [List.length_take, List.length_map, List.length_range, List.getElem_take, List.getElem_map, List.getElem_range, List.getElem_drop]
  by_cases hk : k < j
  · rw [dif_pos (by omega), if_pos hk]
  · rw [dif_neg (by omega), if_neg hk]
    congr 1
    omega
theorem setAt_list {α : Type} (g : Nat → α) (x : α) (n i : Nat) : ((List.range n).map g).set i x = (List.range n).map fun k => if k = i then x else g k := by
  refine List.ext_getElem (by simp) fun k h1 h2 => ?_
  simp at h2
  rw [List.getElem_set]
  simp [eq_comm]
theorem ixN_nat {n i : Nat} (h : i < n) : ixN n (i : Int) = some i := by
  unfold ixN
  rw [if_pos (by omega), if_pos (by omega)]
  simp
theorem sliceD_tup (l : List D) (lo hi : Option Int) : sliceD (.tup l) lo hi = some (.tup (cutD l lo hi)) := rfl
end Dg

set_option Elab.async false
set_option linter.all false
set_option maxHeartbeats 4000000
set_option maxRecDepth 100000
namespace Dg
open PySem L2
/-! ### what does not fit -/
section
variable {m m2 n1 n2 : Nat} {a b p q : Int} {f g : Nat → Nat → Int} {k : Nat}
end
end Dg

set_option Elab.async false
set_option linter.all false
set_option maxHeartbeats 4000000
set_option maxRecDepth 100000
namespace Dg
open PySem L2
/-! ### the pen: what a law draws by -/
structure Pen where
  mode : Int
  ns : List Int
  pos : Nat
  val : Int
  cnt : Nat
def penD (p : Pen) : List D := [.int p.mode, .scr p.ns, .int p.pos, .int p.val, .int p.cnt]
structure PenOk (p : Pen) (n : Nat) : Prop where
  m : p.mode = 0 ∨ (p.mode = 1 ∧ p.ns ≠ [])
  f : p.pos + n ≤ 900000
  l : p.ns.length ≤ 63
theorem PenOk.le {p : Pen} {n k : Nat} (h : PenOk p n) (hk : k ≤ n) : PenOk p k := ⟨h.m, by have := h.f; omega, h.l⟩
/-- the pen's state, with so many draws left -/
def PS (n : Nat) (c : Cs) : Prop := ∃ p, PenOk p n ∧ c = [penD p]
theorem PS.le {n k : Nat} {c : Cs} (h : PS n c) (hk : k ≤ n) : PS k c := by
  obtain ⟨p, h1, h2⟩ := h
  exact ⟨p, h1.le hk, h2⟩
/-! ### loops that draw -/
theorem compL_st {α : Type} {tg : D → En → Option En} {f : MO} {e : En} (k : Nat) (inj : α → D) (P : Nat → Cs → Prop) (Q : T → Prop) : ∀ (l : List α) (n : Nat) (c : Cs), P (n + l.length * k) c → (∀ a ∈ l, ∀ n c, P (n + k) c → ∃ e1 t c', tg (inj a) e = some e1 ∧ f e1 c = .ok t c' ∧ P n c' ∧ Q t) →
    ∃ ts c', compL tg tY f (l.map inj) e c = .ok ts c' ∧ P n c' ∧ ts.length = l.length ∧ ∀ t ∈ ts, Q t
  | [], n, c, p, _ => ⟨[], c, rfl, by simpa using p, rfl, fun t m => by cases m⟩
  | a :: l, n, c, p, h => by
    rw [List.length_cons, Nat.add_mul, Nat.one_mul, ← Nat.add_assoc] at p
    obtain ⟨e1, t, c1, h1, h2, h3, h4⟩ := h a List.mem_cons_self (n + l.length * k) c p
    obtain ⟨ts, c', h5, h6, h7, h8⟩ := compL_st k inj P Q l n c1 h3 fun b m => h b (List.mem_cons_of_mem _ m)
    refine ⟨t :: ts, c', ?_, h6, by rw [List.length_cons, List.length_cons, h7], fun u m => ?_⟩
    · rw [List.map_cons, compL, h1]
      simp only [tY, R.ne, R.bind, h2, if_true, h5]
    · rcases List.mem_cons.mp m with rfl | m
      · exact h4
      · exact h8 u m
theorem forL_st {α : Type} {tg : D → En → Option En} {body : MS} (k : Nat) (inj : α → D) (P : Nat → List α → En → Cs → Prop) : ∀ (l : List α) (n : Nat) (e : En) (c : Cs), P (n + l.length * k) l e c → (∀ a l n e c, P (n + k) (a :: l) e c → ∃ e1 e2 c', tg (inj a) e = some e1 ∧ body e1 c = .ok (.nx e2) c' ∧ P n l e2 c') →
    ∃ e' c', forL tg body (l.map inj) e c = .ok (.nx e') c' ∧ P n [] e' c'
  | [], n, e, c, p, _ => ⟨e, c, rfl, by simpa using p⟩
  | a :: l, n, e, c, p, h => by
    rw [List.length_cons, Nat.add_mul, Nat.one_mul, ← Nat.add_assoc] at p
    obtain ⟨e1, e2, c1, h1, h2, h3⟩ := h a l (n + l.length * k) e c p
    obtain ⟨e', c', h4, h5⟩ := forL_st k inj P l n e2 c1 h3 h
    exact ⟨e', c', by rw [List.map_cons, forL_nx h1 h2]; exact h4, h5⟩
end Dg

set_option Elab.async false
set_option linter.all false
set_option maxHeartbeats 4000000
set_option maxRecDepth 100000
namespace Dg
open PySem L2
/-! ### a glass, drawn by the pen -/
theorem ldiv_loop (x0 x2 : Option T) (b : Nat) : ∀ (a : Nat) (c : Cs), sWhile (toT (op2 gtD (mVar 3) (mC (.int 0)))) (sPar 1 3 (oVar 3) (oP (op2 modD (mVar 1) (mVar 3)))) [x0, some (.v (.int a)), x2, some (.v (.int b))] c = .ok (.nx [x0, some (.v (.int (Nat.gcd a b))), x2, some (.v (.int 0))]) c := by
  induction b using Nat.strongRecOn with
  | ind b ih =>
    intro a c
    by_cases h : b = 0
    · subst h
      rw [while_f (c1 := c) (by simp), Nat.gcd_zero_right]
      rfl
    · have hb : 0 < b := by omega
      have hy := ih (a % b) (Nat.mod_lt _ (by omega)) b c
      rw [while_t (c1 := c) (c2 := c) (e2 := [x0, some (.v (.int b)), x2, some (.v (.int ((a % b : Nat) : Int)))]) (by simp; omega) (by simp [intOp, okMod, hb]), hy, Nat.gcd_comm a b, Nat.gcd_rec b a, Nat.gcd_comm]
theorem ldiv_for (c : Cs) (x0 : Option T) : ∀ (l : List Int) (g : Nat) (x2 x3 : Option T), ∃ y z, forL (tgN 2) (sSeq (sSet 3 (oP (opA absD [(mVar 2)])))
  (sWhile (toT (op2 gtD (mVar 3) (mC (.int 0)))) (sPar 1 3 (oVar 3) (oP (op2 modD (mVar 1) (mVar 3)))))) (l.map D.int) [x0, some (.v (.int g)), x2, x3] c = .ok (.nx [x0, some (.v (.int (gcf g l))), y, z]) c
  | [], g, x2, x3 => ⟨x2, x3, rfl⟩
  | x :: l, g, x2, x3 => by
    obtain ⟨y, z, h⟩ := ldiv_for c x0 l (Nat.gcd g x.natAbs) (some (.v (.int x))) (some (.v (.int 0)))
    refine ⟨y, z, ?_⟩
    have lp := ldiv_loop x0 (some (.v (.int x))) x.natAbs g c
    have ab : absD c [.int x] = some (.int (x.natAbs : Int)) := by simp only [absD]; congr 2; omega
    rw [List.map_cons, forL_nx (c2 := c) (e1 := [x0, some (.v (.int g)), some (.v (.int x)), x3]) (e2 := [x0, some (.v (.int (Nat.gcd g x.natAbs))), some (.v (.int x)), some (.v (.int 0))]) (by simp) (by
      rw [seq_nx (c' := c) (e' := [x0, some (.v (.int g)), some (.v (.int x)), some (.v (.int (x.natAbs : Int)))]) (by simp [ab])]
      exact lp), h]
    rfl
theorem gcf_gcf (rs : Rw) : gcf 0 (rs.map fun r => ((gcf 0 r : Nat) : Int)) = gcr rs := by
  refine Nat.dvd_antisymm ?_ ?_
  · rw [gcr_dvd]
    intro r hr x hx
    have h1 := ((gcf_dvd (gcf 0 (rs.map fun r => ((gcf 0 r : Nat) : Int))) (rs.map fun r => ((gcf 0 r : Nat) : Int)) 0).mp (Nat.dvd_refl _)).2 _ (List.mem_map.mpr ⟨r, hr, rfl⟩)
    have h2 := ((gcf_dvd (gcf 0 r) r 0).mp (Nat.dvd_refl _)).2 x hx
    exact Int.dvd_trans h1 h2
  · rw [gcf_dvd]
    refine ⟨Nat.dvd_zero _, fun x hx => ?_⟩
    obtain ⟨r, hr, rfl⟩ := List.mem_map.mp hx
    rw [Int.ofNat_dvd, gcf_dvd]
    exact ⟨Nat.dvd_zero _, fun x hx => gcr_dvd.mp (Nat.dvd_refl _) r hr x hx⟩
theorem lred_loop (c : Cs) (g : Int) (hg : 0 < g) (hb : bigI g = true) (x0 x1 : Option T) (rs : Rw) (hl : rs.length < LIM) (hw : ∀ r ∈ rs, r.length < LIM) (x3 : Option T) : ∃ y, forL (tgN 3) (sApp 4 (oD (opA tupleD [(pO (oComp [5] (itSeq (oVar 3)) (tgN 5) tY (oP (op2 divD (mVar 5) (mVar 2)))))]))) (rs.map rowL) [x0, x1, some (.v (.int g)), x3, some (.ol []), none] c = .ok (.nx [x0, x1, some (.v (.int g)), y, some (.ol ((dvr g rs).map fun r => T.v (rowT r))), none]) c := by
  obtain ⟨e', h1, y, h2⟩ := forL_app (c := c) (tg := tgN 3) (body := (sApp 4 (oD (opA tupleD [(pO (oComp [5] (itSeq (oVar 3)) (tgN 5) tY (oP (op2 divD (mVar 5) (mVar 2)))))])))) rowL (fun r => T.v (rowT (r.map fun x => x / g))) (fun acc e => ∃ y, e = [x0, x1, some (.v (.int g)), y, some (.ol acc), none]) rs [] [x0, x1, some (.v (.int g)), x3, some (.ol []), none] (by simpa using hl) (fun r hr acc e ha he => by
    obtain ⟨y, rfl⟩ := he
    have hc : compL (tgN 5) tY (oP (op2 divD (mVar 5) (mVar 2))) (r.map D.int) [x0, x1, some (.v (.int g)), some (.v (rowL r)), some (.ol acc), none] c = .ok (r.map fun x => T.v (.int (x / g))) c := by
      refine compL_map D.int _ r fun a _ => ⟨[x0, x1, some (.v (.int g)), some (.v (rowL r)), some (.ol acc), some (.v (.int a))], by simp, ?_⟩
      simp [intOp, okDiv, hg, hb]
    have hw' := hw r hr
    refine ⟨[x0, x1, some (.v (.int g)), some (.v (rowL r)), some (.ol acc), none], [x0, x1, some (.v (.int g)), some (.v (rowL r)), some (.ol (acc ++ [T.v (rowT (r.map fun x => x / g))])), none], by simp, ?_, _, rfl⟩
    simp only [rowT, rowL, List.map_map] at hc ⊢
    simp [hc, hw', tupleD, ha, Function.comp_def]) ⟨x3, rfl⟩
  exact ⟨y, by rw [h1, h2]; simp [dvr]⟩
/-! ### rows -/
theorem diff_comp (c : Cs) (x0 x1 x2 x3 x4 : Option T) (z : Int) : ∀ (l : List Int) (p : Int), compL (tgT [5, 6]) tY (oP (op2 subD (mVar 6) (mVar 5))) (zipL ((p :: l).map D.int) ((l ++ [z]).map D.int)) [x0, x1, x2, x3, x4, none, none] c = .ok ((diffs p (l ++ [z])).map fun x => T.v (.int x)) c
  | [], p => by simp [zipL, compL, setM, diffs]
  | x :: l, p => by
    have ih := diff_comp c x0 x1 x2 x3 x4 z l x
    have hz : zipL ((p :: x :: l).map D.int) ((x :: l ++ [z]).map D.int) = .tup [.int p, .int x] :: zipL ((x :: l).map D.int) ((l ++ [z]).map D.int) := rfl
    rw [hz, compL]
    generalize zipL ((x :: l).map D.int) ((l ++ [z]).map D.int) = Z at *
    simp [setM, ih, diffs]
end Dg

set_option Elab.async false
set_option linter.all false
set_option maxHeartbeats 4000000
set_option maxRecDepth 100000
namespace Dg
open PySem L2
/-! ### a sign parted -/
def spR (at' to : Nat) (k s : Int) (r : List Int) : List Int := ((r.map fun x => x * k).set at' (r.getD at' 0 * s)).take to ++ [r.getD at' 0 * (k - s)] ++ ((r.map fun x => x * k).set at' (r.getD at' 0 * s)).drop to
theorem sum_setAt (x : Int) : ∀ (l : List Int) (i : Nat), i < l.length → (l.set i x).sum = l.sum - l.getD i 0 + x
  | [], i, h => by simp at h
  | y :: l, 0, h => by simp; omega
  | y :: l, i + 1, h => by
    have := sum_setAt x l i (by simpa using h)
    simp only [List.set_cons_succ, List.sum_cons, List.getD_cons_succ, this]
    omega
theorem sum_cut (l : List Int) (y : Int) (j : Nat) : (l.take j ++ [y] ++ l.drop j).sum = l.sum + y := by
  have h : (l.take j ++ l.drop j).sum = l.sum := by rw [List.take_append_drop]
  rw [List.sum_append] at h
  rw [List.sum_append, List.sum_append, List.sum_singleton]
  omega
theorem spR_good {m w : Nat} {b : Int} {rs : Rw} (h : Good m w b rs) {at' to : Nat} {k s : Int} (h1 : at' < w) (h2 : to ≤ w) (h3 : 1 ≤ s) (h4 : s < k) (h5 : w < 12) : Good m (w + 1) (b * k) (rs.map (spR at' to k s)) := by
  have key : ∀ r ∈ rs, (spR at' to k s r).length = w + 1 ∧ (∀ x ∈ spR at' to k s r, 0 ≤ x) ∧ (spR at' to k s r).sum = b * k := by
    intro r hr
    have hl := h.wid r hr
    have hnn : ∀ x ∈ r, 0 ≤ x := h.nn r hr
    have hat : 0 ≤ r.getD at' 0 := by
      rw [List.getD_eq_getElem?_getD, List.getElem?_eq_getElem (by omega)]
      exact hnn _ (List.getElem_mem _)
    have n1 : ∀ x ∈ (r.map fun x => x * k).set at' (r.getD at' 0 * s), 0 ≤ x := fun x hx => by
      rcases List.mem_or_eq_of_mem_set hx with hx | rfl
      · obtain ⟨y, hy, rfl⟩ := List.mem_map.mp hx
        exact Int.mul_nonneg (hnn y hy) (by omega)
      · exact Int.mul_nonneg hat (by omega)
    refine ⟨?_, fun x hx => ?_, ?_⟩
    · unfold spR
      simp [hl]
      omega
    · unfold spR at hx
      rcases List.mem_append.mp hx with hx | hx
      · rcases List.mem_append.mp hx with hx | hx
        · exact n1 x (List.mem_of_mem_take hx)
        · rw [List.mem_singleton.mp hx]; exact Int.mul_nonneg hat (by omega)
      · exact n1 x (List.mem_of_mem_drop hx)
    · unfold spR
      rw [sum_cut, sum_setAt _ _ _ (by rw [List.length_map]; omega), sum_scl, h.sum r hr]
      have : (r.map fun x => x * k).getD at' 0 = r.getD at' 0 * k := by
        rw [List.getD_eq_getElem?_getD, List.getD_eq_getElem?_getD, List.getElem?_map, List.getElem?_eq_getElem (by omega)]; rfl
      rw [this, Int.mul_sub]
      omega
  exact ⟨by rw [List.length_map]; exact h.len, h.m0, fun r hr => by obtain ⟨q, hq, rfl⟩ := List.mem_map.mp hr; exact (key q hq).1, by omega, by omega, Int.mul_pos h.b0 (by omega), fun r hr => by obtain ⟨q, hq, rfl⟩ := List.mem_map.mp hr; exact (key q hq).2.1, fun r hr => by obtain ⟨q, hq, rfl⟩ := List.mem_map.mp hr; exact (key q hq).2.2⟩
theorem vI_set (l : List Int) (i : Nat) (x : Int) : (vI l).set i (T.v (.int x)) = vI (l.set i x) := by unfold vI; rw [List.map_set]
theorem vI_ins (l : List Int) (j : Nat) (y : Int) : (vI l).take j ++ [T.v (.int y)] ++ (vI l).drop j = vI (l.take j ++ [y] ++ l.drop j) := by simp [vI, List.map_take, List.map_drop]
theorem vI_len (l : List Int) : (vI l).length = l.length := by simp [vI]
theorem rwL_at0 {m w : Nat} {b : Int} {rs : Rw} (h : Good m w b rs) (c : Cs) : ∃ r, ixD c (rwL rs) (.int 0) = some (rowL r) ∧ r.length = w ∧ r.sum = b := by
  obtain ⟨r, rs', rfl⟩ := h.row0
  exact ⟨r, by simp [rwL], h.wid r List.mem_cons_self, h.sum r List.mem_cons_self⟩
theorem ixN_nt {n i : Nat} (h : i < n) : ixN n (i : Int) = some i := by
  unfold ixN
  rw [if_pos (by omega), if_pos (by omega)]
  simp
end Dg

set_option Elab.async false
set_option linter.all false
set_option maxHeartbeats 4000000
set_option maxRecDepth 100000
namespace Dg
open PySem L2
/-! ### the table, the payoffs -/
theorem Bd.lt30 {b : Int} (h : Bd 30 b) (h0 : 0 ≤ b) : b < 1073741824 := by have : b.natAbs < 1073741824 := h; omega
end Dg

set_option Elab.async false
set_option linter.all false
set_option maxHeartbeats 4000000
set_option maxRecDepth 100000
namespace Dg
open PySem L2
/-! ### payoffs -/
def PayT (m k : Nat) (g : Nat → Nat → Int) : Prop := ∀ i, i < m → ∀ j, j < k → (g i j).natAbs ≤ 1000000
end Dg

set_option Elab.async false
set_option linter.all false
set_option maxHeartbeats 4000000
set_option maxRecDepth 100000
namespace Dg
open PySem L2
/-! ### what a plan gains -/
def wth (m : Nat) (f g : Nat → Nat → Int) (sign act : Nat) : Int := sumTo m fun s => f s sign * g s act
theorem sum_ints (c : Cs) (n : Nat) (f : Nat → Int) : sumD c [.lst ((List.range n).map fun j => D.int (f j))] = some (.int (sumTo n f)) := by
  have : ((List.range n).map fun j => D.int (f j)) = ((List.range n).map f).map D.int := by simp [Function.comp_def]
  rw [this]
  simp only [sumD, liI, D.li, Option.bind_some, intsD_map, Option.map_some, sum_rng]
section
variable {m w k : Nat} {a : Int} {f g : Nat → Nat → Int}
theorem pay_big (hg : PayT m k g) {i j : Nat} (hi : i < m) (hj : j < k) : bigI (g i j) = true := big_small (by have := hg i hi j hj; omega)
theorem pay_at0 (c : Cs) (hm : 0 < m) : ixD c (rwT (tab m k g)) (.int 0) = some (rowT ((List.range k).map fun j => g 0 j)) := rw_at0 c hm
/-- payoffs of which each may be great -/
def PayB (m k : Nat) (g : Nat → Nat → Int) : Prop := ∀ i, i < m → ∀ j, j < k → bigI (g i j) = true
theorem pay_of (hg : PayT m k g) : PayB m k g := fun i hi j hj => pay_big hg hi hj
/-- a plan -/
def planD (w : Nat) (p : Nat → Nat) : D := .tup ((List.range w).map fun j : Nat => D.int (p j : Nat))
end
theorem shD_ne (c : Cs) (s : Int × Int) : neD c (shD s) (shD s) = some (.bl false) := by
  rw [neD_nb (d := shD s) (e := shD s) (n := 1) (m := 1) c rfl rfl]; simp
theorem shD_eq (c : Cs) (s : Int × Int) : eqD c (shD s) (shD s) = some (.bl true) := by
  rw [eqD_nb (d := shD s) (e := shD s) (n := 1) (m := 1) c rfl rfl]; simp
end Dg

set_option Elab.async false
set_option linter.all false
set_option maxHeartbeats 4000000
set_option maxRecDepth 100000
namespace Dg
open PySem L2
/-! ### the pen's start; plans -/
theorem plan_of {w k : Nat} {ts : List T} (hl : ts.length = w) (h : ∀ t ∈ ts, ∃ x : Int, t = .v (.int x) ∧ 0 ≤ x ∧ x < k) : ∃ p : Nat → Nat, ts = ((List.range w).map fun j => T.v (.int (p j : Nat))) ∧ ∀ j, j < w → p j < k := by
  obtain ⟨cs, rfl, hc⟩ : ∃ cs : List Int, ts = cs.map (fun x => T.v (.int x)) ∧ ∀ x ∈ cs, 0 ≤ x ∧ x < k := by
    clear hl
    induction ts with
    | nil => exact ⟨[], rfl, fun x m => by cases m⟩
    | cons t ts ih =>
      obtain ⟨cs, q1, q2⟩ := ih fun u m => h u (List.mem_cons_of_mem _ m)
      obtain ⟨x, rfl, hx⟩ := h t List.mem_cons_self
      refine ⟨x :: cs, by rw [q1]; rfl, fun y m => ?_⟩
      rcases List.mem_cons.mp m with rfl | m
      · exact hx
      · exact q2 y m
  rw [List.length_map] at hl
  subst hl
  have key : ∀ j, j < cs.length → 0 ≤ cs.getD j 0 ∧ cs.getD j 0 < k := fun j hj => by
    rw [List.getD_eq_getElem?_getD, List.getElem?_eq_getElem hj]
    exact hc _ (List.getElem_mem hj)
  refine ⟨fun j => (cs.getD j 0).toNat, ?_, fun j hj => by have := key j hj; show (cs.getD j 0).toNat < k; omega⟩
  conv => lhs; rw [list_tab 0 cs, List.map_map]
  apply List.map_congr_left
  intro j hj
  have := key j (List.mem_range.mp hj)
  show T.v (.int (cs.getD j 0)) = T.v (.int ((cs.getD j 0).toNat : Int))
  rw [Int.toNat_of_nonneg this.1]
end Dg

set_option Elab.async false
set_option linter.all false
set_option maxHeartbeats 4000000
set_option maxRecDepth 100000
namespace Dg
open PySem L2
/-! ### the best plan -/
/-- the first place of the greatest of the first n -/
def fm (v : Nat → Int) : Nat → Nat
  | 0 => 0
  | n + 1 => if v (fm v n) < v n then n else fm v n
theorem fm_le (v : Nat → Int) : ∀ n, fm v n ≤ n - 1
  | 0 => Nat.le_refl _
  | n + 1 => by
    have := fm_le v n
    unfold fm
    split <;> omega
theorem fm_lt (v : Nat → Int) {n : Nat} (h : 0 < n) : fm v n < n := by have := fm_le v n; omega
theorem fm_max (v : Nat → Int) : ∀ n j, j < n → v j ≤ v (fm v n)
  | 0, j, h => by omega
  | n + 1, j, h => by
    unfold fm
    by_cases c : v (fm v n) < v n
    · rw [if_pos c]
      by_cases e : j = n
      · subst e; omega
      · have := fm_max v n j (by omega); omega
    · rw [if_neg c]
      by_cases e : j = n
      · subst e; omega
      · exact fm_max v n j (by omega)
theorem fm_first (v : Nat → Int) : ∀ n j, j < fm v n → v j < v (fm v n)
  | 0, j, h => by cases h
  | n + 1, j, h => by
    unfold fm at h ⊢
    by_cases c : v (fm v n) < v n
    · rw [if_pos c] at h ⊢
      have := fm_max v n j (by omega); omega
    · rw [if_neg c] at h ⊢
      exact fm_first v n j h
theorem max_rng (c : Cs) (v : Nat → Int) {n : Nat} (h : 0 < n) : maxD c [.lst ((List.range n).map fun j => D.int (v j))] = some (.int (v (fm v n))) := by
  have e : ((List.range n).map fun j => D.int (v j)) = ((List.range n).map v).map D.int := by simp [Function.comp_def]
  have hm : mxI ((List.range n).map v) = some (v (fm v n)) := mxI_of (List.mem_map.mpr ⟨_, List.mem_range.mpr (fm_lt v h), rfl⟩) fun y hy => by
    obtain ⟨j, hj, rfl⟩ := List.mem_map.mp hy
    exact fm_max v n j (List.mem_range.mp hj)
  rw [e]
  simp only [maxD, liI, D.li, Option.bind_some, intsD_map, hm, Option.map_some]
theorem vs0_ints : ∀ l : List Int, vs0 (l.map D.int) = some (l.map V.int)
  | [] => rfl
  | x :: l => by simp [vs0_ints l]
theorem firstV_int (x : Int) : ∀ (l : List Int) (n j : Nat), l[j]? = some x → (∀ m y, m < j → l[m]? = some y → y ≠ x) → firstV (.int x) (l.map V.int) n = some (n + j)
  | [], n, j, h, _ => by simp at h
  | y :: l, n, j, h, h2 => by
    rw [List.map_cons, firstV]
    cases j with
    | zero => cases h; simp [eqV]
    | succ j =>
      have hy : y ≠ x := h2 0 y (by omega) rfl
      have hq : ¬ eqV (V.int y) (V.int x) = true := by simp [eqV, hy]
      rw [if_neg hq, firstV_int x l (n + 1) j (by simpa using h) fun m z hm hz => h2 (m + 1) z (by omega) (by simpa using hz)]
      congr 1; omega
theorem idx_rng (v : Nat → Int) {n : Nat} (h : 0 < n) : indexD ((List.range n).map fun j => D.int (v j)) (.int (v (fm v n))) = some (.int (fm v n : Nat)) := by
  have e : ((List.range n).map fun j => D.int (v j)) = ((List.range n).map v).map D.int := by simp [Function.comp_def]
  have hf := firstV_int (v (fm v n)) ((List.range n).map v) 0 (fm v n) (by simp [fm_lt v h]) fun m y hm hy => by
    have hmn : m < n := by have := fm_lt v h; omega
    simp [hmn] at hy
    have := fm_first v n m hm
    omega
  rw [e]
  simp only [indexD, vs0_ints, Option.bind_some, D.v0, hf, Option.map_some, Nat.zero_add]
def bstP (m k : Nat) (f g : Nat → Nat → Int) : Nat → Nat := fun j => fm (wth m f g j) k
def bstT (m w k : Nat) (f g : Nat → Nat → Int) : Int := sumTo w fun j => wth m f g j (bstP m k f g j)
section
variable {m w k : Nat} {a : Int} {f g : Nat → Nat → Int}
end
end Dg

set_option Elab.async false
set_option linter.all false
set_option maxHeartbeats 4000000
set_option maxRecDepth 100000
namespace Dg
open PySem L2
/-! ### bests of glasses that come of one another -/
theorem fm_val {v v' : Nat → Int} {d e : Int} {n : Nat} (hn : 0 < n) (hd : 0 ≤ d) (h : ∀ x, x < n → v' x = d * v x + e) : v' (fm v' n) = d * v (fm v n) + e := by
  have a := fm_max v n (fm v' n) (fm_lt v' hn)
  have b := fm_max v' n (fm v n) (fm_lt v hn)
  rw [h _ (fm_lt v hn), h _ (fm_lt v' hn)] at b
  rw [h _ (fm_lt v' hn)]
  have := Int.mul_le_mul_of_nonneg_left a hd
  omega
theorem fm_sc {v v' : Nat → Int} {d e : Int} (hd : 0 < d) : ∀ {n : Nat}, (∀ x, x < n → v' x = d * v x + e) → fm v' n = fm v n
  | 0, _ => rfl
  | n + 1, h => by
    have ih := fm_sc hd (n := n) fun x hx => h x (by omega)
    have hle := fm_le v n
    have h1 := h (fm v n) (by omega)
    have h2 := h n (by omega)
    have key : (v' (fm v n) < v' n) ↔ (v (fm v n) < v n) := by
      rw [h1, h2]
      constructor
      · intro z
        by_cases q : v (fm v n) < v n
        · exact q
        · have := Int.mul_le_mul_of_nonneg_left (show v n ≤ v (fm v n) by omega) (Int.le_of_lt hd)
          omega
      · intro z
        have := Int.mul_lt_mul_of_pos_left z hd
        omega
    unfold fm
    rw [ih]
    simp only [key]
theorem sumTo_mono {f g : Nat → Int} : ∀ {n : Nat}, (∀ i, i < n → f i ≤ g i) → sumTo n f ≤ sumTo n g
  | 0, _ => Int.le_refl _
  | n + 1, h => by
    have := sumTo_mono (n := n) fun i hi => h i (by omega)
    have := h n (by omega)
    show sumTo n f + f n ≤ sumTo n g + g n
    omega
theorem sumTo_abs {f : Nat → Int} {B : Nat} : ∀ {n : Nat}, (∀ i, i < n → (f i).natAbs ≤ B) → (sumTo n f).natAbs ≤ n * B
  | 0, _ => by simp [sumTo]
  | n + 1, h => by
    have := sumTo_abs (n := n) fun i hi => h i (by omega)
    have := h n (by omega)
    show (sumTo n f + f n).natAbs ≤ _
    rw [Nat.add_mul, Nat.one_mul]
    omega
theorem sumTo_const (x : Int) : ∀ n : Nat, sumTo n (fun _ => x) = n * x
  | 0 => by simp [sumTo]
  | n + 1 => by
    show sumTo n (fun _ => x) + x = _
    rw [sumTo_const x n, Int.natCast_add, Int.add_mul]; simp
theorem planD_congr {w : Nat} {p q : Nat → Nat} (h : ∀ j, j < w → p j = q j) : planD w p = planD w q := by
  unfold planD
  congr 1
  exact List.map_congr_left fun j hj => by rw [h j (List.mem_range.mp hj)]
section
variable {m w k : Nat} {a b : Int} {f F g : Nat → Nat → Int}
theorem wth_cross {d e : Int} {j : Nat} (h : ∀ s, s < m → F s j * d = f s j * e) (x : Nat) : wth m F g j x * d = wth m f g j x * e := by
  unfold wth
  rw [← sumTo_mulr, ← sumTo_mulr]
  refine sumTo_congr fun s hs => ?_
  rw [Int.mul_right_comm, h s hs, Int.mul_right_comm]
theorem bst_cross {d e : Int} (hk : 0 < k) (hd : 0 < d) (he : 0 < e) (h : ∀ i, i < m → ∀ j, j < w → F i j * d = f i j * e) : (∀ j, j < w → bstP m k F g j = bstP m k f g j) ∧ bstT m w k F g * d = bstT m w k f g * e := by
  have P : ∀ j, j < w → bstP m k F g j = bstP m k f g j := fun j hj => by
    have wc := wth_cross (g := g) (m := m) fun s hs => h s hs j hj
    have h1 : fm (fun x => wth m F g j x * d) k = fm (wth m F g j) k := fm_sc (d := d) (e := 0) hd fun x _ => by rw [Int.mul_comm, Int.add_zero]
    have h2 : fm (fun x => wth m F g j x * d) k = fm (wth m f g j) k := fm_sc (d := e) (e := 0) he fun x _ => by rw [wc, Int.mul_comm, Int.add_zero]
    show fm _ k = fm _ k
    rw [← h1, h2]
  refine ⟨P, ?_⟩
  unfold bstT
  rw [← sumTo_mulr, ← sumTo_mulr]
  refine sumTo_congr fun j hj => ?_
  rw [P j hj]
  exact wth_cross (fun s hs => h s hs j hj) _
theorem wth_sc {d : Int} {j j' : Nat} (h : ∀ s, s < m → F s j = f s j' * d) (x : Nat) : wth m F g j x = d * wth m f g j' x := by
  unfold wth
  rw [← sumTo_mul]
  refine sumTo_congr fun s hs => ?_
  rw [h s hs]
  rw [Int.mul_comm (f s j') d, Int.mul_assoc]
theorem bst_abs {B : Nat} (hw : w ≤ 12) (hm : m ≤ 4) (hf : ∀ i, i < m → ∀ j, j < w → (f i j).natAbs ≤ B) (hg : PayT m k g) (hk0 : 0 < k) : (bstT m w k f g).natAbs ≤ 12 * (4 * (B * 1000000)) := by
  have : (bstT m w k f g).natAbs ≤ w * (m * (B * 1000000)) := sumTo_abs fun j hj => sumTo_abs fun s hs => by
    rw [Int.natAbs_mul]
    exact Nat.mul_le_mul (hf s hs j hj) (hg s hs _ (fm_lt _ hk0))
  exact Nat.le_trans this (Nat.mul_le_mul hw (Nat.mul_le_mul_right _ hm))
theorem bst_big (G : GT m w a f) (ba : Bd 30 a) (hm : m ≤ 4) (hg : PayT m k g) (hk0 : 0 < k) : bigI (bstT m w k f g) = true := big_small (by
  have := bst_abs (B := 2 ^ 30) (f := f) (g := g) (k := k) (w := w) G.w12 hm (fun i hi j hj => by have := G.le hi hj; unfold Bd at ba; omega) hg hk0
  omega)
/-! mixed -/
variable {n1 n2 : Nat} {p q : Int} {f2 : Nat → Nat → Int}
theorem mix_bst (hk : 0 < k) (hp : 0 ≤ p) (hpq : p ≤ q) (ha : 0 < a) (hb : 0 < b) : bstT m (n1 + n2) k (mixF n1 p q a b f f2) g = p * b * bstT m n1 k f g + (q - p) * a * bstT m n2 k f2 g := by
  have h1 : ∀ j, j < n1 → ∀ x, wth m (mixF n1 p q a b f f2) g j x = (p * b) * wth m f g j x := fun j hj => wth_sc fun s _ => by
    show (if j < n1 then _ else _) = _
    rw [if_pos hj]
  have h2 : ∀ j, ¬ j < n1 → ∀ x, wth m (mixF n1 p q a b f f2) g j x = ((q - p) * a) * wth m f2 g (j - n1) x := fun j hj => wth_sc fun s _ => by
    show (if j < n1 then _ else _) = _
    rw [if_neg hj]
  have d1 : 0 ≤ p * b := Int.mul_nonneg hp (by omega)
  have d2 : 0 ≤ (q - p) * a := Int.mul_nonneg (by omega) (by omega)
  have : bstT m (n1 + n2) k (mixF n1 p q a b f f2) g = sumTo (n1 + n2) fun j => if j < n1 then (p * b) * wth m f g j (bstP m k f g j) else ((q - p) * a) * wth m f2 g (j - n1) (bstP m k f2 g (j - n1)) := by
    refine sumTo_congr fun j hj => ?_
    by_cases c : j < n1
    · rw [if_pos c]
      have := fm_val (d := p * b) (e := 0) (v := wth m f g j) (v' := wth m (mixF n1 p q a b f f2) g j) hk d1 fun x _ => by rw [h1 j c, Int.add_zero]
      rw [Int.add_zero] at this
      exact this
    · rw [if_neg c]
      have := fm_val (d := (q - p) * a) (e := 0) (v := wth m f2 g (j - n1)) (v' := wth m (mixF n1 p q a b f f2) g j) hk d2 fun x _ => by rw [h2 j c, Int.add_zero]
      rw [Int.add_zero] at this
      exact this
  rw [this, sumTo_cat (fun j => (p * b) * wth m f g j (bstP m k f g j)) (fun j => ((q - p) * a) * wth m f2 g j (bstP m k f2 g j)), sumTo_mul, sumTo_mul]
  rfl
theorem mix_plan (hp : 0 < p) (hpq : p < q) (ha : 0 < a) (hb : 0 < b) : planD (n1 + n2) (bstP m k (mixF n1 p q a b f f2) g) = .tup ((List.range n1).map (fun j : Nat => D.int (bstP m k f g j : Nat)) ++ (List.range n2).map (fun j : Nat => D.int (bstP m k f2 g j : Nat))) := by
  have h1 : ∀ j, j < n1 → ∀ x, wth m (mixF n1 p q a b f f2) g j x = (p * b) * wth m f g j x := fun j hj => wth_sc fun s _ => by
    show (if j < n1 then _ else _) = _
    rw [if_pos hj]
  have h2 : ∀ j, ¬ j < n1 → ∀ x, wth m (mixF n1 p q a b f f2) g j x = ((q - p) * a) * wth m f2 g (j - n1) x := fun j hj => wth_sc fun s _ => by
    show (if j < n1 then _ else _) = _
    rw [if_neg hj]
  have d1 : 0 < p * b := Int.mul_pos hp hb
  have d2 : 0 < (q - p) * a := Int.mul_pos (by omega) ha
  rw [range_cat (fun j => D.int (bstP m k f g j : Nat)) (fun j => D.int (bstP m k f2 g j : Nat))]
  unfold planD
  congr 1
  refine List.map_congr_left fun j hj => ?_
  by_cases c : j < n1
  · rw [if_pos c]
    have : bstP m k (mixF n1 p q a b f f2) g j = bstP m k f g j := fm_sc (d := p * b) (e := 0) d1 fun x _ => by rw [h1 j c, Int.add_zero]
    rw [this]
  · rw [if_neg c]
    have : bstP m k (mixF n1 p q a b f f2) g j = bstP m k f2 g (j - n1) := fm_sc (d := (q - p) * a) (e := 0) d2 fun x _ => by rw [h2 j c, Int.add_zero]
    rw [this]
/-! the blind and the clear one -/
theorem wth_le (j x : Nat) (hx : x < k) : wth m f g j x ≤ wth m f g j (bstP m k f g j) := fm_max _ _ _ hx
theorem blind_bst (G : GT m w a f) (hk : 0 < k) : a * bstT m 1 k (fun _ _ => 1) g ≤ bstT m w k f g := by
  have hx : bstP m k (fun _ _ => 1) g 0 < k := fm_lt _ hk
  have h1 : bstT m 1 k (fun _ _ => 1) g = sumTo m fun s => g s (bstP m k (fun _ _ => 1) g 0) := by
    show 0 + wth m (fun _ _ => 1) g 0 (bstP m k (fun _ _ => 1) g 0) = _
    rw [Int.zero_add]
    exact sumTo_congr fun s _ => Int.one_mul _
  generalize bstP m k (fun _ _ => 1) g 0 = x at *
  have h2 : sumTo w (fun j => wth m f g j x) ≤ bstT m w k f g := sumTo_mono fun j _ => wth_le j x hx
  have h3 : sumTo w (fun j => wth m f g j x) = a * sumTo m fun s => g s x := by
    have : sumTo w (fun j => wth m f g j x) = sumTo w (fun j => sumTo m fun s => f s j * g s x) := rfl
    rw [this, sumTo_comm (fun j s => f s j * g s x) m w, ← sumTo_mul]
    exact sumTo_congr fun s hs => by rw [sumTo_mulr, G.sum s hs]
  rw [h1, ← h3]; exact h2
theorem clear_bst (G : GT m w a f) (hk : 0 < k) : bstT m w k f g ≤ a * bstT m m k idF g := by
  have hI : ∀ s, s < m → wth m idF g s = fun x => g s x := fun s hs => by
    funext x
    have : ∀ i, i < m → idF i s * g i x = if i = s then g i x else 0 := fun i _ => by
      unfold idF
      by_cases c : i = s
      · rw [if_pos c.symm, if_pos c, Int.one_mul]
      · rw [if_neg fun z => c z.symm, if_neg c, Int.zero_mul]
    show sumTo m (fun i => idF i s * g i x) = _
    rw [sumTo_congr this, sumTo_one hs]
  have h1 : bstT m m k idF g = sumTo m fun s => g s (fm (g s) k) := sumTo_congr fun s hs => by
    show wth m idF g s (fm (wth m idF g s) k) = _
    rw [hI s hs]
  have h2 : bstT m w k f g ≤ sumTo w fun j => sumTo m fun s => f s j * g s (fm (g s) k) := sumTo_mono fun j hj => sumTo_mono fun s hs => by
    have := fm_max (g s) k (bstP m k f g j) (fm_lt _ hk)
    exact Int.mul_le_mul_of_nonneg_left this (G.nn s hs j hj)
  have h3 : (sumTo w fun j => sumTo m fun s => f s j * g s (fm (g s) k)) = a * sumTo m fun s => g s (fm (g s) k) := by
    rw [sumTo_comm (fun j s => f s j * g s (fm (g s) k)) m w, ← sumTo_mul]
    exact sumTo_congr fun s hs => by rw [sumTo_mulr, G.sum s hs]
  rw [h1, ← h3]; exact h2
/-! payoffs changed -/
theorem chg_bst (G : GT m w a f) (hk : 0 < k) {by' more : Int} (h0 : 0 ≤ by') {g' : Nat → Nat → Int} (hg : ∀ s, s < m → ∀ x, x < k → g' s x = by' * g s x + more) : bstT m w k f g' = by' * bstT m w k f g + more * m * a := by
  have hw : ∀ j, j < w → ∀ x, x < k → wth m f g' j x = by' * wth m f g j x + (sumTo m fun s => f s j) * more := fun j hj x hx => by
    unfold wth
    rw [← sumTo_mul, ← sumTo_mulr, ← sumTo_add]
    refine sumTo_congr fun s hs => ?_
    rw [hg s hs x hx, Int.mul_add, Int.mul_left_comm]
  have h1 : bstT m w k f g' = sumTo w fun j => by' * wth m f g j (bstP m k f g j) + (sumTo m fun s => f s j) * more := sumTo_congr fun j hj => fm_val hk h0 (hw j hj)
  have h2 : sumTo w (fun j => sumTo m fun s => f s j) = m * a := by
    rw [sumTo_comm (fun j s => f s j) m w, sumTo_congr (g := fun _ => a) fun s hs => G.sum s hs, sumTo_const]
  rw [h1, sumTo_add, sumTo_mul, sumTo_mulr, h2, Int.mul_comm (m * a : Int) more, ← Int.mul_assoc]
  rfl
end
/-! ### shares of shares -/
theorem shr_times {a b c d : Int} (hb : b ≠ 0) (hd : d ≠ 0) : shr ((shr a b).1 * (shr c d).1) ((shr a b).2 * (shr c d).2) = shr (a * c) (b * d) := by
  have h1 := shr_cross (a := a) hb
  have h2 := shr_cross (a := c) hd
  have p1 := shr_pos (a := a) hb
  have p2 := shr_pos (a := c) hd
  generalize shr a b = x at *
  generalize shr c d = y at *
  refine (shr_eq (Int.mul_ne_zero (by omega) (by omega)) (Int.mul_ne_zero hb hd)).mpr ?_
  grind
theorem shr_added {a b c d : Int} (hb : b ≠ 0) (hd : d ≠ 0) : shr ((shr a b).1 * (shr c d).2 + (shr c d).1 * (shr a b).2) ((shr a b).2 * (shr c d).2) = shr (a * d + c * b) (b * d) := by
  have h1 := shr_cross (a := a) hb
  have h2 := shr_cross (a := c) hd
  have p1 := shr_pos (a := a) hb
  have p2 := shr_pos (a := c) hd
  generalize shr a b = x at *
  generalize shr c d = y at *
  refine (shr_eq (Int.mul_ne_zero (by omega) (by omega)) (Int.mul_ne_zero hb hd)).mpr ?_
  grind
theorem shr_taken {a b c d : Int} (hb : b ≠ 0) (hd : d ≠ 0) : shr ((shr a b).1 * (shr c d).2 - (shr c d).1 * (shr a b).2) ((shr a b).2 * (shr c d).2) = shr (a * d - c * b) (b * d) := by
  have h1 := shr_cross (a := a) hb
  have h2 := shr_cross (a := c) hd
  have p1 := shr_pos (a := a) hb
  have p2 := shr_pos (a := c) hd
  generalize shr a b = x at *
  generalize shr c d = y at *
  refine (shr_eq (Int.mul_ne_zero (by omega) (by omega)) (Int.mul_ne_zero hb hd)).mpr ?_
  grind
theorem shr_lt {a b c d : Int} (hb : 0 < b) (hd : 0 < d) : (shr a b).1 * (shr c d).2 < (shr c d).1 * (shr a b).2 ↔ a * d < c * b := by
  have h1 := shr_cross (a := a) (b := b) (by omega)
  have h2 := shr_cross (a := c) (b := d) (by omega)
  have p1 := shr_pos (a := a) (b := b) (by omega)
  have p2 := shr_pos (a := c) (b := d) (by omega)
  generalize shr a b = x at *
  generalize shr c d = y at *
  have hbd : 0 < b * d := Int.mul_pos hb hd
  have hxy : 0 < x.2 * y.2 := Int.mul_pos (by omega) (by omega)
  have e1 : x.1 * y.2 * (b * d) = a * d * (x.2 * y.2) := by grind
  have e2 : y.1 * x.2 * (b * d) = c * b * (x.2 * y.2) := by grind
  rw [← Int.mul_lt_mul_right hbd, e1, e2, Int.mul_lt_mul_right hxy]
end Dg

set_option Elab.async false
set_option linter.all false
set_option maxHeartbeats 4000000
set_option maxRecDepth 100000
namespace Dg
open PySem L2
/-! ### cells of a script, numbers drawn by them -/
theorem okMul_sm {i j : Int} (h : j.natAbs < 2 ^ 60) : okMul i j = true := by
  unfold okMul; rw [decide_eq_true h]; simp
theorem mul_sm {c : Cs} {i j : Int} (h : j.natAbs < 2 ^ 60) : mulD c (.int i) (.int j) = some (.int (i * j)) := mulD_int (okMul_sm h)
/-! ### rows cut at drawn places, by ends -/
theorem diffs_tab : ∀ (l : List Int) (p : Int), diffs p l = (List.range l.length).map fun k => (p :: l).getD (k + 1) 0 - (p :: l).getD k 0
  | [], _ => rfl
  | x :: l, p => by
    rw [diffs, diffs_tab l x, List.length_cons, List.range_succ_eq_map, List.map_cons, List.map_map]
    rfl
end Dg

set_option Elab.async false
set_option linter.all false
set_option maxHeartbeats 4000000
set_option maxRecDepth 100000
namespace Dg
open PySem L2
/-! ### shares of shares, by the program -/
section
variable {a b p q : Int}
theorem shr_b1 (h : bigI a = true) (hb : b ≠ 0) : bigI (shr a b).1 = true := big_le h (shr_le (a := a) hb).1
theorem shr_b2 (h : bigI b = true) (hb : b ≠ 0) : bigI (shr a b).2 = true := big_le h (shr_le (a := a) hb).2
theorem shr_b3 (h : bigI (b * q) = true) (hb : b ≠ 0) (hq : q ≠ 0) : bigI ((shr a b).2 * (shr p q).2) = true := big_le h (by
  rw [Int.natAbs_mul, Int.natAbs_mul]
  exact Nat.mul_le_mul (shr_le (a := a) hb).2 (shr_le (a := p) hq).2)
end
end Dg

set_option Elab.async false
set_option linter.all false
set_option maxHeartbeats 4000000
namespace Dg
open PySem L2
/-! ### steps: the state behind is found, not written -/
def Wp (f : MS) (e : En) (c : Cs) (Q : Fl → Cs → Prop) : Prop := ∃ fl c', f e c = .ok fl c' ∧ Q fl c'
theorem wp_seq {f g : MS} {e e' : En} {c c' : Cs} {Q : Fl → Cs → Prop} (h : f e c = .ok (.nx e') c') (k : Wp g e' c' Q) : Wp (sSeq f g) e c Q := by
  obtain ⟨fl, c2, h2, q⟩ := k
  exact ⟨fl, c2, by rw [seq_nx h]; exact h2, q⟩
theorem wp_end {f : MS} {e : En} {c c' : Cs} {fl : Fl} {Q : Fl → Cs → Prop} (h : f e c = .ok fl c') (k : Q fl c') : Wp f e c Q := ⟨fl, c', h, k⟩
theorem wp_out {f g : MS} {e : En} {c : Cs} {Q : Fl → Cs → Prop} {t : T} {c' : Cs} (h : f e c = .ok (.rt t) c') (k : Q (.rt t) c') : Wp (sSeq f g) e c Q := ⟨_, _, seq_rt h, k⟩
theorem runB_wp {n : Nat} {ms : MS} {ds : List D} {t : T} {c c' : Cs} (h : Wp ms (en0 n ds) c fun fl c2 => fl = .rt t ∧ c2 = c') : runB n ms ds c = .ok t c' := by
  obtain ⟨fl, c2, h, rfl, rfl⟩ := h
  exact runB_rt h
theorem runB_wpE {n : Nat} {ms : MS} {ds : List D} {c : Cs} {Q : T → Cs → Prop} (h : Wp ms (en0 n ds) c fun fl c2 => ∃ t, fl = .rt t ∧ Q t c2) : ∃ t c2, runB n ms ds c = .ok t c2 ∧ Q t c2 := by
  obtain ⟨fl, c2, h, t, rfl, q⟩ := h
  exact ⟨t, c2, runB_rt h, q⟩
theorem wp_via {f g : MS} {e : En} {c : Cs} {Q : Fl → Cs → Prop} (P : En → Prop) (h : ∃ e', f e c = .ok (.nx e') c ∧ P e') (k : ∀ e', P e' → Wp g e' c Q) : Wp (sSeq f g) e c Q := by
  obtain ⟨e', h1, h2⟩ := h
  exact wp_seq h1 (k e' h2)
theorem wp_frz {i : Nat} {f g : MS} {e : En} {c : Cs} {Q : Fl → Cs → Prop} {t : T} {d : D} (h : e[i]? = some (some t)) (hd : t.d = d) (k : Wp (sSeq f g) (e.set i (some (.v d))) c Q) : Wp (sSeq (sFrz i f) g) e c Q := by
  obtain ⟨fl, c2, h2, q⟩ := k
  subst hd
  refine ⟨fl, c2, ?_, q⟩
  have e1 : sFrz i f e c = f (e.set i (some (.v t.d))) c := by simp only [sFrz, h]
  rw [← h2]
  simp only [sSeq, e1]
theorem wp_frzE {i : Nat} {f : MS} {e : En} {c : Cs} {Q : Fl → Cs → Prop} {t : T} {d : D} (h : e[i]? = some (some t)) (hd : t.d = d) (k : Wp f (e.set i (some (.v d))) c Q) : Wp (sFrz i f) e c Q := by
  obtain ⟨fl, c2, h2, q⟩ := k
  subst hd
  exact ⟨fl, c2, by simp only [sFrz, h]; exact h2, q⟩
/-- a loop over a list -/
theorem lp_any {tg : D → En → Option En} {body : MS} {α : Type} (inj : α → D) : ∀ (l : List α) (P : Nat → En → Cs → Prop) (e : En) (c : Cs) (a : Nat), P a e c →
    (∀ k x, l[k]? = some x → ∀ e c, P (a + k) e c → ∃ e1, tg (inj x) e = some e1 ∧ Wp body e1 c fun fl c' => ∃ e2, fl = .nx e2 ∧ P (a + k + 1) e2 c') → ∃ e' c', forL tg body (l.map inj) e c = .ok (.nx e') c' ∧ P (a + l.length) e' c'
  | [], P, e, c, a, p, _ => ⟨e, c, rfl, p⟩
  | x :: l, P, e, c, a, p, h => by
    obtain ⟨e1, h1, fl, c', h2, e2, rfl, h3⟩ := h 0 x rfl e c p
    rw [List.map_cons]
    obtain ⟨e3, c3, h4, h5⟩ := lp_any inj l P e2 c' (a + 1) h3 fun k y hy e c p => by
      have := h (k + 1) y (by simpa using hy) e c (by rw [show a + (k + 1) = a + 1 + k by omega]; exact p)
      rwa [show a + (k + 1) + 1 = a + 1 + k + 1 by omega] at this
    refine ⟨e3, c3, ?_, by rw [List.length_cons, show a + (l.length + 1) = a + 1 + l.length by omega]; exact h5⟩
    rw [forL_nx h1 h2]; exact h4
theorem lp_for {tg : D → En → Option En} {body : MS} {it : MI} {e : En} {c c1 : Cs} (inj : Nat → D) (n : Nat) (P : Nat → En → Cs → Prop) (hit : it e c = .ok ((List.range n).map inj) c1) (p0 : P 0 e c1)
    (step : ∀ k, k < n → ∀ e c, P k e c → ∃ e1, tg (inj k) e = some e1 ∧ Wp body e1 c fun fl c' => ∃ e2, fl = .nx e2 ∧ P (k + 1) e2 c') : ∃ e' c', sFor it tg body e c = .ok (.nx e') c' ∧ P n e' c' := by
  obtain ⟨e', c', h1, h2⟩ := lp_any (tg := tg) (body := body) inj (List.range n) P e c1 0 p0 fun k x hx e c p => by
    rw [Nat.zero_add] at p ⊢
    have hk : k < n := by
      have := (List.getElem?_eq_some_iff.mp hx).1
      simpa using this
    have : x = k := by rw [List.getElem?_range hk] at hx; cases hx; rfl
    subst this
    exact step x hk e c p
  rw [List.length_range, Nat.zero_add] at h2
  refine ⟨e', c', ?_, h2⟩
  simp only [sFor, hit, R.toS]; exact h1
/-- a loop, and what stands behind it -/
theorem wp_for {tg : D → En → Option En} {body g : MS} {it : MI} {e : En} {c c1 : Cs} {Q : Fl → Cs → Prop} (inj : Nat → D) (n : Nat) (P : Nat → En → Cs → Prop) (hit : it e c = .ok ((List.range n).map inj) c1) (p0 : P 0 e c1)
    (step : ∀ k, k < n → ∀ e c, P k e c → ∃ e1, tg (inj k) e = some e1 ∧ Wp body e1 c fun fl c' => ∃ e2, fl = .nx e2 ∧ P (k + 1) e2 c') (k : ∀ e' c', P n e' c' → Wp g e' c' Q) : Wp (sSeq (sFor it tg body) g) e c Q := by
  obtain ⟨e', c', h1, h2⟩ := lp_for inj n P hit p0 step
  exact wp_seq h1 (k e' c' h2)
/-- a loop at the end -/
theorem wp_forE {tg : D → En → Option En} {body : MS} {it : MI} {e : En} {c c1 : Cs} {Q : Fl → Cs → Prop} (inj : Nat → D) (n : Nat) (P : Nat → En → Cs → Prop) (hit : it e c = .ok ((List.range n).map inj) c1) (p0 : P 0 e c1)
    (step : ∀ k, k < n → ∀ e c, P k e c → ∃ e1, tg (inj k) e = some e1 ∧ Wp body e1 c fun fl c' => ∃ e2, fl = .nx e2 ∧ P (k + 1) e2 c') (k : ∀ e' c', P n e' c' → Q (.nx e') c') : Wp (sFor it tg body) e c Q := by
  obtain ⟨e', c', h1, h2⟩ := lp_for inj n P hit p0 step
  exact wp_end h1 (k e' c' h2)
theorem it_rng {f : ME} {e : En} {c c' : Cs} {n : Nat} (h : f e c = .ok (.int n) c') (hn : n < 1000000) : itRng [f] e c = .ok ((List.range n).map fun k : Nat => D.int k) c' := by
  have r : inR (n : Int) := inR_of (by omega) (by omega)
  simp [h, r, rngL_0]
theorem comp_eq {vs : List Nat} {tg : D → En → Option En} {it : MI} {f : MO} {e : En} {c : Cs} {n : Nat} (inj : Nat → D) (g : Nat → T) (hit : it e c = .ok ((List.range n).map inj) c) (hn : n < 1000000) (hf : ∀ j, j < n → ∃ e1, tg (inj j) (wipeE vs e) = some e1 ∧ f e1 c = .ok (g j) c) :
    oComp vs it tg tY f e c = .ok (.ol ((List.range n).map g)) c := by
  have C := compL_map (c := c) (tg := tg) (f := f) (e := wipeE vs e) inj g (List.range n) fun j hj => hf j (List.mem_range.mp hj)
  have ln : ((List.range n).map inj).length < LIM := by rw [List.length_map, List.length_range]; exact hn
  simp only [oComp, hit, R.bind]
  rw [if_pos ln, C]
theorem comp_list {α : Type} {vs : List Nat} {tg : D → En → Option En} {it : MI} {f : MO} {e : En} {c : Cs} (inj : α → D) (g : α → T) (l : List α) (hit : it e c = .ok (l.map inj) c) (hn : l.length < 1000000) (hf : ∀ a ∈ l, ∃ e1, tg (inj a) (wipeE vs e) = some e1 ∧ f e1 c = .ok (g a) c) :
    oComp vs it tg tY f e c = .ok (.ol (l.map g)) c := by
  have C := compL_map (c := c) (tg := tg) (f := f) (e := wipeE vs e) inj g l hf
  have ln : (l.map inj).length < LIM := by rw [List.length_map]; exact hn
  simp only [oComp, hit, R.bind]
  rw [if_pos ln, C]
theorem comp_filt {α : Type} {vs : List Nat} {tg : D → En → Option En} {it : MI} {t : En → Cs → R Bool} {f : MO} {e : En} {c : Cs} (inj : α → D) (p : α → Bool) (g : α → T) (l : List α) (hit : it e c = .ok (l.map inj) c) (hn : l.length < 1000000)
    (hf : ∀ a ∈ l, ∃ e1, tg (inj a) (wipeE vs e) = some e1 ∧ t e1 c = .ok (p a) c ∧ (p a = true → f e1 c = .ok (g a) c)) : oComp vs it tg t f e c = .ok (.ol ((l.filter p).map g)) c := by
  have C := compL_filter (c := c) (tg := tg) (t := t) (f := f) (e := wipeE vs e) inj p g l hf
  have ln : (l.map inj).length < LIM := by rw [List.length_map]; exact hn
  simp only [oComp, hit, R.bind]
  rw [if_pos ln, C]
theorem sumL_rng (c : Cs) (n : Nat) (f : Nat → Int) : sumD c [.lst ((List.range n).map fun j => .int (f j))] = some (.int (sumTo n f)) := by
  have := intsD_map ((List.range n).map f)
  rw [List.map_map] at this
  have e : liI (.lst ((List.range n).map fun j => .int (f j))) = some ((List.range n).map f) := this
  simp [sumD, e, sum_rng]
theorem sumT_rng (c : Cs) (n : Nat) (f : Nat → Int) : sumD c [.tup ((List.range n).map fun j => .int (f j))] = some (.int (sumTo n f)) := by
  have := intsD_map ((List.range n).map f)
  rw [List.map_map] at this
  have e : intsD ((List.range n).map fun j => .int (f j)) = some ((List.range n).map f) := this
  simp [sumD, e, sum_rng]
theorem ol_ints (n : Nat) (g : Nat → Int) : (T.ol ((List.range n).map fun j => T.v (.int (g j)))).d = .lst ((List.range n).map fun j => .int (g j)) := by
  show D.lst (T.dA _) = _
  rw [dA_mapf]; rfl
/-- the sum of what is reckoned for each -/
theorem sum_eq {vs : List Nat} {tg : D → En → Option En} {it : MI} {f : MO} {e : En} {c : Cs} {n : Nat} (inj : Nat → D) (g : Nat → Int) (hit : it e c = .ok ((List.range n).map inj) c) (hn : n < 1000000) (hf : ∀ j, j < n → ∃ e1, tg (inj j) (wipeE vs e) = some e1 ∧ f e1 c = .ok (.v (.int (g j))) c) :
    opA sumD [pO (oComp vs it tg tY f)] e c = .ok (.int (sumTo n g)) c := by
  have C := comp_eq inj (fun j => T.v (.int (g j))) hit hn hf
  have S := sumL_rng c n g
  generalize oComp vs it tg tY f = Y at C ⊢
  have hd := ol_ints n g
  generalize T.ol ((List.range n).map fun j => T.v (.int (g j))) = t at C hd
  simp only [opA, evA, pO, C, R.bind, hd, S, R.of]
theorem allV_cons (x : Option T) (e : En) : allV (x :: e) = (allV [x] && allV e) := by
  cases x with
  | none => rfl
  | some t => cases t <;> rfl
theorem ixD_t0 (c : Cs) (x : D) (l : List D) : ixD c (.tup (x :: l)) (.int 0) = some x := by simp [ixD, atI, ixN]
theorem ixD_t1 (c : Cs) (x y : D) (l : List D) : ixD c (.tup (x :: y :: l)) (.int 1) = some y := by
  have : (1 : Int) < (l.length : Int) + 1 + 1 := by omega
  simp [ixD, atI, ixN, this]
theorem divD_sm {c : Cs} {x y : Int} (h1 : 0 < y) (h2 : y < 1000000000) : divD c (.int x) (.int y) = some (.int (x / y)) := by rw [divD_int (okDiv_big (by omega) (big_small (by omega)))]; unfold dvI; rw [if_pos h1]
theorem modD_sm {c : Cs} {x y : Int} (h1 : 0 < y) : modD c (.int x) (.int y) = some (.int (x % y)) := modD_int h1
theorem wp_ifT {t : En → Cs → R Bool} {a b : MS} {e : En} {c c' : Cs} {Q : Fl → Cs → Prop} (h : t e c = .ok true c') (k : Wp a e c' Q) : Wp (sIf t a b) e c Q := by
  obtain ⟨fl, c3, h1, h2⟩ := k
  exact ⟨fl, c3, by simp only [sIf, h, R.toS, if_true]; exact h1, h2⟩
theorem wp_ifF {t : En → Cs → R Bool} {a b : MS} {e : En} {c c' : Cs} {Q : Fl → Cs → Prop} (h : t e c = .ok false c') (k : Wp b e c' Q) : Wp (sIf t a b) e c Q := by
  obtain ⟨fl, c3, h1, h2⟩ := k
  exact ⟨fl, c3, by simp only [sIf, h, R.toS, if_false]; exact h1, h2⟩
theorem runB_wpN {n : Nat} {ms : MS} {ds : List D} {c c' : Cs} (h : Wp ms (en0 n ds) c fun fl c2 => ∃ e, fl = .nx e ∧ c2 = c') : runB n ms ds c = .ok (.v .non) c' := by
  obtain ⟨fl, c2, h, e, rfl, rfl⟩ := h
  simp only [runB, h]
end Dg

set_option Elab.async false
set_option linter.all false
set_option maxHeartbeats 4000000
set_option maxRecDepth 100000
namespace Dg
open PySem L2
/-! ### steps of a curve -/
abbrev Pr2 := Int × Int
/-- steeper -/
def stpr (a b : Pr2) : Bool := decide (b.2 * a.1 < a.2 * b.1)
/-- a step laid among others -/
def insStep : List Pr2 → Pr2 → List Pr2
  | [], s => [s]
  | y :: r, s => if stpr y s then y :: insStep r s else if stpr s y then s :: y :: r else (y.1 + s.1, y.2 + s.2) :: r
def addStep (L : List Pr2) (s : Pr2) : List Pr2 := if s = (0, 0) then L else insStep L s
def prT (L : List Pr2) : List T := L.map fun p => T.v (shD p)
theorem prT_d (L : List Pr2) : (T.ol (prT L)).d = .lst (L.map shD) := by
  show D.lst (T.dA _) = _
  unfold prT
  rw [dA_mapf]; rfl
theorem steeper_spec {k l : Nat} {a b : Pr2} (h1 : Bd k a.1) (h2 : Bd k a.2) (h3 : Bd l b.1) (h4 : Bd l b.2) (hk : k ≤ 8000) (hl : l ≤ 8000) (c : Cs) : m_is_steeper_9add5 [shD a, shD b] c = .ok (.v (.bl (stpr a b))) c := by
  have m1 := mulD_int (c := c) (okMul_of h2 h3 hk hl)
  have m2 := mulD_int (c := c) (okMul_of h4 h1 hl hk)
  have a0 : ixD c (shD a) (.int 0) = some (.int a.1) := rfl
  have a1 : ixD c (shD a) (.int 1) = some (.int a.2) := rfl
  have b0 : ixD c (shD b) (.int 0) = some (.int b.1) := rfl
  have b1 : ixD c (shD b) (.int 1) = some (.int b.2) := rfl
  unfold stpr
  generalize shD a = A at *
  generalize shD b = B at *
  refine runB_wp ?_
  (unfold b_is_steeper_9add5; simp only [en0, List.map_cons, List.map_nil, List.length_cons, List.length_nil, List.replicate, List.cons_append, List.nil_append])
  (apply wp_end; case h => (simp [a0, a1, b0, b1, m1, m2]; first | done | rfl | exact ⟨rfl, rfl⟩ | (trace_state; fail)))
  exact ⟨rfl, rfl⟩
def Bp (k : Nat) (p : Pr2) : Prop := Bd k p.1 ∧ Bd k p.2
/-- how many are steeper, from the first on -/
def nst (s : Pr2) : List Pr2 → Nat
  | [] => 0
  | y :: r => if stpr y s then nst s r + 1 else 0
theorem nst_le (s : Pr2) : ∀ L : List Pr2, nst s L ≤ L.length
  | [] => Nat.le_refl _
  | y :: r => by
    unfold nst
    have := nst_le s r
    split
    · rw [List.length_cons]; omega
    · omega
theorem nst_lt {s : Pr2} : ∀ {L : List Pr2} {i : Nat} (h : i < nst s L) (h2 : i < L.length), stpr L[i] s = true
  | y :: r, i, h, h2 => by
    unfold nst at h
    split at h
    · rename_i c
      cases i with
      | zero => exact c
      | succ i => exact nst_lt (L := r) (by omega) (by simpa using h2)
    · omega
theorem nst_at {s : Pr2} : ∀ {L : List Pr2} (h2 : nst s L < L.length), stpr L[nst s L] s = false
  | y :: r, h2 => by
    unfold nst at h2 ⊢
    by_cases c : stpr y s = true
    · simp only [c, if_true] at h2 ⊢
      exact nst_at (L := r) (by simpa using h2)
    · simp only [c] at h2 ⊢
      simpa using c
theorem ins_eq (s : Pr2) : ∀ L : List Pr2, insStep L s = if h : nst s L < L.length then (if stpr s L[nst s L] then L.take (nst s L) ++ [s] ++ L.drop (nst s L) else L.set (nst s L) (L[nst s L].1 + s.1, L[nst s L].2 + s.2)) else L.take (nst s L) ++ [s] ++ L.drop (nst s L)
  | [] => by simp [insStep, nst]
  | y :: r => by
    have ih := ins_eq s r
    unfold insStep nst
    by_cases c : stpr y s = true
    · simp only [c, if_true]
      rw [ih]
      by_cases h : nst s r < r.length
      · simp only [h, dif_pos, List.length_cons, Nat.add_lt_add_iff_right, List.getElem_cons_succ]
        by_cases c2 : stpr s r[nst s r] = true
        · simp [c2]
        · simp [c2]
      · simp only [h, dif_neg, List.length_cons, Nat.add_lt_add_iff_right]
        simp
    · simp only [c]
      by_cases c2 : stpr s y = true
      · simp [c2]
      · simp [c2]
/-- what the steps come to -/
structure StOk (L : List Pr2) (x y : Int) : Prop where
  nn : ∀ p ∈ L, 0 ≤ p.1 ∧ 0 ≤ p.2
  s1 : (L.map Prod.fst).sum = x
  s2 : (L.map Prod.snd).sum = y
theorem sum_mem_le : ∀ {l : List Int}, (∀ x ∈ l, 0 ≤ x) → ∀ x ∈ l, x ≤ l.sum
  | [], _, x, h => by cases h
  | a :: l, h, x, hx => by
    have s0 : 0 ≤ l.sum := by
      have : ∀ l : List Int, (∀ x ∈ l, 0 ≤ x) → 0 ≤ l.sum := fun l => by
        induction l with
        | nil => intro _; exact Int.le_refl _
        | cons b l ih =>
          intro h
          have := ih fun x hx => h x (List.mem_cons_of_mem _ hx)
          have := h b List.mem_cons_self
          rw [List.sum_cons]; omega
      exact this l fun x hx => h x (List.mem_cons_of_mem _ hx)
    rw [List.sum_cons]
    rcases List.mem_cons.mp hx with rfl | hx
    · omega
    · have := sum_mem_le (fun x hx => h x (List.mem_cons_of_mem _ hx)) x hx
      have := h a List.mem_cons_self
      omega
theorem StOk.le {L : List Pr2} {x y : Int} (h : StOk L x y) : ∀ p ∈ L, p.1 ≤ x ∧ p.2 ≤ y := fun p hp => by
  have a := sum_mem_le (l := L.map Prod.fst) (fun z hz => by obtain ⟨q, hq, rfl⟩ := List.mem_map.mp hz; exact (h.nn q hq).1) p.1 (List.mem_map.mpr ⟨p, hp, rfl⟩)
  have b := sum_mem_le (l := L.map Prod.snd) (fun z hz => by obtain ⟨q, hq, rfl⟩ := List.mem_map.mp hz; exact (h.nn q hq).2) p.2 (List.mem_map.mpr ⟨p, hp, rfl⟩)
  rw [h.s1] at a
  rw [h.s2] at b
  exact ⟨a, b⟩
theorem StOk.ins {s : Pr2} (h0 : 0 ≤ s.1) (h1 : 0 ≤ s.2) : ∀ {L : List Pr2} {x y : Int}, StOk L x y → StOk (insStep L s) (x + s.1) (y + s.2)
  | [], x, y, h => by
    have e1 := h.s1
    have e2 := h.s2
    simp at e1 e2
    refine ⟨fun p hp => ?_, by simp [insStep]; omega, by simp [insStep]; omega⟩
    simp [insStep] at hp
    subst hp
    exact ⟨h0, h1⟩
  | z :: r, x, y, h => by
    have z0 := h.nn z List.mem_cons_self
    have e1 := h.s1
    have e2 := h.s2
    rw [List.map_cons, List.sum_cons] at e1 e2
    unfold insStep
    by_cases c : stpr z s = true
    · rw [if_pos c]
      have ih := StOk.ins h0 h1 (L := r) (x := x - z.1) (y := y - z.2) ⟨fun p hp => h.nn p (List.mem_cons_of_mem _ hp), by omega, by omega⟩
      refine ⟨fun p hp => ?_, by rw [List.map_cons, List.sum_cons, ih.s1]; omega, by rw [List.map_cons, List.sum_cons, ih.s2]; omega⟩
      rcases List.mem_cons.mp hp with rfl | hp
      · exact z0
      · exact ih.nn p hp
    · rw [if_neg c]
      by_cases c2 : stpr s z = true
      · rw [if_pos c2]
        refine ⟨fun p hp => ?_, by simp only [List.map_cons, List.sum_cons]; omega, by simp only [List.map_cons, List.sum_cons]; omega⟩
        rcases List.mem_cons.mp hp with rfl | hp
        · exact ⟨h0, h1⟩
        · exact h.nn p hp
      · rw [if_neg c2]
        refine ⟨fun p hp => ?_, by simp only [List.map_cons, List.sum_cons]; omega, by simp only [List.map_cons, List.sum_cons]; omega⟩
        rcases List.mem_cons.mp hp with rfl | hp
        · exact ⟨by show 0 ≤ z.1 + s.1; omega, by show 0 ≤ z.2 + s.2; omega⟩
        · exact h.nn p (List.mem_cons_of_mem _ hp)
theorem StOk.add {s : Pr2} (h0 : 0 ≤ s.1) (h1 : 0 ≤ s.2) {L : List Pr2} {x y : Int} (h : StOk L x y) : StOk (addStep L s) (x + s.1) (y + s.2) := by
  unfold addStep
  by_cases c : s = (0, 0)
  · rw [if_pos c, c]; simpa using h
  · rw [if_neg c]; exact h.ins h0 h1
theorem ins_len (s : Pr2) : ∀ L : List Pr2, (insStep L s).length ≤ L.length + 1
  | [] => by simp [insStep]
  | y :: r => by
    have := ins_len s r
    unfold insStep
    split
    · simp only [List.length_cons]; omega
    · split <;> simp
def stepsL (f : Nat → Nat → Int) (n : Nat) : List Pr2 := (List.range n).foldl (fun L k => addStep L (f 0 k, f 1 k)) []
theorem stepsL_succ (f : Nat → Nat → Int) (n : Nat) : stepsL f (n + 1) = addStep (stepsL f n) (f 0 n, f 1 n) := by
  unfold stepsL; rw [List.range_succ, List.foldl_append]; rfl
section
variable {m n : Nat} {a : Int} {f : Nat → Nat → Int}
theorem stepsL_ok (G : GT m n a f) (m2 : 2 ≤ m) : ∀ k, k ≤ n → StOk (stepsL f k) (sumTo k (f 0)) (sumTo k (f 1)) ∧ (stepsL f k).length ≤ k
  | 0, _ => ⟨⟨fun p hp => (by cases hp), rfl, rfl⟩, Nat.le_refl _⟩
  | k + 1, h => by
    obtain ⟨ih, il⟩ := stepsL_ok G m2 k (by omega)
    rw [stepsL_succ]
    refine ⟨ih.add (G.nn 0 (by omega) k (by omega)) (G.nn 1 (by omega) k (by omega)), ?_⟩
    unfold addStep
    split
    · omega
    · have := ins_len (f 0 k, f 1 k) (stepsL f k); omega
theorem sum_le_all (G : GT m n a f) {s k : Nat} (hs : s < m) (hk : k ≤ n) : sumTo k (f s) ≤ a := by
  have h := G.sum s hs
  have : ∀ d, k + d ≤ n → sumTo k (f s) ≤ sumTo (k + d) (f s) := fun d => by
    induction d with
    | zero => intro _; exact Int.le_refl _
    | succ d ih =>
      intro h
      have := ih (by omega)
      have := G.nn s hs (k + d) (by omega)
      rw [← Nat.add_assoc, sumTo]; omega
  have := this (n - k) (by omega)
  rw [show k + (n - k) = n by omega, h] at this
  exact this
theorem steps_bd (G : GT m n a f) (m2 : 2 ≤ m) {K : Nat} (ba : Bd K a) {k : Nat} (hk : k ≤ n) : ∀ p ∈ stepsL f k, Bp K p := fun p hp => by
  obtain ⟨h, _⟩ := stepsL_ok G m2 k hk
  have l := h.le p hp
  have z := h.nn p hp
  have a1 := sum_le_all G (s := 0) (by omega) hk
  have a2 := sum_le_all G (s := 1) (by omega) hk
  exact ⟨ba.le (by omega), ba.le (by omega)⟩
end
/-! ### the program's steps, walked -/
theorem sh_at {L : List Pr2} {i : Nat} (h : i < L.length) (c : Cs) : ixD c (.lst (L.map shD)) (.int (i : Int)) = some (shD L[i]) := by
  simp only [ixD]
  refine atI_nat ?_
  rw [List.getElem?_map, List.getElem?_eq_getElem h]; rfl
theorem steep_while {L : List Pr2} {s : Pr2} {K : Nat} (bL : ∀ p ∈ L, Bp K p) (bs : Bp K s) (hK : K ≤ 8000) (hl : L.length < 1000) (x0 : Option T) (c : Cs) : ∀ d i, i + d = nst s L →
    sWhile (andT (toT (op2 ltD (mVar 3) (opA lenD [(mVar 1)]))) (toT (callP m_is_steeper_9add5 [(op2 ixD (mVar 1) (mVar 3)), (mVar 2)]))) (sSet 3 (oF (op2O addD (mVar 3) (mC (.int 1))))) [x0, some (.ol (prT L)), some (.v (shD s)), some (.v (.int (i : Int)))] c = .ok (.nx [x0, some (.ol (prT L)), some (.v (shD s)), some (.v (.int (nst s L : Nat)))]) c := by
  have hd := prT_d L
  have ln : lenD c [.lst (L.map shD)] = some (.int L.length) := by simp [lenD]
  have le := nst_le s L
  intro d
  induction d with
  | zero =>
    intro i h
    have : i = nst s L := by omega
    subst this
    refine while_f (c1 := c) ?_
    by_cases h2 : nst s L < L.length
    · have q := sh_at h2 c
      have e := nst_at h2
      have st := steeper_spec (bL _ (List.getElem_mem h2)).1 (bL _ (List.getElem_mem h2)).2 bs.1 bs.2 hK hK c
      rw [e] at st
      have h3 : (nst s L : Int) < (L.length : Int) := by omega
      generalize T.ol (prT L) = W at *
      generalize L.map shD = E at *
      generalize shD L[nst s L] = z at *
      generalize shD s = S at *
      simp [hd, ln, h3, q, st]
    · have h3 : ¬ (nst s L : Int) < (L.length : Int) := by omega
      generalize T.ol (prT L) = W at *
      generalize L.map shD = E at *
      simp [hd, ln, h3]
  | succ d ih =>
    intro i h
    have h2 : i < L.length := by omega
    have q := sh_at h2 c
    have e := nst_lt (L := L) (s := s) (i := i) (by omega) h2
    have st := steeper_spec (bL _ (List.getElem_mem h2)).1 (bL _ (List.getElem_mem h2)).2 bs.1 bs.2 hK hK c
    rw [e] at st
    have h3 : (i : Int) < (L.length : Int) := by omega
    have ih := ih (i + 1) (by omega)
    rw [while_t (c1 := c) (c2 := c) (e2 := [x0, some (.ol (prT L)), some (.v (shD s)), some (.v (.int ((i + 1 : Nat) : Int)))]) (by
      generalize T.ol (prT L) = W at *
      generalize L.map shD = E at *
      generalize shD L[i] = z at *
      generalize shD s = S at *
      simp [hd, ln, h3, q, st]) (by
      generalize T.ol (prT L) = W at *
      simp)]
    exact ih
theorem zero_ne (c : Cs) (s : Pr2) : neD c (shD s) (.tup [.int 0, .int 0]) = some (.bl (!decide (s = (0, 0)))) := by
  have h : (shD s).nb 2 = true := by obtain ⟨x, y⟩ := s; rfl
  have h0 : (D.tup [.int 0, .int 0]).nb 2 = true := rfl
  rw [neD_nb c h h0]
  by_cases e : s = (0, 0)
  · subst e
    rw [show (shD (0, 0)).is (.tup [.int 0, .int 0]) = true from D.is_iff.mpr rfl]; rfl
  · rw [show (shD s).is (.tup [.int 0, .int 0]) = false from D.is_ne fun h => by
      obtain ⟨x, y⟩ := s
      simp [shD] at h
      exact e (by rw [h.1, h.2])]
    rw [decide_eq_false e]
theorem steps_of_spec {m n : Nat} {a : Int} {f : Nat → Nat → Int} (G : GT m n a f) (m2 : 2 ≤ m) {K : Nat} (ba : Bd K a) (hK : K ≤ 4000) (c : Cs) : m_steps_of_c2200 [glD a (tab m n f)] c = .ok (.ol (prT (stepsL f n))) c := by
  have A1 := fun c => gl1 c a (tab m n f)
  have r0 := fun c => rw_at c (m := m) (w := n) (f := f) (i := 0) (by omega)
  have r1 := fun c => rw_at c (m := m) (w := n) (f := f) (i := 1) (by omega)
  have n12 := G.w12
  have e0 : rowT ((List.range n).map fun j => f 0 j) = .tup ((List.range n).map fun j => .int (f 0 j)) := by unfold rowT; rw [List.map_map]; rfl
  have e1 : rowT ((List.range n).map fun j => f 1 j) = .tup ((List.range n).map fun j => .int (f 1 j)) := by unfold rowT; rw [List.map_map]; rfl
  have hz : zipB (rowT ((List.range n).map fun j => f 0 j)) (rowT ((List.range n).map fun j => f 1 j)) = some ((List.range n).map fun k => shD (f 0 k, f 1 k)) := by
    rw [e0, e1, zipB_tt, zipL_map]; rfl
  generalize glD a (tab m n f) = A at *
  refine runB_wp ?_
  (unfold b_steps_of_c2200; simp only [en0, List.map_cons, List.map_nil, List.length_cons, List.length_nil, List.replicate, List.cons_append, List.nil_append])
  (apply wp_seq; case h => (simp []; first | done | rfl | exact ⟨rfl, rfl⟩ | (trace_state; fail)))
  refine wp_for (fun k => shD (f 0 k, f 1 k)) n (fun k e c' => c' = c ∧ ∃ (x2 x3 : Option T), e = [some (.v A), some (.ol (prT (stepsL f k))), x2, x3]) (by
    have A1 := A1 c
    have r0 := r0 c
    have r1 := r1 c
    generalize rowT ((List.range n).map fun j => f 0 j) = R0 at *
    generalize rowT ((List.range n).map fun j => f 1 j) = R1 at *
    generalize rwT (tab m n f) = RW at *
    simp [A1, show ixD c RW (.int 0) = some R0 from r0, show ixD c RW (.int 1) = some R1 from r1, hz]) ⟨rfl, none, none, rfl⟩ (fun k hk e c' he => ?_) fun e' c' he => ?_
  · obtain ⟨rfl, x2, x3, rfl⟩ := he
    (refine ⟨_, rfl, ?_⟩; simp only [List.set_cons_succ, List.set_cons_zero])
    have bL := steps_bd G m2 ba (k := k) (by omega)
    obtain ⟨so, sl⟩ := stepsL_ok G m2 k (by omega)
    have bs : Bp K (f 0 k, f 1 k) := ⟨G.bd ba (by omega) hk, G.bd ba (by omega) hk⟩
    rw [stepsL_succ]
    generalize stepsL f k = L at *
    generalize (f 0 k, f 1 k) = s at *
    have z := zero_ne c' s
    have hd := prT_d L
    have ln : lenD c' [.lst (L.map shD)] = some (.int L.length) := by simp [lenD]
    unfold addStep
    by_cases s0 : s = (0, 0)
    · rw [decide_eq_true s0] at z
      rw [if_pos s0]
      refine wp_ifF (c' := c') (by
        generalize T.ol (prT L) = W at *
        generalize shD s = S at *
        simp [z]) (wp_end (fl := .nx [some (.v A), some (.ol (prT L)), some (.v (shD s)), x3]) (c' := c') rfl ⟨_, rfl, rfl, _, _, rfl⟩)
    rw [decide_eq_false s0] at z
    rw [if_neg s0]
    refine wp_ifT (c' := c') (by
      generalize T.ol (prT L) = W at *
      generalize shD s = S at *
      simp [z]) ?_
    refine wp_seq (e' := [some (.v A), some (.ol (prT L)), some (.v (shD s)), some (.v (.int ((0 : Nat) : Int)))]) (c' := c') (by
      generalize T.ol (prT L) = W at *
      simp) ?_
    have wl := steep_while bL bs (by omega) (by omega) (some (.v A)) c' (nst s L) 0 (by omega)
    refine wp_seq wl ?_
    have le := nst_le s L
    have ie := ins_eq s L
    have il : inR (nst s L : Int) := inR_of (by omega) (by omega)
    have lp : (prT L).length = L.length := by unfold prT; rw [List.length_map]
    have lpl : (prT L).length < LIM := by rw [lp]; show _ < 1000000; omega
    by_cases h2 : nst s L < L.length
    · rw [dif_pos h2] at ie
      have h3 : (nst s L : Int) < (L.length : Int) := by omega
      have q := sh_at h2 c'
      have st := steeper_spec bs.1 bs.2 (bL _ (List.getElem_mem h2)).1 (bL _ (List.getElem_mem h2)).2 (by omega) (by omega) c'
      cases c2 : stpr s L[nst s L]
      · rw [c2] at st
        rw [if_neg (by rw [c2]; simp)] at ie
        refine wp_ifT (c' := c') (by
          generalize T.ol (prT L) = W at *
          generalize L.map shD = E at *
          generalize shD L[nst s L] = y at *
          generalize shD s = S at *
          simp [hd, ln, h3, q, st]) ?_
        have y0 : ixD c' (shD L[nst s L]) (.int 0) = some (.int L[nst s L].1) := rfl
        have y1 : ixD c' (shD L[nst s L]) (.int 1) = some (.int L[nst s L].2) := rfl
        have s0' : ixD c' (shD s) (.int 0) = some (.int s.1) := rfl
        have s1' : ixD c' (shD s) (.int 1) = some (.int s.2) := rfl
        have hset : prT (insStep L s) = (prT L).set (nst s L) (T.v (.tup [.int (L[nst s L].1 + s.1), .int (L[nst s L].2 + s.2)])) := by
          rw [ie]; unfold prT; rw [List.map_set]; rfl
        rw [hset]
        have ix : ixN (prT L).length (nst s L : Int) = some (nst s L) := by rw [lp]; exact ixN_nt h2
        refine wp_end (fl := .nx [some (.v A), some (.ol ((prT L).set (nst s L) (T.v (.tup [.int (L[nst s L].1 + s.1), .int (L[nst s L].2 + s.2)])))), some (.v (shD s)), some (.v (.int (nst s L : Nat)))]) (c' := c') ?_ ⟨_, rfl, rfl, _, _, rfl⟩
        have hdA : T.dA (prT L) = L.map shD := by
          have := hd
          exact D.lst.inj this
        generalize prT L = V at *
        generalize L.map shD = E at *
        generalize L[nst s L] = y at *
        obtain ⟨ya, yb⟩ := y
        obtain ⟨sa, sb⟩ := s
        generalize shD (ya, yb) = yD at *
        generalize shD (sa, sb) = sD at *
        simp [hdA, q, y0, y1, s0', s1', ix, partsV, addD]
      · rw [c2] at st
        rw [if_pos c2] at ie
        refine wp_ifF (c' := c') (by
          generalize T.ol (prT L) = W at *
          generalize L.map shD = E at *
          generalize shD L[nst s L] = y at *
          generalize shD s = S at *
          simp [hd, ln, h3, q, st]) ?_
        have hins : prT (insStep L s) = (prT L).take (nst s L) ++ [T.v (shD s)] ++ (prT L).drop (nst s L) := by
          rw [ie]; unfold prT; simp [List.map_take, List.map_drop]
        rw [hins]
        refine wp_end (fl := .nx [some (.v A), some (.ol ((prT L).take (nst s L) ++ [T.v (shD s)] ++ (prT L).drop (nst s L))), some (.v (shD s)), some (.v (.int (nst s L : Nat)))]) (c' := c') ?_ ⟨_, rfl, rfl, _, _, rfl⟩
        generalize prT L = V at *
        generalize shD s = S at *
        simp [lpl, il]
    · rw [dif_neg h2] at ie
      have h3 : ¬ (nst s L : Int) < (L.length : Int) := by omega
      refine wp_ifF (c' := c') (by
        generalize T.ol (prT L) = W at *
        generalize L.map shD = E at *
        simp [hd, ln, h3]) ?_
      have hins : prT (insStep L s) = (prT L).take (nst s L) ++ [T.v (shD s)] ++ (prT L).drop (nst s L) := by
        rw [ie]; unfold prT; simp [List.map_take, List.map_drop]
      rw [hins]
      refine wp_end (fl := .nx [some (.v A), some (.ol ((prT L).take (nst s L) ++ [T.v (shD s)] ++ (prT L).drop (nst s L))), some (.v (shD s)), some (.v (.int (nst s L : Nat)))]) (c' := c') ?_ ⟨_, rfl, rfl, _, _, rfl⟩
      generalize prT L = V at *
      generalize shD s = S at *
      simp [lpl, il]
  obtain ⟨rfl, x2, x3, rfl⟩ := he
  refine wp_end (fl := .rt (.ol (prT (stepsL f n)))) (c' := c') (by simp) ⟨rfl, rfl⟩
/-! ### the curve's corners -/
def px (L : List Pr2) (k : Nat) : Int := ((L.take k).map Prod.fst).sum
def py (L : List Pr2) (k : Nat) : Int := ((L.take k).map Prod.snd).sum
theorem sum_app : ∀ a b : List Int, (a ++ b).sum = a.sum + b.sum
  | [], b => by simp
  | x :: a, b => by rw [List.cons_append, List.sum_cons, List.sum_cons, sum_app a b]; omega
theorem px_succ {L : List Pr2} {k : Nat} (h : k < L.length) : px L (k + 1) = px L k + (L.getD k (0, 0)).1 := by
  unfold px
  rw [List.take_succ_eq_append_getElem h, List.map_append, sum_app, List.getD_eq_getElem?_getD, List.getElem?_eq_getElem h]
  simp
theorem py_succ {L : List Pr2} {k : Nat} (h : k < L.length) : py L (k + 1) = py L k + (L.getD k (0, 0)).2 := by
  unfold py
  rw [List.take_succ_eq_append_getElem h, List.map_append, sum_app, List.getD_eq_getElem?_getD, List.getElem?_eq_getElem h]
  simp
def cnD (p : Pr2 × Pr2) : D := .tup [shD p.1, shD p.2]
def crn (L : List Pr2) (b : Int) (k : Nat) : Pr2 × Pr2 := (shr (px L k) b, shr (py L k) b)
def crnT (L : List Pr2) (b : Int) (k : Nat) : List T := (List.range k).map fun j => T.v (cnD (crn L b j))
theorem prT_clean : ∀ L : List Pr2, T.cleanA (prT L) = true
  | [] => rfl
  | p :: L => by
    show (T.clean (.v (shD p)) && T.cleanA (prT L)) = true
    rw [prT_clean L]; rfl
theorem two_yes {n : Nat} {a : Int} {f : Nat → Nat → Int} (c : Cs) : m_two_stands_04f69 [glD a (tab 2 n f)] c = .ok (.v .non) c := by
  have st := stands_tab a 2 n f c
  generalize glD a (tab 2 n f) = A at *
  refine runB_wpN ?_
  (unfold b_two_stands_04f69; simp only [en0, List.map_cons, List.map_nil, List.length_cons, List.length_nil, List.replicate, List.cons_append, List.nil_append])
  exact wp_end (fl := .nx [some (.v A)]) (c' := c) (by simp [st]) ⟨_, rfl, rfl⟩
theorem two_no {m n : Nat} {a : Int} {f : Nat → Nat → Int} (hm : m ≠ 2) (c : Cs) : m_two_stands_04f69 [glD a (tab m n f)] c = .err "NoFit" c := by
  have st := stands_tab a m n f c
  have h : ¬ (m : Int) = 2 := by omega
  generalize glD a (tab m n f) = A at *
  refine runB_er (e := [some (.v A)]) ?_
  unfold b_two_stands_04f69
  simp [st, h]
theorem curve_no {m n : Nat} {a : Int} {f : Nat → Nat → Int} (hm : m ≠ 2) (c : Cs) : m_curve_6c79e [glD a (tab m n f)] c = .err "NoFit" c := by
  have st := two_no (n := n) (a := a) (f := f) hm c
  generalize glD a (tab m n f) = A at *
  refine runB_er (e := [some (.v A), none, none, none, none]) ?_
  unfold b_curve_6c79e
  simp only [en0, List.map_cons, List.map_nil, List.length_cons, List.length_nil, List.replicate, List.cons_append, List.nil_append]
  refine seq_er ?_
  simp [st]
theorem curve_spec {n : Nat} {a : Int} {f : Nat → Nat → Int} (G : GT 2 n a f) {K : Nat} (ba : Bd K a) (hK : K ≤ 4000) (c : Cs) : m_curve_6c79e [glD a (tab 2 n f)] c = .ok (.ol (crnT (stepsL f n) a ((stepsL f n).length + 1))) c := by
  have so := steps_of_spec G (by omega) ba hK c
  have two := two_yes (n := n) (a := a) (f := f) c
  have A0 := gl0 c a (tab 2 n f)
  obtain ⟨sk, sl⟩ := stepsL_ok G (by omega) n (Nat.le_refl _)
  have n12 := G.w12
  have cl := prT_clean (stepsL f n)
  have hd := prT_d (stepsL f n)
  have a0 := G.b0
  have ab := ba.big (by omega)
  have z0 : crnT (stepsL f n) a 1 = [T.v (.tup [.tup [.int 0, .int 1], .tup [.int 0, .int 1]])] := by
    have e : shr 0 a = (0, 1) := by
      have h := shr_self (p := 0) (q := 1) (by omega) rfl
      rw [← h]
      exact (shr_eq (by omega) (by omega)).mpr (by omega)
    unfold crnT
    have : List.range 1 = [0] := rfl
    rw [this]
    show [T.v (cnD (shr 0 a, shr 0 a))] = _
    rw [e]; rfl
  generalize stepsL f n = L at *
  generalize glD a (tab 2 n f) = A at *
  refine runB_wp ?_
  (unfold b_curve_6c79e; simp only [en0, List.map_cons, List.map_nil, List.length_cons, List.length_nil, List.replicate, List.cons_append, List.nil_append])
  (apply wp_seq; case h => (simp [two]; first | done | rfl | exact ⟨rfl, rfl⟩ | (trace_state; fail)))
  (apply wp_seq; case h => (simp []; first | done | rfl | exact ⟨rfl, rfl⟩ | (trace_state; fail)))
  (apply wp_seq; case h => (simp []; first | done | rfl | exact ⟨rfl, rfl⟩ | (trace_state; fail)))
  refine wp_seq (e' := [some (.v A), some (.v (.int (px L 0))), some (.v (.int (py L 0))), some (.ol (crnT L a 1)), none]) (c' := c) (by rw [z0]; simp [partsV]; exact ⟨rfl, rfl⟩) ?_
  refine wp_for (fun k => shD (L.getD k (0, 0))) L.length (fun k e c' => c' = c ∧ ∃ (x4 : Option T), e = [some (.v A), some (.v (.int (px L k))), some (.v (.int (py L k))), some (.ol (crnT L a (k + 1))), x4]) (by
    have e1 : L.map shD = (List.range L.length).map fun k => shD (L.getD k (0, 0)) := by
      conv => lhs; rw [list_tab (0, 0) L]
      rw [List.map_map]; rfl
    rw [← e1]
    generalize crnT L a 1 = V at *
    generalize L.map shD = E at *
    generalize prT L = P at *
    have hd : T.dA P = E := D.lst.inj hd
    simp [so, cl, hd]) ⟨rfl, none, rfl⟩ (fun k hk e c' he => ?_) fun e' c' he => ?_
  · obtain ⟨rfl, x4, rfl⟩ := he
    (refine ⟨_, rfl, ?_⟩; simp only [List.set_cons_succ, List.set_cons_zero])
    rw [px_succ hk, py_succ hk]
    generalize hs : L.getD k (0, 0) = s at *
    have s0 : ixD c' (shD s) (.int 0) = some (.int s.1) := rfl
    have s1 : ixD c' (shD s) (.int 1) = some (.int s.2) := rfl
    have sh1 := share_spec (px L k + s.1) a c' (by omega) ab
    have sh2 := share_spec (py L k + s.2) a c' (by omega) ab
    have next : crnT L a (k + 1 + 1) = crnT L a (k + 1) ++ [T.v (.tup [shD (shr (px L k + s.1) a), shD (shr (py L k + s.2) a)])] := by
      unfold crnT
      rw [List.range_succ (n := k + 1), List.map_append]
      show _ ++ [T.v (cnD (shr (px L (k + 1)) a, shr (py L (k + 1)) a))] = _
      rw [px_succ hk, py_succ hk, hs]; rfl
    rw [next]
    have lV : (crnT L a (k + 1)).length < LIM := by unfold crnT; rw [List.length_map, List.length_range]; show k + 1 < 1000000; omega
    have f1 : (shD (shr (px L k + s.1) a)).flat = true := rfl
    have f2 : (shD (shr (py L k + s.2) a)).flat = true := rfl
    generalize shD (shr (px L k + s.1) a) = S1 at *
    generalize shD (shr (py L k + s.2) a) = S2 at *
    generalize hX : px L k + s.1 = X at *
    generalize hY : py L k + s.2 = Y at *
    generalize shD s = S at *
    generalize crnT L a (k + 1) = V at *
    refine wp_seq (e' := [some (.v A), some (.v (.int X)), some (.v (.int (py L k))), some (.ol V), some (.v S)]) (c' := c') (by simp [s0, addD, hX]) ?_
    refine wp_seq (e' := [some (.v A), some (.v (.int X)), some (.v (.int Y)), some (.ol V), some (.v S)]) (c' := c') (by simp [s1, addD, hY]) ?_
    refine wp_end (fl := .nx [some (.v A), some (.v (.int X)), some (.v (.int Y)), some (.ol (V ++ [T.v (.tup [S1, S2])])), some (.v S)]) (c' := c') (by simp [A0, sh1, sh2, f1, f2, lV, partsV]) ⟨_, rfl, rfl, _, rfl⟩
  obtain ⟨rfl, x4, rfl⟩ := he
  refine wp_end (fl := .rt (.ol (crnT L a (L.length + 1)))) (c' := c') (by simp) ⟨rfl, rfl⟩
end Dg

set_option Elab.async false
set_option linter.all false
set_option maxHeartbeats 4000000
set_option maxRecDepth 100000
namespace Dg
open PySem L2
/-! ### steepness -/
def cr (a b : Pr2) : Int := a.2 * b.1 - b.2 * a.1
/-- a step: nonnegative, not nothing -/
def Vec (a : Pr2) : Prop := 0 ≤ a.1 ∧ 0 ≤ a.2 ∧ 0 < a.1 + a.2
theorem stpr_iff (a b : Pr2) : stpr a b = true ↔ 0 < cr a b := by unfold stpr cr; rw [decide_eq_true_iff]; omega
theorem cr_swap (a b : Pr2) : cr a b = - cr b a := by unfold cr; omega
theorem cr_self (a : Pr2) : cr a a = 0 := by unfold cr; omega
theorem cr_id1 (u v w : Pr2) : cr u w * v.1 = cr u v * w.1 + cr v w * u.1 := by unfold cr; grind
theorem cr_id2 (u v w : Pr2) : cr u w * v.2 = cr u v * w.2 + cr v w * u.2 := by unfold cr; grind
theorem pos_of_mul {x y : Int} (h : 0 < x * y) (hy : 0 ≤ y) : 0 < x := by
  refine Int.not_le.mp fun c => ?_
  have := Int.mul_nonpos_of_nonpos_of_nonneg c hy
  omega
/-- steeper than one that is no less steep -/
theorem cr_tr {u v w : Pr2} (hu : Vec u) (hv : Vec v) (hw : Vec w) (h1 : 0 ≤ cr u v) (h2 : 0 ≤ cr v w) : 0 ≤ cr u w ∧ (0 < cr u v ∨ 0 < cr v w → 0 < cr u w) := by
  have i1 := cr_id1 u v w
  have i2 := cr_id2 u v w
  have a1 := Int.mul_nonneg h1 hw.1
  have a2 := Int.mul_nonneg h2 hu.1
  have b1 := Int.mul_nonneg h1 hw.2.1
  have b2 := Int.mul_nonneg h2 hu.2.1
  obtain ⟨u1, u2, u3⟩ := hu
  obtain ⟨v1, v2, v3⟩ := hv
  obtain ⟨w1, w2, w3⟩ := hw
  have nn : 0 ≤ cr u w := by
    refine Int.not_lt.mp fun c => ?_
    by_cases z : 0 < v.1
    · have := Int.mul_neg_of_neg_of_pos c z; omega
    · have := Int.mul_neg_of_neg_of_pos c (show 0 < v.2 by omega); omega
  refine ⟨nn, fun h => ?_⟩
  rcases Int.lt_or_eq_of_le nn with h3 | h3
  · exact h3
  · exfalso
    rw [← h3] at i1 i2
    rcases h with h | h
    · have p1 : cr u v * w.1 = 0 := by omega
      have p2 : cr u v * w.2 = 0 := by omega
      rcases Int.mul_eq_zero.mp p1 with q | q
      · omega
      · rcases Int.mul_eq_zero.mp p2 with q2 | q2
        · omega
        · omega
    · have p1 : cr v w * u.1 = 0 := by omega
      have p2 : cr v w * u.2 = 0 := by omega
      rcases Int.mul_eq_zero.mp p1 with q | q
      · omega
      · rcases Int.mul_eq_zero.mp p2 with q2 | q2
        · omega
        · omega
/-! ### the steepest taken out -/
def lead : Pr2 → List Pr2 → Pr2
  | d, [] => d
  | d, s :: P => lead (if 0 < cr s d then s else d) P
def sum2 (P : List Pr2) : Pr2 := ((P.map Prod.fst).sum, (P.map Prod.snd).sum)
def tk : Nat → List Pr2 → List Pr2
  | 0, _ => []
  | _, [] => []
  | k + 1, p :: P => sum2 ((p :: P).filter fun s => cr s (lead p P) == 0) :: tk k ((p :: P).filter fun s => cr s (lead p P) != 0)
theorem lead_mem : ∀ (P : List Pr2) (d : Pr2), lead d P ∈ d :: P
  | [], d => by simp [lead]
  | s :: P, d => by
    unfold lead
    have := lead_mem P (if 0 < cr s d then s else d)
    rcases List.mem_cons.mp this with h | h
    · rw [h]; split <;> simp
    · exact List.mem_cons_of_mem _ (List.mem_cons_of_mem _ h)
theorem lead_max : ∀ (P : List Pr2) (d : Pr2), Vec d → (∀ s ∈ P, Vec s) → ∀ s ∈ d :: P, 0 ≤ cr (lead d P) s
  | [], d, _, _, s, hs => by
    rw [List.mem_singleton.mp hs]; unfold lead; rw [cr_self]; omega
  | x :: P, d, hd, hP, s, hs => by
    unfold lead
    have hx := hP x List.mem_cons_self
    have hP' := fun s hs => hP s (List.mem_cons_of_mem _ hs)
    have hn : Vec (if 0 < cr x d then x else d) := by split <;> assumption
    have ih := lead_max P (if 0 < cr x d then x else d) hn hP'
    have hl : Vec (lead (if 0 < cr x d then x else d) P) := by
      have := lead_mem P (if 0 < cr x d then x else d)
      rcases List.mem_cons.mp this with h | h
      · rw [h]; exact hn
      · exact hP' _ h
    have base := ih _ List.mem_cons_self
    rcases List.mem_cons.mp hs with rfl | hs
    · refine (cr_tr hl hn hd base ?_).1
      by_cases c : 0 < cr x s
      · rw [if_pos c]; omega
      · rw [if_neg c, cr_self]; omega
    · rcases List.mem_cons.mp hs with rfl | hs
      · refine (cr_tr hl hn hx base ?_).1
        by_cases c : 0 < cr s d
        · rw [if_pos c, cr_self]; omega
        · rw [if_neg c]; have := cr_swap d s; omega
      · exact ih s (List.mem_cons_of_mem _ hs)
theorem lead_vec {P : List Pr2} {d : Pr2} (hd : Vec d) (hP : ∀ s ∈ P, Vec s) : Vec (lead d P) := by
  rcases List.mem_cons.mp (lead_mem P d) with h | h
  · rw [h]; exact hd
  · exact hP _ h
theorem lead_snoc : ∀ (P : List Pr2) (d s : Pr2), lead d (P ++ [s]) = if 0 < cr s (lead d P) then s else lead d P
  | [], d, s => rfl
  | x :: P, d, s => by
    rw [List.cons_append]
    unfold lead
    exact lead_snoc P _ s
theorem cr_sum (t : Pr2) : ∀ G : List Pr2, cr (sum2 G) t = (G.map fun x => cr x t).sum
  | [] => by simp [sum2, cr]
  | x :: G => by
    have := cr_sum t G
    rw [List.map_cons, List.sum_cons, ← this]
    simp only [sum2, List.map_cons, List.sum_cons, cr]
    grind
theorem sum_pos {l : List Int} (h : ∀ x ∈ l, 0 < x) (hn : l ≠ []) : 0 < l.sum := by
  cases l with
  | nil => exact absurd rfl hn
  | cons a l =>
    have := h a List.mem_cons_self
    have s0 := sum_mem_le (l := a :: l) (fun x hx => by have := h x hx; omega) a List.mem_cons_self
    omega
theorem sum_nil {l : List Int} (h : ∀ x ∈ l, x = 0) : l.sum = 0 := by
  induction l with
  | nil => rfl
  | cons a l ih => rw [List.sum_cons, h a List.mem_cons_self, ih fun x hx => h x (List.mem_cons_of_mem _ hx)]; rfl
theorem sum_neg {l : List Int} (h : ∀ x ∈ l, x < 0) (hn : l ≠ []) : l.sum < 0 := by
  have e : ∀ l : List Int, (l.map fun x => -x).sum = - l.sum := fun l => by
    induction l with
    | nil => rfl
    | cons a l ih => rw [List.map_cons, List.sum_cons, List.sum_cons, ih]; omega
  have := sum_pos (l := l.map fun x => -x) (fun x hx => by obtain ⟨y, hy, rfl⟩ := List.mem_map.mp hx; have := h y hy; omega) (by simpa using hn)
  rw [e] at this
  omega
theorem par_sign {x d t : Pr2} (hx : Vec x) (hd : Vec d) (ht : Vec t) (h : cr x d = 0) : (0 < cr d t → 0 < cr x t) ∧ (cr d t = 0 → cr x t = 0) ∧ (cr d t < 0 → cr x t < 0) := by
  have s1 := cr_swap d t
  have s2 := cr_swap x t
  have s3 := cr_swap x d
  refine ⟨fun h2 => (cr_tr hx hd ht (by omega) (by omega)).2 (.inr h2), fun h2 => ?_, fun h2 => ?_⟩
  · have a := (cr_tr hx hd ht (by omega) (by omega)).1
    have b := (cr_tr ht hd hx (by omega) (by omega)).1
    omega
  · have := (cr_tr ht hd hx (by omega) (by omega)).2 (.inl (by omega))
    omega
theorem grp_sign {G : List Pr2} {d t : Pr2} (hG : ∀ x ∈ G, Vec x) (hp : ∀ x ∈ G, cr x d = 0) (hn : G ≠ []) (hd : Vec d) (ht : Vec t) : (0 < cr d t → 0 < cr (sum2 G) t) ∧ (cr d t = 0 → cr (sum2 G) t = 0) ∧ (cr d t < 0 → cr (sum2 G) t < 0) := by
  rw [cr_sum]
  refine ⟨fun h => sum_pos (fun y hy => ?_) (by simpa using hn), fun h => sum_nil fun y hy => ?_, fun h => sum_neg (fun y hy => ?_) (by simpa using hn)⟩
  all_goals
    obtain ⟨x, hx, rfl⟩ := List.mem_map.mp hy
    have := par_sign (hG x hx) hd ht (hp x hx)
  · exact this.1 h
  · exact this.2.1 h
  · exact this.2.2 h
theorem rest_lt (p : Pr2) (P : List Pr2) : ((p :: P).filter fun s => cr s (lead p P) != 0).length < (p :: P).length := by
  have h := lead_mem P p
  refine List.length_filter_lt_length_iff_exists.mpr ⟨_, h, ?_⟩
  simp [cr_self]
theorem tk_fuel : ∀ (k k' : Nat) (P : List Pr2), P.length ≤ k → P.length ≤ k' → tk k P = tk k' P
  | 0, k', P, h, _ => by
    have : P = [] := List.eq_nil_of_length_eq_zero (Nat.le_zero.mp h)
    subst this
    cases k' <;> rfl
  | k + 1, 0, P, _, h => by
    have : P = [] := List.eq_nil_of_length_eq_zero (Nat.le_zero.mp h)
    subst this; rfl
  | k + 1, k' + 1, [], _, _ => rfl
  | k + 1, k' + 1, p :: P, h, h' => by
    have lt := rest_lt p P
    unfold tk
    rw [tk_fuel k k' _ (by omega) (by omega)]
theorem tk_snoc : ∀ (k : Nat) (P : List Pr2) (s : Pr2), P.length + 1 ≤ k → (∀ p ∈ P, Vec p) → Vec s → tk k (P ++ [s]) = insStep (tk k P) s
  | 0, P, s, h, _, _ => by omega
  | k + 1, [], s, _, _, hs => by
    have e : tk k [] = [] := by cases k <;> rfl
    simp [tk, lead, cr_self, sum2, insStep, e]
  | k + 1, p :: P, s, h, hP, hs => by
    have hp := hP p List.mem_cons_self
    have hP' := fun x hx => hP x (List.mem_cons_of_mem _ hx)
    have hd := lead_vec hp hP'
    have mx := lead_max P p hp hP'
    have lt := rest_lt p P
    have hG : ∀ x ∈ (p :: P).filter fun s => cr s (lead p P) == 0, Vec x ∧ cr x (lead p P) = 0 := fun x hx => by
      obtain ⟨a, b⟩ := List.mem_filter.mp hx
      exact ⟨hP x a, by simpa using b⟩
    have hn : ((p :: P).filter fun s => cr s (lead p P) == 0) ≠ [] := fun e => by
      have : lead p P ∈ (p :: P).filter fun s => cr s (lead p P) == 0 := List.mem_filter.mpr ⟨lead_mem P p, by simp [cr_self]⟩
      rw [e] at this; cases this
    have sg := grp_sign (fun x hx => (hG x hx).1) (fun x hx => (hG x hx).2) hn hd hs
    have sw := cr_swap (lead p P) s
    have lR : tk (k + 1) (p :: P) = sum2 ((p :: P).filter fun s => cr s (lead p P) == 0) :: tk k ((p :: P).filter fun s => cr s (lead p P) != 0) := rfl
    have lL : tk (k + 1) (p :: P ++ [s]) = sum2 ((p :: P ++ [s]).filter fun x => cr x (lead p (P ++ [s])) == 0) :: tk k ((p :: P ++ [s]).filter fun x => cr x (lead p (P ++ [s])) != 0) := rfl
    rw [lL, lead_snoc]
    rcases Int.lt_trichotomy (cr s (lead p P)) 0 with c | c | c
    · rw [if_neg (by omega), lR]
      have st : stpr (sum2 ((p :: P).filter fun s => cr s (lead p P) == 0)) s = true := (stpr_iff _ _).mpr (sg.1 (by omega))
      unfold insStep
      rw [if_pos st, List.filter_append, List.filter_append]
      have f1 : ([s].filter fun x => cr x (lead p P) == 0) = [] := by simp; omega
      have f2 : ([s].filter fun x => cr x (lead p P) != 0) = [s] := by simp; omega
      rw [f1, f2, List.append_nil]
      rw [tk_snoc k _ s (by simp only [List.length_cons] at *; omega) (fun x hx => hP x (List.mem_filter.mp hx).1) hs]
    · rw [if_neg (by omega), lR]
      have e0 := sg.2.1 (by omega)
      have n1 : ¬ stpr (sum2 ((p :: P).filter fun s => cr s (lead p P) == 0)) s = true := fun h => by have := (stpr_iff _ _).mp h; omega
      have n2 : ¬ stpr s (sum2 ((p :: P).filter fun s => cr s (lead p P) == 0)) = true := fun h => by
        have := (stpr_iff _ _).mp h
        have := cr_swap s (sum2 ((p :: P).filter fun s => cr s (lead p P) == 0))
        omega
      unfold insStep
      rw [if_neg n1, if_neg n2, List.filter_append, List.filter_append]
      have f1 : ([s].filter fun x => cr x (lead p P) == 0) = [s] := by simp [c]
      have f2 : ([s].filter fun x => cr x (lead p P) != 0) = [] := by simp [c]
      rw [f1, f2, List.append_nil]
      congr 1
      simp only [sum2, List.map_append, List.map_cons, List.map_nil]
      rw [sum_app, sum_app]
      simp
    · rw [if_pos c, lR]
      have lt0 := sg.2.2 (by omega)
      have n1 : ¬ stpr (sum2 ((p :: P).filter fun s => cr s (lead p P) == 0)) s = true := fun h => by have := (stpr_iff _ _).mp h; omega
      have n2 : stpr s (sum2 ((p :: P).filter fun s => cr s (lead p P) == 0)) = true := (stpr_iff _ _).mpr (by
        have := cr_swap s (sum2 ((p :: P).filter fun s => cr s (lead p P) == 0))
        omega)
      unfold insStep
      rw [if_neg n1, if_pos n2, ← lR]
      have all : ∀ x ∈ p :: P, cr x s ≠ 0 := fun x hx => by
        have a := mx x hx
        have := (cr_tr hs hd (hP x hx) (by omega) a).2 (.inl c)
        have := cr_swap s x
        omega
      have f1 : ((p :: P ++ [s]).filter fun x => cr x s == 0) = [s] := by
        rw [List.filter_append, List.filter_eq_nil_iff.mpr fun x hx => by simpa using all x hx]
        simp [cr_self]
      have f2 : ((p :: P ++ [s]).filter fun x => cr x s != 0) = p :: P := by
        rw [List.filter_append, List.filter_eq_self.mpr fun x hx => by simpa using all x hx]
        simp [cr_self]
      rw [f1, f2, tk_fuel k (k + 1) (p :: P) (by simp only [List.length_cons] at *; omega) (by simp only [List.length_cons] at *; omega)]
      congr 1
      simp [sum2]
/-- the steps of the signs that are ever seen -/
def seen (f : Nat → Nat → Int) (n : Nat) : List Pr2 := ((List.range n).map fun j => (f 0 j, f 1 j)).filter fun s => decide (0 < s.1 + s.2)
theorem seen_succ (f : Nat → Nat → Int) (n : Nat) : seen f (n + 1) = seen f n ++ (if 0 < f 0 n + f 1 n then [(f 0 n, f 1 n)] else []) := by
  unfold seen
  rw [List.range_succ, List.map_append, List.filter_append]
  congr 1
  by_cases c : 0 < f 0 n + f 1 n
  · simp [c]
  · simp [c]
theorem seen_len (f : Nat → Nat → Int) (n : Nat) : (seen f n).length ≤ n := by
  unfold seen
  have := List.length_filter_le (fun s : Pr2 => decide (0 < s.1 + s.2)) ((List.range n).map fun j => (f 0 j, f 1 j))
  rw [List.length_map, List.length_range] at this
  exact this
theorem seen_vec {m n : Nat} {a : Int} {f : Nat → Nat → Int} (G : GT m n a f) (m2 : 2 ≤ m) {k : Nat} (hk : k ≤ n) : ∀ p ∈ seen f k, Vec p := fun p hp => by
  obtain ⟨h, h2⟩ := List.mem_filter.mp hp
  obtain ⟨j, hj, rfl⟩ := List.mem_map.mp h
  have hj := List.mem_range.mp hj
  exact ⟨G.nn 0 (by omega) j (by omega), G.nn 1 (by omega) j (by omega), of_decide_eq_true h2⟩
/-- laid one by one, or taken out the steepest first: the same -/
theorem steps_eq {m n : Nat} {a : Int} {f : Nat → Nat → Int} (G : GT m n a f) (m2 : 2 ≤ m) {K : Nat} (hK : n + 1 ≤ K) : ∀ k, k ≤ n → stepsL f k = tk K (seen f k)
  | 0, _ => by
    cases K <;> rfl
  | k + 1, h => by
    have ih := steps_eq G m2 hK k (by omega)
    have n0 := G.nn 0 (by omega) k (by omega)
    have n1 := G.nn 1 (by omega) k (by omega)
    rw [stepsL_succ, seen_succ]
    unfold addStep
    by_cases c : (f 0 k, f 1 k) = ((0, 0) : Pr2)
    · have e0 : f 0 k = 0 := congrArg Prod.fst c
      have e1 : f 1 k = 0 := congrArg Prod.snd c
      rw [if_pos c, if_neg (by omega), List.append_nil, ih]
    · have p : 0 < f 0 k + f 1 k := by
        refine Int.not_le.mp fun z => c ?_
        rw [show f 0 k = 0 by omega, show f 1 k = 0 by omega]
      have := seen_len f k
      rw [if_neg c, if_pos p, ih, tk_snoc K (seen f k) _ (by omega) (seen_vec G m2 (by omega)) ⟨n0, n1, p⟩]
/-! ### the steps fall in steepness -/
theorem cr_addR (y z s : Pr2) : cr y (z.1 + s.1, z.2 + s.2) = cr y z + cr y s := by unfold cr; simp only; grind
theorem cr_addL (y s z : Pr2) : cr (y.1 + s.1, y.2 + s.2) z = cr y z + cr s z := by unfold cr; simp only; grind
theorem vec_add {y s : Pr2} (hy : Vec y) (hs : Vec s) : Vec (y.1 + s.1, y.2 + s.2) := by
  obtain ⟨a1, a2, a3⟩ := hy
  obtain ⟨b1, b2, b3⟩ := hs
  exact ⟨by show 0 ≤ y.1 + s.1; omega, by show 0 ≤ y.2 + s.2; omega, by show 0 < y.1 + s.1 + (y.2 + s.2); omega⟩
theorem ins_all {Q : Pr2 → Prop} {s : Pr2} (hs : Q s) : ∀ {L : List Pr2}, (∀ z ∈ L, Q z) → (∀ z ∈ L, Q (z.1 + s.1, z.2 + s.2)) → ∀ z ∈ insStep L s, Q z
  | [], _, _, z, hz => by
    simp [insStep] at hz
    rw [hz]; exact hs
  | y :: r, h, h2, z, hz => by
    unfold insStep at hz
    by_cases c : stpr y s = true
    · rw [if_pos c] at hz
      rcases List.mem_cons.mp hz with rfl | hz
      · exact h _ List.mem_cons_self
      · exact ins_all hs (fun z hz => h z (List.mem_cons_of_mem _ hz)) (fun z hz => h2 z (List.mem_cons_of_mem _ hz)) z hz
    · rw [if_neg c] at hz
      by_cases c2 : stpr s y = true
      · rw [if_pos c2] at hz
        rcases List.mem_cons.mp hz with rfl | hz
        · exact hs
        · exact h z hz
      · rw [if_neg c2] at hz
        rcases List.mem_cons.mp hz with rfl | hz
        · exact h2 y List.mem_cons_self
        · exact h z (List.mem_cons_of_mem _ hz)
theorem ins_vec {L : List Pr2} {s : Pr2} (hL : ∀ z ∈ L, Vec z) (hs : Vec s) : ∀ z ∈ insStep L s, Vec z := ins_all hs hL fun z hz => vec_add (hL z hz) hs
theorem ins_fall {s : Pr2} (hs : Vec s) : ∀ {L : List Pr2}, (∀ z ∈ L, Vec z) → L.Pairwise (fun a b => 0 < cr a b) → (insStep L s).Pairwise fun a b => 0 < cr a b
  | [], _, _ => by simp [insStep]
  | y :: r, hL, h => by
    rw [List.pairwise_cons] at h
    have hy := hL y List.mem_cons_self
    have hr := fun z hz => hL z (List.mem_cons_of_mem _ hz)
    have sw := cr_swap y s
    unfold insStep
    by_cases c : stpr y s = true
    · rw [if_pos c, List.pairwise_cons]
      have c := (stpr_iff _ _).mp c
      exact ⟨ins_all c h.1 fun z hz => by rw [cr_addR]; have := h.1 z hz; omega, ins_fall hs hr h.2⟩
    · rw [if_neg c]
      have c : ¬ 0 < cr y s := fun z => c ((stpr_iff y s).mpr z)
      by_cases c2 : stpr s y = true
      · rw [if_pos c2, List.pairwise_cons]
        have c2 := (stpr_iff _ _).mp c2
        refine ⟨fun z hz => ?_, List.pairwise_cons.mpr h⟩
        rcases List.mem_cons.mp hz with rfl | hz
        · exact c2
        · have := h.1 z hz
          exact (cr_tr hs hy (hr z hz) (by omega) (by omega)).2 (.inl c2)
      · rw [if_neg c2, List.pairwise_cons]
        refine ⟨fun z hz => ?_, h.2⟩
        have a := h.1 z hz
        have b := (cr_tr hs hy (hr z hz) (by omega) (by omega)).2 (.inr a)
        rw [cr_addL]; omega
theorem steps_fall {m n : Nat} {a : Int} {f : Nat → Nat → Int} (G : GT m n a f) (m2 : 2 ≤ m) : ∀ k, k ≤ n → (∀ z ∈ stepsL f k, Vec z) ∧ (stepsL f k).Pairwise fun a b => 0 < cr a b
  | 0, _ => ⟨fun z hz => (by cases hz), List.Pairwise.nil⟩
  | k + 1, h => by
    obtain ⟨ih1, ih2⟩ := steps_fall G m2 k (by omega)
    have n0 := G.nn 0 (by omega) k (by omega)
    have n1 := G.nn 1 (by omega) k (by omega)
    rw [stepsL_succ]
    unfold addStep
    by_cases c : (f 0 k, f 1 k) = ((0, 0) : Pr2)
    · rw [if_pos c]; exact ⟨ih1, ih2⟩
    · have p : 0 < f 0 k + f 1 k := by
        refine Int.not_le.mp fun z => c ?_
        rw [show f 0 k = 0 by omega, show f 1 k = 0 by omega]
      rw [if_neg c]
      exact ⟨ins_vec ih1 ⟨n0, n1, p⟩, ins_fall ⟨n0, n1, p⟩ ih1 ih2⟩
end Dg

set_option Elab.async false
set_option linter.all false
set_option maxHeartbeats 4000000
set_option maxRecDepth 100000
namespace Dg
open PySem L2
theorem lsteeper_spec {k l : Nat} {a b : Pr2} (h1 : Bp k a) (h2 : Bp l b) (hk : k ≤ 8000) (hl : l ≤ 8000) (c : Cs) : m_Lsteeper_c6160 [shD a, shD b] c = .ok (.v (.int (cr a b))) c := by
  have m1 := mulD_int (c := c) (okMul_of h1.2 h2.1 hk hl)
  have m2 := mulD_int (c := c) (okMul_of h2.2 h1.1 hl hk)
  have a0 : ixD c (shD a) (.int 0) = some (.int a.1) := rfl
  have a1 : ixD c (shD a) (.int 1) = some (.int a.2) := rfl
  have b0 : ixD c (shD b) (.int 0) = some (.int b.1) := rfl
  have b1 : ixD c (shD b) (.int 1) = some (.int b.2) := rfl
  unfold cr
  generalize shD a = A at *
  generalize shD b = B at *
  refine runB_wp ?_
  (unfold b_Lsteeper_c6160; simp only [en0, List.map_cons, List.map_nil, List.length_cons, List.length_nil, List.replicate, List.cons_append, List.nil_append])
  (apply wp_end; case h => (simp [a0, a1, b0, b1, m1, m2, subD]; first | done | rfl | exact ⟨rfl, rfl⟩ | (trace_state; fail)))
  exact ⟨rfl, rfl⟩
theorem wp_while {t : En → Cs → R Bool} {body g : MS} {c : Cs} {Q : Fl → Cs → Prop} (I : Nat → En → Prop) (J : En → Prop)
    (step : ∀ k e, I k e → (t e c = .ok false c ∧ J e) ∨ (t e c = .ok true c ∧ Wp body e c fun fl c2 => ∃ e2 j, fl = .nx e2 ∧ c2 = c ∧ j < k ∧ I j e2)) (k : ∀ e, J e → Wp g e c Q) : ∀ n e, I n e → Wp (sSeq (sWhile t body) g) e c Q := by
  have main : ∀ n, ∀ m, m ≤ n → ∀ e, I m e → ∃ e', sWhile t body e c = .ok (.nx e') c ∧ J e' := by
    intro n
    induction n with
    | zero =>
      intro m hm e hi
      rcases step m e hi with ⟨h1, h2⟩ | ⟨_, fl, c2, _, e2, j, _, _, hj, _⟩
      · exact ⟨e, while_f h1, h2⟩
      · omega
    | succ n ih =>
      intro m hm e hi
      rcases step m e hi with ⟨h1, h2⟩ | ⟨h1, fl, c2, hb, e2, j, rfl, rfl, hj, hi2⟩
      · exact ⟨e, while_f h1, h2⟩
      · obtain ⟨e', h3, h4⟩ := ih j (by omega) e2 hi2
        exact ⟨e', by rw [while_t h1 hb]; exact h3, h4⟩
  intro n e hi
  obtain ⟨e', h1, h2⟩ := main n n (Nat.le_refl _) e hi
  exact wp_seq h1 (k e' h2)
/-- a list of pairs, as a range -/
theorem pr_rng (P : List Pr2) : P.map shD = (List.range P.length).map fun k => shD (P.getD k (0, 0)) := by
  conv => lhs; rw [list_tab (0, 0) P]
  rw [List.map_map]; rfl
theorem getD_take_succ (P : List Pr2) {k : Nat} (h : k < P.length) : P.take (k + 1) = P.take k ++ [P.getD k (0, 0)] := by
  rw [List.take_succ_eq_append_getElem h, List.getD_eq_getElem?_getD, List.getElem?_eq_getElem h]; rfl
theorem lead_app : ∀ (P : List Pr2) (d s : Pr2), lead d (P ++ [s]) = if 0 < cr s (lead d P) then s else lead d P := lead_snoc
theorem lead_own (d : Pr2) (P : List Pr2) : lead d (d :: P) = lead d P := by
  show lead (if 0 < cr d d then d else d) P = _
  rw [cr_self]; rfl
theorem prs_none (c : Cs) (P : List Pr2) : neD c (.lst (P.map shD)) (.lst []) = some (.bl (!decide (P.length = 0))) := by
  have h2 : (D.lst (P.map shD)).nb 3 = true := by
    have : D.nbA (P.map shD) 2 = true := by
      have : ∀ P : List Pr2, D.nbA (P.map shD) 2 = true := fun P => by
        induction P with
        | nil => rfl
        | cons p P ih => show ((shD p).nb 2 && D.nbA (P.map shD) 2) = true; rw [ih]; rfl
      exact this P
    simp [this]
  have h0 : (D.lst []).nb 1 = true := by decide +kernel
  rw [neD_nb c h2 h0]
  cases P with
  | nil => rw [show (D.lst ((List.map shD ([] : List Pr2)))).is (D.lst []) = true from D.is_iff.mpr rfl]; rfl
  | cons x l => rw [show (D.lst ((x :: l).map shD)).is (D.lst []) = false from D.is_ne (fun h => by injection h with h; cases h)]; rfl
theorem lsteps_spec {n : Nat} {a : Int} {f : Nat → Nat → Int} (G : GT 2 n a f) {K : Nat} (ba : Bd K a) (hK : K ≤ 4000) (c : Cs) : m_Lsteps_35a56 [glD a (tab 2 n f)] c = .ok (.ol (prT (stepsL f n))) c := by
  have A1 := gl1 c a (tab 2 n f)
  have r0 : ixD c (rwT (tab 2 n f)) (.int 0) = some (rowT ((List.range n).map fun j => f 0 j)) := rw_at c (m := 2) (w := n) (f := f) (i := 0) (by omega)
  have r1 : ixD c (rwT (tab 2 n f)) (.int 1) = some (rowT ((List.range n).map fun j => f 1 j)) := rw_at c (m := 2) (w := n) (f := f) (i := 1) (by omega)
  have n12 := G.w12
  have l0 := row_len c n (f 0)
  have at0 : ∀ k, k < n → ixD c (rowT ((List.range n).map fun j => f 0 j)) (.int (k : Nat)) = some (.int (f 0 k)) := fun k hk => row_ix c hk
  have at1 : ∀ k, k < n → ixD c (rowT ((List.range n).map fun j => f 1 j)) (.int (k : Nat)) = some (.int (f 1 k)) := fun k hk => row_ix c hk
  have sv := seen_vec G (by omega) (Nat.le_refl n)
  have sb : ∀ p ∈ seen f n, Bp K p := fun p hp => by
    obtain ⟨h, _⟩ := List.mem_filter.mp hp
    obtain ⟨j, hj, rfl⟩ := List.mem_map.mp h
    have hj := List.mem_range.mp hj
    exact ⟨G.bd ba (by omega) hj, G.bd ba (by omega) hj⟩
  have slen := seen_len f n
  have se := steps_eq G (by omega) (K := n + 1) (Nat.le_refl _) n (Nat.le_refl _)
  generalize glD a (tab 2 n f) = A at *
  generalize rwT (tab 2 n f) = RW at *
  generalize rowT ((List.range n).map fun j => f 0 j) = R0 at *
  generalize rowT ((List.range n).map fun j => f 1 j) = R1 at *
  refine runB_wp ?_
  (unfold b_Lsteps_35a56; simp only [en0, List.map_cons, List.map_nil, List.length_cons, List.length_nil, List.replicate, List.cons_append, List.nil_append])
  (apply wp_seq; case h => (simp []; first | done | rfl | exact ⟨rfl, rfl⟩ | (trace_state; fail)))
  refine wp_for (fun k : Nat => .int k) n (fun k e c' => c' = c ∧ ∃ (x2 : Option T), e = [some (.v A), some (.ol (prT (seen f k))), x2, none, none, none, none]) (it_rng (by
    generalize prT (seen f 0) = V at *
    simp [A1, r0, l0]) (by omega)) ⟨rfl, none, rfl⟩ (fun k hk e c' he => ?_) fun e' c' he => ?_
  · obtain ⟨rfl, x2, rfl⟩ := he
    (refine ⟨_, rfl, ?_⟩; simp only [List.set_cons_succ, List.set_cons_zero])
    have q0 := at0 k hk
    have q1 := at1 k hk
    have lV : (prT (seen f k)).length < LIM := by
      have := seen_len f k
      unfold prT; rw [List.length_map]; show _ < 1000000; omega
    rw [seen_succ]
    by_cases p : 0 < f 0 k + f 1 k
    · rw [if_pos p]
      have e1 : prT (seen f k ++ [(f 0 k, f 1 k)]) = prT (seen f k) ++ [T.v (.tup [.int (f 0 k), .int (f 1 k)])] := by unfold prT; rw [List.map_append]; rfl
      rw [e1]
      refine wp_end (fl := .nx [some (.v A), some (.ol (prT (seen f k) ++ [T.v (.tup [.int (f 0 k), .int (f 1 k)])])), some (.v (.int (k : Nat))), none, none, none, none]) (c' := c') ?_ ⟨_, rfl, rfl, _, rfl⟩
      generalize prT (seen f k) = V at *
      simp [A1, r0, r1, q0, q1, addD, p, lV, partsV]
    · rw [if_neg p, List.append_nil]
      refine wp_end (fl := .nx [some (.v A), some (.ol (prT (seen f k))), some (.v (.int (k : Nat))), none, none, none, none]) (c' := c') ?_ ⟨_, rfl, rfl, _, rfl⟩
      generalize prT (seen f k) = V at *
      simp [A1, r0, r1, q0, q1, addD, p]
  obtain ⟨rfl, x2, rfl⟩ := he
  rw [se]
  generalize seen f n = P0 at *
  (apply wp_seq; case h => (simp []; first | done | rfl | exact ⟨rfl, rfl⟩ | (trace_state; fail)))
  refine wp_while (c := c') (fun k e => ∃ (P R : List Pr2) (x4 x5 x6 : Option D), P.length ≤ k ∧ P.length ≤ n ∧ R.length + P.length ≤ n ∧ (∀ p ∈ P, Vec p) ∧ (∀ p ∈ P, Bp K p) ∧ R ++ tk n P = tk (n + 1) P0 ∧ e = [some (.v A), some (.ol (prT P)), x2, some (.ol (prT R)), x4.map T.v, x5.map T.v, x6.map T.v])
    (fun e => ∃ (x1 : Option T) (x4 x5 x6 : Option D), e = [some (.v A), x1, x2, some (.ol (prT (tk (n + 1) P0))), x4.map T.v, x5.map T.v, x6.map T.v]) (fun k e he => ?_) (fun e he => ?_) P0.length _ ⟨P0, [], none, none, none, Nat.le_refl _, slen, by simpa using slen, sv, sb, by rw [tk_fuel n (n + 1) P0 slen (by omega)]; rfl, rfl⟩
  · obtain ⟨P, R, x4, x5, x6, k1, k2, k3, v1, v2, eq, rfl⟩ := he
    have hd := prT_d P
    have nn := prs_none c' P
    cases P with
    | nil =>
      left
      refine ⟨?_, ⟨some (.ol (prT [])), x4, x5, x6, ?_⟩⟩
      · generalize T.ol (prT ([] : List Pr2)) = W at *
        have hd : W.d = .lst [] := hd
        have nn : neD c' (.lst []) (.lst []) = some (.bl false) := nn
        generalize T.ol (prT R) = W3 at *
        simp [hd, nn]
      · rw [← eq]
        have : tk n [] = [] := by cases n <;> rfl
        rw [this, List.append_nil]
    | cons p P =>
      right
      have pm : p ∈ p :: P := List.mem_cons_self
      have fp : (shD p).flat = true := rfl
      have pv := v1 p List.mem_cons_self
      have hp0 : ixD c' (.lst ((p :: P).map shD)) (.int 0) = some (shD p) := by simp only [ixD]; exact atI_nat (j := 0) rfl
      have nz : decide ((p :: P).length = 0) = false := decide_eq_false (by simp)
      rw [nz] at nn
      have lo := lead_own p P
      have lm := lead_mem P p
      have lt := rest_lt p P
      obtain ⟨n', rfl⟩ : ∃ n', n = n' + 1 := ⟨n - 1, by simp at k2; omega⟩
      have tke : tk (n' + 1) (p :: P) = sum2 ((p :: P).filter fun s => cr s (lead p P) == 0) :: tk n' ((p :: P).filter fun s => cr s (lead p P) != 0) := rfl
      generalize hPq : p :: P = Pq at *
      have lB : Bp K (lead p P) := v2 _ lm
      have pB : Bp K p := v2 p pm
      have hit : ∀ e : En, e[1]? = some (some (.v (.lst (Pq.map shD)))) → itSeq (oVar 1) e c' = .ok (Pq.map shD) c' := fun e he => by simp [he]
      have hl : Pq.length < 1000 := by omega
      refine ⟨by
        generalize T.ol (prT Pq) = W at *
        generalize Pq.map shD = E at *
        generalize T.ol (prT R) = W3 at *
        simp [hd, nn], ?_⟩
      refine wp_seq (e' := [some (.v A), some (.ol (prT Pq)), x2, some (.ol (prT R)), some (.v (shD p)), x5.map T.v, x6.map T.v]) (c' := c') (by
        generalize T.ol (prT Pq) = W at *
        generalize Pq.map shD = E at *
        generalize T.ol (prT R) = W3 at *
        generalize shD p = pD at *
        simp [hd, hp0, fp]) ?_
      refine wp_frz rfl hd ?_
      simp only [List.set_cons_succ, List.set_cons_zero]
      refine wp_for (fun k => shD (Pq.getD k (0, 0))) Pq.length (fun k e c2 => c2 = c' ∧ ∃ (x5 : Option D), e = [some (.v A), some (.v (.lst (Pq.map shD))), x2, some (.ol (prT R)), some (.v (shD (lead p (Pq.take k)))), x5.map T.v, x6.map T.v]) (by
        rw [← pr_rng]; exact hit _ rfl) ⟨rfl, x5, rfl⟩ (fun j hj e c2 he => ?_) fun e' c2 he => ?_
      · obtain ⟨rfl, x5, rfl⟩ := he
        (refine ⟨_, rfl, ?_⟩; simp only [List.set_cons_succ, List.set_cons_zero])
        rw [getD_take_succ Pq hj, lead_app]
        have sB : Bp K (Pq.getD j (0, 0)) := v2 _ (by rw [List.getD_eq_getElem?_getD, List.getElem?_eq_getElem hj]; exact List.getElem_mem _)
        have tB : Bp K (lead p (Pq.take j)) := by
          rcases List.mem_cons.mp (lead_mem (Pq.take j) p) with h | h
          · rw [h]; exact pB
          · exact v2 _ (List.mem_of_mem_take h)
        have st := lsteeper_spec sB tB (by omega) (by omega) c2
        generalize Pq.getD j (0, 0) = s at *
        generalize lead p (Pq.take j) = d at *
        by_cases q : 0 < cr s d
        · rw [if_pos q]
          refine wp_end (fl := .nx [some (.v A), some (.v (.lst (Pq.map shD))), x2, some (.ol (prT R)), some (.v (shD s)), some (.v (shD s)), x6.map T.v]) (c' := c2) ?_ ⟨_, rfl, rfl, some (shD s), rfl⟩
          generalize shD s = sD at *
          generalize shD d = dD at *
          generalize Pq.map shD = E at *
          generalize T.ol (prT R) = W3 at *
          simp [st, q]
        · rw [if_neg q]
          refine wp_end (fl := .nx [some (.v A), some (.v (.lst (Pq.map shD))), x2, some (.ol (prT R)), some (.v (shD d)), some (.v (shD s)), x6.map T.v]) (c' := c2) ?_ ⟨_, rfl, rfl, some (shD s), rfl⟩
          generalize shD s = sD at *
          generalize shD d = dD at *
          generalize Pq.map shD = E at *
          generalize T.ol (prT R) = W3 at *
          simp [st, q]
      obtain ⟨rfl, y5, rfl⟩ := he
      rw [List.take_of_length_le (Nat.le_refl _), lo]
      generalize lead p P = d at *
      refine wp_frz (t := .v (.lst (Pq.map shD))) (d := .lst (Pq.map shD)) rfl rfl ?_
      simp only [List.set_cons_succ, List.set_cons_zero]
      have fltE := fun (z6 : Option T) (V : List T) => comp_filt (vs := [5]) (tg := tgN 5) (it := itSeq (oVar 1)) (t := (toT (op2 eqD (callP m_Lsteeper_c6160 [(mVar 5), (mVar 4)]) (mC (.int 0))))) (f := oVar 5) (e := [some (.v A), some (.v (.lst (Pq.map shD))), x2, some (.ol V), some (.v (shD d)), y5.map T.v, z6]) (c := c2) shD (fun s => cr s d == 0) (fun s => T.v (shD s)) Pq (hit _ rfl) (by omega) (fun s hs => ⟨_, rfl, by
        have st := lsteeper_spec (v2 s hs) lB (by omega) (by omega) c2
        generalize shD s = sD at *
        generalize shD d = dD at *
        generalize Pq.map shD = E at *
        simp [st, bne], fun _ => by simp⟩)
      have fltN := fun (z6 : Option T) (V : List T) => comp_filt (vs := [5]) (tg := tgN 5) (it := itSeq (oVar 1)) (t := (toT (op2 neD (callP m_Lsteeper_c6160 [(mVar 5), (mVar 4)]) (mC (.int 0))))) (f := oVar 5) (e := [some (.v A), some (.v (.lst (Pq.map shD))), x2, some (.ol V), some (.v (shD d)), y5.map T.v, z6]) (c := c2) shD (fun s => cr s d != 0) (fun s => T.v (shD s)) Pq (hit _ rfl) (by omega) (fun s hs => ⟨_, rfl, by
        have st := lsteeper_spec (v2 s hs) lB (by omega) (by omega) c2
        generalize shD s = sD at *
        generalize shD d = dD at *
        generalize Pq.map shD = E at *
        simp [st, bne], fun _ => by simp⟩)
      have gd : (T.ol ((Pq.filter fun s => cr s d == 0).map fun s => T.v (shD s))).d = .lst ((Pq.filter fun s => cr s d == 0).map shD) := by
        show D.lst (T.dA _) = _
        rw [dA_mapf]; rfl
      generalize hG : (Pq.filter fun s => cr s d == 0) = Gq at *
      have gl : Gq.length ≤ Pq.length := by rw [← hG]; exact List.length_filter_le _ _
      refine wp_seq (e' := [some (.v A), some (.v (.lst (Pq.map shD))), x2, some (.ol (prT R)), some (.v (shD d)), y5.map T.v, some (.v (.lst (Gq.map shD)))]) (c' := c2) (by
        have q := fltE (x6.map T.v) (prT R)
        generalize T.ol (Gq.map fun s => T.v (shD s)) = W at *
        simp only [sSet, oF, q, Dg.R.bind, Dg.R.toS, gd]; rfl) ?_
      have sums : ∀ (g : Pr2 → Int) (z : Int), (∀ s, ixD c2 (shD s) (.int z) = some (.int (g s))) → ∀ (z1 z3 : T), opA sumD [pO (oComp [5] (itSeq (oVar 6)) (tgN 5) tY (oIx (oVar 5) (mC (.int z))))] [some (.v A), some z1, x2, some z3, some (.v (shD d)), y5.map T.v, some (.v (.lst (Gq.map shD)))] c2 = .ok (.int (Gq.map g).sum) c2 := fun g z hg z1 z3 => by
        have cm := comp_list (vs := [5]) (tg := tgN 5) (it := itSeq (oVar 6)) (f := oIx (oVar 5) (mC (.int z))) (c := c2) (e := [some (.v A), some z1, x2, some z3, some (.v (shD d)), y5.map T.v, some (.v (.lst (Gq.map shD)))]) shD (fun s => T.v (.int (g s))) Gq (by simp) (by omega) (fun s hs => ⟨_, rfl, by
          have q := hg s
          generalize shD s = sD at *
          simp [q]⟩)
        have dd : T.dA (Gq.map fun s => T.v (.int (g s))) = (Gq.map g).map .int := by rw [dA_mapf, List.map_map]; rfl
        have sm : sumD c2 [.lst ((Gq.map g).map .int)] = some (.int (Gq.map g).sum) := by
          generalize Gq.map g = l
          simp [sumD, liI, intsD_map]
        generalize (oComp [5] (itSeq (oVar 6)) (tgN 5) tY (oIx (oVar 5) (mC (.int z)))) = Y at *
        generalize (Gq.map fun s => T.v (.int (g s))) = W at *
        generalize (Gq.map g).map D.int = W2 at *
        simp only [opA, evA, pO, cm, Dg.R.bind, T.d, dd, Dg.R.of, sm]
      have sa := sums Prod.fst 0 (fun s => rfl) (.v (.lst (Pq.map shD))) (.ol (prT R))
      have sb' := sums Prod.snd 1 (fun s => rfl) (.v (.lst (Pq.map shD))) (.ol (prT R))
      have lV : (prT R).length < LIM := by unfold prT; rw [List.length_map]; show _ < 1000000; omega
      refine wp_seq (e' := [some (.v A), some (.v (.lst (Pq.map shD))), x2, some (.ol (prT (R ++ [sum2 Gq]))), some (.v (shD d)), y5.map T.v, some (.v (.lst (Gq.map shD)))]) (c' := c2) (by
        have e1 : prT (R ++ [sum2 Gq]) = prT R ++ [T.v (.tup [.int (Gq.map Prod.fst).sum, .int (Gq.map Prod.snd).sum])] := by unfold prT; rw [List.map_append]; rfl
        rw [e1]
        generalize opA sumD [pO (oComp [5] (itSeq (oVar 6)) (tgN 5) tY (oIx (oVar 5) (mC (.int 0))))] = Y1 at *
        generalize opA sumD [pO (oComp [5] (itSeq (oVar 6)) (tgN 5) tY (oIx (oVar 5) (mC (.int 1))))] = Y2 at *
        generalize prT R = V at *
        generalize Pq.map shD = E at *
        generalize Gq.map shD = E2 at *
        simp [sa, sb', lV, partsV]) ?_
      refine wp_frzE (t := .v (.lst (Pq.map shD))) (d := .lst (Pq.map shD)) rfl rfl ?_
      simp only [List.set_cons_succ, List.set_cons_zero]
      have q := fltN (some (.v (.lst (Gq.map shD)))) (prT (R ++ [sum2 Gq]))
      refine wp_end (fl := .nx [some (.v A), some (.ol (prT (Pq.filter fun s => cr s d != 0))), x2, some (.ol (prT (R ++ [sum2 Gq]))), some (.v (shD d)), y5.map T.v, some (.v (.lst (Gq.map shD)))]) (c' := c2) (by
        simp only [sSet, q, Dg.R.toS]; rfl) ⟨_, (Pq.filter fun s => cr s d != 0).length, rfl, rfl, by omega, _, _, some (shD d), y5, some (.lst (Gq.map shD)), Nat.le_refl _, by omega, by simp; omega, fun x hx => v1 x (List.mem_filter.mp hx).1, fun x hx => v2 x (List.mem_filter.mp hx).1, ?_, rfl⟩
      rw [← eq, tke, tk_fuel (n' + 1) n' _ (by omega) (by omega)]
      simp
  · obtain ⟨x1, x4, x5, x6, rfl⟩ := he
    refine wp_end (fl := .rt (.ol (prT (tk (n + 1) P0)))) (c' := c') (by simp) ⟨rfl, rfl⟩
/-- the law's corners -/
def cns (L : List Pr2) (k : Nat) : List Pr2 := (List.range k).map fun j => (px L j, py L j)
theorem lcorners_spec {n : Nat} {a : Int} {f : Nat → Nat → Int} (G : GT 2 n a f) {K : Nat} (ba : Bd K a) (hK : K ≤ 4000) (c : Cs) : m_Lcorners_3a844 [glD a (tab 2 n f)] c = .ok (.ol (prT (cns (stepsL f n) ((stepsL f n).length + 1)))) c := by
  have so := lsteps_spec G ba hK c
  obtain ⟨_, sl⟩ := stepsL_ok G (by omega) n (Nat.le_refl _)
  have n12 := G.w12
  have cl := prT_clean (stepsL f n)
  have hd := prT_d (stepsL f n)
  generalize stepsL f n = L at *
  generalize glD a (tab 2 n f) = A at *
  refine runB_wp ?_
  (unfold b_Lcorners_3a844; simp only [en0, List.map_cons, List.map_nil, List.length_cons, List.length_nil, List.replicate, List.cons_append, List.nil_append])
  (apply wp_seq; case h => (simp []; first | done | rfl | exact ⟨rfl, rfl⟩ | (trace_state; fail)))
  (apply wp_seq; case h => (simp []; first | done | rfl | exact ⟨rfl, rfl⟩ | (trace_state; fail)))
  refine wp_seq (e' := [some (.v A), some (.v (.int (px L 0))), some (.v (.int (py L 0))), some (.ol (prT (cns L 1))), none]) (c' := c) (by simp [partsV]; exact ⟨rfl, rfl, rfl⟩) ?_
  refine wp_for (fun k => shD (L.getD k (0, 0))) L.length (fun k e c' => c' = c ∧ ∃ (x4 : Option T), e = [some (.v A), some (.v (.int (px L k))), some (.v (.int (py L k))), some (.ol (prT (cns L (k + 1)))), x4]) (by
    rw [← pr_rng]
    generalize prT (cns L 1) = V at *
    generalize L.map shD = E at *
    generalize prT L = P at *
    have hd : T.dA P = E := D.lst.inj hd
    simp [so, cl, hd]) ⟨rfl, none, rfl⟩ (fun k hk e c' he => ?_) fun e' c' he => ?_
  · obtain ⟨rfl, x4, rfl⟩ := he
    (refine ⟨_, rfl, ?_⟩; simp only [List.set_cons_succ, List.set_cons_zero])
    have next : prT (cns L (k + 1 + 1)) = prT (cns L (k + 1)) ++ [T.v (.tup [.int (px L (k + 1)), .int (py L (k + 1))])] := by
      unfold cns prT
      rw [List.range_succ (n := k + 1), List.map_append, List.map_append]; rfl
    rw [next]
    rw [px_succ hk, py_succ hk]
    generalize L.getD k (0, 0) = s at *
    have s0 : ixD c' (shD s) (.int 0) = some (.int s.1) := rfl
    have s1 : ixD c' (shD s) (.int 1) = some (.int s.2) := rfl
    have lV : (prT (cns L (k + 1))).length < LIM := by unfold prT cns; simp; show k + 1 < 1000000; omega
    generalize hX : px L k + s.1 = X at *
    generalize hY : py L k + s.2 = Y at *
    generalize shD s = S at *
    generalize prT (cns L (k + 1)) = V at *
    refine wp_seq (e' := [some (.v A), some (.v (.int X)), some (.v (.int (py L k))), some (.ol V), some (.v S)]) (c' := c') (by simp [s0, addD, hX]) ?_
    refine wp_seq (e' := [some (.v A), some (.v (.int X)), some (.v (.int Y)), some (.ol V), some (.v S)]) (c' := c') (by simp [s1, addD, hY]) ?_
    refine wp_end (fl := .nx [some (.v A), some (.v (.int X)), some (.v (.int Y)), some (.ol (V ++ [T.v (.tup [.int X, .int Y])])), some (.v S)]) (c' := c') (by simp [lV, partsV]) ⟨_, rfl, rfl, _, rfl⟩
  obtain ⟨rfl, x4, rfl⟩ := he
  refine wp_end (fl := .rt (.ol (prT (cns L (L.length + 1))))) (c' := c') (by simp) ⟨rfl, rfl⟩
end Dg

set_option Elab.async false
set_option linter.all false
set_option maxHeartbeats 4000000
set_option maxRecDepth 100000
namespace Dg
open PySem L2
/-- the last one of which something is so -/
def lastK (p : Nat → Bool) : Nat → Nat
  | 0 => 0
  | k + 1 => if p k then k else lastK p k
theorem crn_at {L : List Pr2} {a : Int} {N k : Nat} (h : k < N) (c : Cs) : ixD c (.lst ((List.range N).map fun j => cnD (crn L a j))) (.int (k : Nat)) = some (cnD (crn L a k)) := by
  simp only [ixD]
  exact atI_rng (f := fun j => cnD (crn L a j)) h
/-- a share turned about -/
theorem shr_flip {A B : Int} (hA : 0 < A) (hB : 0 < B) : shr (shr A B).2 (shr A B).1 = shr B A := by
  have c := shr_cross (a := A) (b := B) (by omega)
  have p := shr_pos (a := A) (b := B) (by omega)
  have n : (shr A B).1 ≠ 0 := fun e => by
    rw [e] at c
    have := Int.mul_pos hA (show 0 < (shr A B).2 by omega)
    omega
  refine (shr_eq n (by omega)).mpr ?_
  generalize (shr A B).1 = x at *
  generalize (shr A B).2 = y at *
  grind
theorem shD_int' (x : Int) : D.tup [.int x, .int 1] = shD (shr x 1) := by
  rw [shr_self (by omega) (by simp)]; rfl
theorem crnT_clean (L : List Pr2) (a : Int) (N : Nat) : T.cleanA (crnT L a N) = true := by
  unfold crnT
  have : ∀ l : List Nat, T.cleanA (l.map fun j => T.v (cnD (crn L a j))) = true := fun l => by
    induction l with
    | nil => rfl
    | cons x l ih => show (T.clean (.v (cnD (crn L a x))) && T.cleanA (l.map fun j => T.v (cnD (crn L a j)))) = true; rw [ih]; rfl
  exact this _
theorem crnT_d (L : List Pr2) (a : Int) (N : Nat) : (T.ol (crnT L a N)).d = .lst ((List.range N).map fun j => cnD (crn L a j)) := by
  show D.lst (T.dA _) = _
  unfold crnT
  rw [dA_mapf]; rfl
end Dg

set_option Elab.async false
set_option linter.all false
set_option maxHeartbeats 4000000
set_option maxRecDepth 100000
namespace Dg
open PySem L2
theorem lastK_of (p : Nat → Bool) (h0 : p 0 = true) : ∀ N, 0 < N → lastK p N < N ∧ p (lastK p N) = true ∧ ∀ j, lastK p N < j → j < N → p j = false
  | N + 1, _ => by
    by_cases c : p N = true
    · have e : lastK p (N + 1) = N := by show (if p N then N else _) = N; rw [if_pos c]
      rw [e]
      exact ⟨by omega, c, fun j h1 h2 => by omega⟩
    · have e : lastK p (N + 1) = lastK p N := by show (if p N then N else _) = _; rw [if_neg c]
      rw [e]
      have hN : 0 < N := by
        cases N with
        | zero => exact absurd h0 c
        | succ n => omega
      obtain ⟨a, b, d⟩ := lastK_of p h0 N hN
      refine ⟨by omega, b, fun j h1 h2 => ?_⟩
      by_cases e2 : j = N
      · subst e2; simpa using c
      · exact d j h1 (by omega)
theorem px_zero (L : List Pr2) : px L 0 = 0 := rfl
theorem px_bds {L : List Pr2} {x y : Int} (h : StOk L x y) (k : Nat) : 0 ≤ px L k ∧ px L k ≤ x ∧ 0 ≤ py L k ∧ py L k ≤ y := by
  have nn : ∀ l : List Int, (∀ z ∈ l, 0 ≤ z) → 0 ≤ l.sum := fun l => by
    induction l with
    | nil => intro _; exact Int.le_refl _
    | cons b l ih =>
      intro h
      have := ih fun x hx => h x (List.mem_cons_of_mem _ hx)
      have := h b List.mem_cons_self
      rw [List.sum_cons]; omega
  have e1 : x = px L k + ((L.drop k).map Prod.fst).sum := by
    rw [← h.s1]
    conv => lhs; rw [← List.take_append_drop k L]
    rw [List.map_append, sum_app]; rfl
  have e2 : y = py L k + ((L.drop k).map Prod.snd).sum := by
    rw [← h.s2]
    conv => lhs; rw [← List.take_append_drop k L]
    rw [List.map_append, sum_app]; rfl
  have a1 := nn ((L.take k).map Prod.fst) fun z hz => by obtain ⟨q, hq, rfl⟩ := List.mem_map.mp hz; exact (h.nn q (List.mem_of_mem_take hq)).1
  have a2 := nn ((L.drop k).map Prod.fst) fun z hz => by obtain ⟨q, hq, rfl⟩ := List.mem_map.mp hz; exact (h.nn q (List.mem_of_mem_drop hq)).1
  have b1 := nn ((L.take k).map Prod.snd) fun z hz => by obtain ⟨q, hq, rfl⟩ := List.mem_map.mp hz; exact (h.nn q (List.mem_of_mem_take hq)).2
  have b2 := nn ((L.drop k).map Prod.snd) fun z hz => by obtain ⟨q, hq, rfl⟩ := List.mem_map.mp hz; exact (h.nn q (List.mem_of_mem_drop hq)).2
  exact ⟨a1, by omega, b1, by omega⟩
/-- the number of the corner ahead of a share -/
def kAt (L : List Pr2) (a t u : Int) : Nat := lastK (fun k => decide (px L k * u ≤ t * a)) (L.length + 1)
/-- the height at a share: top and bottom -/
def hgt (L : List Pr2) (a t u : Int) : Int × Int :=
  let k := kAt L a t u
  if k = L.length then (py L k, a) else
    let V := (t * a - px L k * u) * (a * a) * (py L (k + 1) * a - py L k * a)
    let W := u * a * (px L (k + 1) * a - px L k * a) * (a * a)
    (py L k * W + V * a, a * W)
end Dg

set_option Elab.async false
set_option linter.all false
set_option maxHeartbeats 4000000
set_option maxRecDepth 100000
namespace Dg
open PySem L2
/-! ### lines above a curve -/
/-- a line through a corner that no corner lies above -/
def Sup (L : List Pr2) (k : Nat) (dx dy : Int) : Prop := ∀ j, j ≤ L.length → py L j * dx ≤ py L k * dx + (px L j - px L k) * dy
theorem sup_walk {L : List Pr2} {k : Nat} {dx dy : Int} (hk : k ≤ L.length) (h1 : ∀ j, j < k → dy * (L.getD j (0, 0)).1 ≤ (L.getD j (0, 0)).2 * dx)
    (h2 : ∀ j, j < L.length → k ≤ j → (L.getD j (0, 0)).2 * dx ≤ dy * (L.getD j (0, 0)).1) : Sup L k dx dy := by
  intro j hj
  rcases Nat.le_total k j with h | h
  · obtain ⟨d, rfl⟩ : ∃ d, j = k + d := ⟨j - k, by omega⟩
    clear h
    induction d with
    | zero => simp
    | succ d ih =>
      have ih := ih (by omega)
      have s1 := px_succ (L := L) (k := k + d) (by omega)
      have s2 := py_succ (L := L) (k := k + d) (by omega)
      have q := h2 (k + d) (by omega) (by omega)
      rw [← Nat.add_assoc, s1, s2]
      generalize L.getD (k + d) (0, 0) = s at *
      rw [Int.add_mul, show px L (k + d) + s.1 - px L k = (px L (k + d) - px L k) + s.1 by omega, Int.add_mul (px L (k + d) - px L k), Int.mul_comm s.1 dy]
      omega
  · obtain ⟨d, hd⟩ : ∃ d, k = j + d := ⟨k - j, by omega⟩
    clear h
    induction d generalizing j with
    | zero => subst hd; simp
    | succ d ih =>
      have ih := ih (j + 1) (by omega) (by omega)
      have s1 := px_succ (L := L) (k := j) (by omega)
      have s2 := py_succ (L := L) (k := j) (by omega)
      have q := h1 j (by omega)
      rw [s1, s2] at ih
      generalize L.getD j (0, 0) = s at *
      rw [Int.add_mul, show px L j + s.1 - px L k = (px L j - px L k) + s.1 by omega, Int.add_mul (px L j - px L k), Int.mul_comm s.1 dy] at ih
      omega
theorem cr_at {L : List Pr2} (hp : L.Pairwise fun a b => 0 < cr a b) {i j : Nat} (h : i < j) (hj : j < L.length) : 0 < cr (L.getD i (0, 0)) (L.getD j (0, 0)) := by
  have := List.pairwise_iff_getElem.mp hp i j (by omega) hj h
  rw [List.getD_eq_getElem?_getD, List.getD_eq_getElem?_getD, List.getElem?_eq_getElem hj, List.getElem?_eq_getElem (show i < L.length by omega)]
  exact this
theorem vec_at {L : List Pr2} (hv : ∀ z ∈ L, Vec z) {j : Nat} (hj : j < L.length) : Vec (L.getD j (0, 0)) := by
  rw [List.getD_eq_getElem?_getD, List.getElem?_eq_getElem hj]
  exact hv _ (List.getElem_mem _)
/-- the line of a step -/
theorem sup_step {L : List Pr2} (hp : L.Pairwise fun a b => 0 < cr a b) {k : Nat} (hk : k < L.length) : Sup L k (L.getD k (0, 0)).1 (L.getD k (0, 0)).2 := by
  refine sup_walk (by omega) (fun j hj => ?_) fun j hj h => ?_
  · have := cr_at hp hj hk
    unfold cr at this
    omega
  · rcases Nat.lt_or_eq_of_le h with h | h
    · have := cr_at hp h hj
      unfold cr at this
      rw [Int.mul_comm (L.getD k (0, 0)).2]
      rw [Int.mul_comm (L.getD k (0, 0)).2] at this
      omega
    · subst h
      rw [Int.mul_comm]; exact Int.le_refl _
/-- the flat line at the end -/
theorem sup_end {L : List Pr2} (hv : ∀ z ∈ L, Vec z) : Sup L L.length 1 0 := by
  refine sup_walk (Nat.le_refl _) (fun j hj => ?_) fun j hj h => by omega
  have := (vec_at hv hj).2.1
  omega
/-- what a line between two corners is worth at a share -/
def cand (L : List Pr2) (a t u : Int) (i j : Nat) : Int × Int :=
  if 0 < (px L j - px L i) * u then (py L i * ((px L j - px L i) * u) + (py L j - py L i) * (t * a - px L i * u), (px L j - px L i) * u) else (py L j, 1)
theorem cand_pos (L : List Pr2) (a t u : Int) (i j : Nat) : 0 < (cand L a t u i j).2 := by
  unfold cand
  split
  · assumption
  · exact Int.one_pos
theorem cand_le {L : List Pr2} {a t u : Int} {k i j : Nat} {dx dy : Int} (S : Sup L k dx dy) (u0 : 0 < u) (hi : i ≤ L.length) (hj : j ≤ L.length)
    (h1 : 0 ≤ t * a - px L i * u) (h2 : t * a - px L i * u ≤ (px L j - px L i) * u) :
    (cand L a t u i j).1 * (dx * u) ≤ (py L k * dx * u + dy * (t * a - px L k * u)) * (cand L a t u i j).2 := by
  have si := S i hi
  have sj := S j hj
  unfold cand
  generalize px L i = xi at *
  generalize px L j = xj at *
  generalize px L k = xk at *
  generalize py L i = yi at *
  generalize py L j = yj at *
  generalize py L k = yk at *
  generalize t * a = T at *
  split
  · show (yi * ((xj - xi) * u) + (yj - yi) * (T - xi * u)) * (dx * u) ≤ (yk * dx * u + dy * (T - xk * u)) * ((xj - xi) * u)
    have p := Int.mul_le_mul_of_nonneg_right si (show 0 ≤ (xj - xi) * u - (T - xi * u) by omega)
    have q := Int.mul_le_mul_of_nonneg_right sj h1
    have r := Int.mul_le_mul_of_nonneg_right (Int.add_le_add p q) (show 0 ≤ u by omega)
    have e1 : (yi * ((xj - xi) * u) + (yj - yi) * (T - xi * u)) * (dx * u) = (yi * dx * ((xj - xi) * u - (T - xi * u)) + yj * dx * (T - xi * u)) * u := by grind
    have e2 : (yk * dx * u + dy * (T - xk * u)) * ((xj - xi) * u) = ((yk * dx + (xi - xk) * dy) * ((xj - xi) * u - (T - xi * u)) + (yk * dx + (xj - xk) * dy) * (T - xi * u)) * u := by grind
    rw [e1, e2]
    exact r
  · rename_i c
    show yj * (dx * u) ≤ (yk * dx * u + dy * (T - xk * u)) * 1
    have z : T - xi * u = 0 := by omega
    have z2 : (xj - xi) * u = 0 := by omega
    have z3 : xj = xi := by
      rcases Int.mul_eq_zero.mp z2 with h | h
      · omega
      · omega
    subst z3
    have r := Int.mul_le_mul_of_nonneg_right sj (show 0 ≤ u by omega)
    have e1 : yj * (dx * u) = yj * dx * u := by grind
    have e2 : (yk * dx * u + dy * (T - xk * u)) * 1 = (yk * dx + (xj - xk) * dy) * u := by grind
    rw [e1, e2]; exact r
/-- the curve's height is that of a line above it, and of a line between two corners -/
theorem hgt_sup {L : List Pr2} {a t u : Int} (so : StOk L a a) (hv : ∀ z ∈ L, Vec z) (hp : L.Pairwise fun a b => 0 < cr a b) (a0 : 0 < a) (u0 : 0 < u) (t0 : 0 ≤ t) (tu : t ≤ u) :
    ∃ dx dy : Int, ∃ j : Nat, 0 < dx ∧ Sup L (kAt L a t u) dx dy ∧ kAt L a t u ≤ j ∧ j ≤ L.length ∧ 0 ≤ t * a - px L (kAt L a t u) * u ∧ t * a - px L (kAt L a t u) * u ≤ (px L j - px L (kAt L a t u)) * u
      ∧ (cand L a t u (kAt L a t u) j).1 * (dx * u) = (py L (kAt L a t u) * dx * u + dy * (t * a - px L (kAt L a t u) * u)) * (cand L a t u (kAt L a t u) j).2
      ∧ 0 ≤ py L (kAt L a t u) * dx * u + dy * (t * a - px L (kAt L a t u) * u)
      ∧ 0 < (hgt L a t u).2 ∧ (hgt L a t u).1 * (dx * u * a) = (py L (kAt L a t u) * dx * u + dy * (t * a - px L (kAt L a t u) * u)) * (hgt L a t u).2 := by
  obtain ⟨kN, kp, kj⟩ := lastK_of (fun k => decide (px L k * u ≤ t * a)) (by
    rw [px_zero]
    exact decide_eq_true (by have := Int.mul_nonneg t0 (show 0 ≤ a by omega); omega)) (L.length + 1) (by omega)
  have kp := of_decide_eq_true kp
  have bds := fun k => px_bds so k
  unfold hgt
  have ek : kAt L a t u = lastK (fun k => decide (px L k * u ≤ t * a)) (L.length + 1) := rfl
  rw [← ek] at kN kp kj
  generalize kAt L a t u = k at *
  clear ek
  have T0 : 0 ≤ t * a - px L k * u := by omega
  by_cases e : k = L.length
  · have xl : px L L.length = a := by unfold px; rw [List.take_length]; exact so.s1
    have hT : t * a ≤ u * a := Int.mul_le_mul_of_nonneg_right tu (by omega)
    have z : t * a - px L k * u = 0 := by
      rw [e, xl] at T0 ⊢
      rw [Int.mul_comm a u] at T0 ⊢
      omega
    refine ⟨1, 0, k, Int.one_pos, by rw [e]; exact sup_end hv, Nat.le_refl _, by omega, T0, ?_, ?_, ?_, ?_, ?_⟩
    · rw [z]; simp
    · unfold cand
      rw [if_neg (by simp)]
      simp
    · have := Int.mul_nonneg (bds k).2.2.1 (show 0 ≤ u by omega)
      simpa using this
    · simp only [e, if_true]; exact a0
    · simp only [e, if_true]
      grind
  · have kl : k < L.length := by omega
    have nx := of_decide_eq_false (kj (k + 1) (by omega) (by omega))
    have sx := px_succ (L := L) (k := k) kl
    have sy := py_succ (L := L) (k := k) kl
    have st := sup_step hp kl
    have vk := vec_at hv kl
    generalize L.getD k (0, 0) = s at *
    have dx0 : 0 < s.1 := by
      have : 0 < (px L (k + 1) - px L k) * u := by rw [Int.sub_mul]; omega
      have := Int.pos_of_mul_pos_left this (by omega)
      omega
    have far : px L (k + 1) - px L k = s.1 := by omega
    have hi : py L (k + 1) - py L k = s.2 := by omega
    have su := Int.mul_pos dx0 u0
    refine ⟨s.1, s.2, k + 1, dx0, st, by omega, by omega, T0, ?_, ?_, ?_, ?_, ?_⟩
    · rw [far]
      have : px L (k + 1) * u = px L k * u + s.1 * u := by rw [sx, Int.add_mul]
      omega
    · unfold cand
      rw [if_pos (by rw [far]; exact su), far, hi]
      show (py L k * (s.1 * u) + s.2 * (t * a - px L k * u)) * (s.1 * u) = (py L k * s.1 * u + s.2 * (t * a - px L k * u)) * (s.1 * u)
      rw [Int.mul_assoc (py L k)]
    · have p1 := Int.mul_nonneg (bds k).2.2.1 (show 0 ≤ s.1 * u by omega)
      have p2 := Int.mul_nonneg vk.2.1 T0
      rw [Int.mul_assoc (py L k)]
      omega
    · simp only [e, if_false]
      have q1 : px L (k + 1) * a - px L k * a = s.1 * a := by rw [← Int.sub_mul, far]
      rw [q1]
      exact Int.mul_pos a0 (Int.mul_pos (Int.mul_pos (Int.mul_pos u0 a0) (Int.mul_pos dx0 a0)) (Int.mul_pos a0 a0))
    · simp only [e, if_false]
      have q1 : px L (k + 1) * a - px L k * a = s.1 * a := by rw [← Int.sub_mul, far]
      have q2 : py L (k + 1) * a - py L k * a = s.2 * a := by rw [← Int.sub_mul, hi]
      rw [q1, q2]
      generalize t * a - px L k * u = T
      generalize py L k = y
      grind
end Dg

set_option Elab.async false
set_option linter.all false
set_option maxHeartbeats 4000000
set_option maxRecDepth 100000
namespace Dg
open PySem L2
theorem it_rng2 {f g : ME} {e : En} {c c1 c' : Cs} {i n : Nat} (h1 : f e c = .ok (.int i) c1) (h2 : g e c1 = .ok (.int n) c') (hi : i ≤ n) (hn : n < 1000000) : itRng [f, g] e c = .ok ((List.range (n - i)).map fun k : Nat => D.int ((i + k : Nat) : Int)) c' := by
  have r1 : inR (i : Int) := inR_of (by omega) (by omega)
  have r2 : inR (n : Int) := inR_of (by omega) (by omega)
  have e1 : ((n : Int) - (i : Int)).toNat = n - i := by omega
  have e2 : rngL (i : Int) (n - i) = (List.range (n - i)).map fun k : Nat => D.int ((i + k : Nat) : Int) := rfl
  rw [← e2]
  simp [h1, h2, r1, r2, e1]
theorem cns_at {L : List Pr2} {N i : Nat} (h : i < N) (c : Cs) : ixD c (.lst ((cns L N).map shD)) (.int (i : Nat)) = some (shD (px L i, py L i)) := by
  have l : i < (cns L N).length := by unfold cns; simpa using h
  have := sh_at l c
  rw [this]
  have e : (cns L N)[i] = (px L i, py L i) := by simp only [cns, List.getElem_map, List.getElem_range]
  rw [e]
theorem cns_clean (L : List Pr2) (N : Nat) : T.cleanA (prT (cns L N)) = true := prT_clean _
theorem cand_bd {L : List Pr2} {a t u : Int} {i j : Nat} (bX : ∀ k, Bd 200 (px L k)) (bY : ∀ k, Bd 200 (py L k)) (ba : Bd 200 a) (bt : Bd 200 t) (bu : Bd 200 u) : Bd 610 (cand L a t u i j).1 ∧ Bd 410 (cand L a t u i j).2 := by
  unfold cand
  split
  · exact ⟨(Bd.add (((bY i).mul (((bX j).sub (bX i)).mul bu)).up (l := 602)) (((bY j).sub (bY i)).mul ((bt.mul ba).sub ((bX i).mul bu)))).up, (((bX j).sub (bX i)).mul bu).up⟩
  · exact ⟨(bY j).up, Bd.of (by show (1 : Int).natAbs < _; exact Nat.lt_of_lt_of_le (show 1 < 2 ^ 1 by decide) (Nat.pow_le_pow_right (by omega) (by omega)))⟩
/-- the best line so far -/
structure Bsf (HT HB p q : Int) (v : Prop) : Prop where
  q0 : 0 < q
  p0 : 0 ≤ p
  le : p * HB ≤ HT * q
  bp : Bd 610 p
  bq : Bd 410 q
  at' : v → HT * q ≤ p * HB
theorem Bsf.keep {HT HB p q x y : Int} {v : Prop} (h : Bsf HT HB p q v) (w : Prop) (hB : 0 < HB) (y0 : 0 < y) (n : ¬ p * y < x * q) (hw : w → v ∨ x * HB = HT * y) : Bsf HT HB p q w where
  q0 := h.q0
  p0 := h.p0
  le := h.le
  bp := h.bp
  bq := h.bq
  at' := fun c => by
    rcases hw c with c | c
    · exact h.at' c
    · have q0 := h.q0
      refine Int.not_lt.mp fun z => n ?_
      -- HT*q > p*HB  ⇒ x*HB*q = HT*y*q > p*HB*y
      have z2 := Int.mul_lt_mul_of_pos_right z y0
      have e1 : HT * q * y = x * q * HB := by
        have : HT * q * y = HT * y * q := by grind
        rw [this, ← c]; grind
      have e2 : p * HB * y = p * y * HB := by grind
      rw [e1, e2] at z2
      exact Int.lt_of_mul_lt_mul_right z2 (by omega)
theorem Bsf.new {HT HB p q x y : Int} {v : Prop} (h : Bsf HT HB p q v) (w : Prop) (hB : 0 < HB) (y0 : 0 < y) (n : p * y < x * q) (le : x * HB ≤ HT * y) (bx : Bd 610 x) (by' : Bd 410 y) (hw : w → v ∨ x * HB = HT * y) : Bsf HT HB x y w where
  q0 := y0
  p0 := by
    have := Int.mul_nonneg h.p0 (show 0 ≤ y by omega)
    have := Int.pos_of_mul_pos_left (show 0 < x * q by omega) h.q0
    omega
  le := le
  bp := bx
  bq := by'
  at' := fun c => by
    rcases hw c with c | c
    · exfalso
      have k := h.at' c
      have q0 := h.q0
      have z1 := Int.mul_le_mul_of_nonneg_right le (show 0 ≤ q by omega)
      have z2 := Int.mul_le_mul_of_nonneg_right k (show 0 ≤ y by omega)
      have z3 := Int.mul_lt_mul_of_pos_right n hB
      have e1 : x * HB * q = x * q * HB := by grind
      have e2 : HT * y * q = HT * q * y := by grind
      have e3 : p * HB * y = p * y * HB := by grind
      omega
    · omega
theorem Bsf.im {HT HB p q : Int} {v : Prop} (h : Bsf HT HB p q v) (w : Prop) (hw : w → v) : Bsf HT HB p q w := ⟨h.q0, h.p0, h.le, h.bp, h.bq, fun c => h.at' (hw c)⟩
end Dg

set_option Elab.async false
set_option linter.all false
set_option maxHeartbeats 4000000
set_option maxRecDepth 100000
namespace Dg
open PySem L2
theorem near_tail {a0 a1 a2 b0 b1 b2 : Int} (h0 : 0 ≤ a0) (h1 : 0 ≤ a1) (h2 : 0 ≤ a2) (g0 : 0 ≤ b0) (g1 : 0 ≤ b1) (g2 : 0 ≤ b2) (e : a0 + a1 + a2 = b0 + b1 + b2) (p : 0 < a0 + a1 + a2) (bd : Bd 100 (a0 + a1 + a2)) (x0 x1 x2 x3 x4 : Option T) (c : Cs) :
    Wp (sSeq (sSet 6 (oF (oLst [(oComp [7] (itSeq (oVar 5)) (tgN 7) tY (oIx (oVar 7) (mC (.int 0)))), (oComp [7] (itSeq (oVar 5)) (tgN 7) tY (oIx (oVar 7) (mC (.int 1))))])))
  (sRet (callO m_Lmade_c9de9 [(opA sumD [(op2 ixD (mVar 6) (mC (.int 0)))]), (mVar 6)]))) [x0, x1, x2, x3, x4, some (.v (.lst [.tup [.int a0, .int b0], .tup [.int a1, .int b1], .tup [.int a2, .int b2]])), none, none] c
    fun fl c2 => ∃ t, fl = .rt t ∧ c2 = c ∧ ∃ b f, GT 2 3 b f ∧ gcr (tab 2 3 f) = 1 ∧ Bd 100 b ∧ t = .v (glD b (tab 2 3 f)) := by
  have g : Good 2 3 (a0 + a1 + a2) [[a0, a1, a2], [b0, b1, b2]] := ⟨rfl, by omega, by simp, by omega, by omega, p, by simp; exact ⟨⟨h0, h1, h2⟩, g0, g1, g2⟩, by
    intro r hr
    rcases List.mem_cons.mp hr with rfl | hr
    · simp; omega
    · rw [List.mem_singleton.mp hr]; simp; omega⟩
  have e2 := made_spec g (by omega) bd (by decide) false false c
  have g' := g.gls
  refine wp_seq (e' := [x0, x1, x2, x3, x4, some (.v (.lst [.tup [.int a0, .int b0], .tup [.int a1, .int b1], .tup [.int a2, .int b2]])), some (.v (.lst [.lst [.int a0, .int a1, .int a2], .lst [.int b0, .int b1, .int b2]])), none]) (c' := c) (by
    have l3 : (3 : Nat) < LIM := by decide
    simp [compL, l3]) ?_
  have sm : sumD c [.lst [.int a0, .int a1, .int a2]] = some (.int (a0 + a1 + a2)) := by
    simp [sumD, liI, intsD]; omega
  have e2' : m_Lmade_c9de9 [.int (a0 + a1 + a2), .lst [.lst [.int a0, .int a1, .int a2], .lst [.int b0, .int b1, .int b2]]] c = .ok (.v (glD (redB (a0 + a1 + a2) [[a0, a1, a2], [b0, b1, b2]]) (redR [[a0, a1, a2], [b0, b1, b2]]))) c := e2
  refine wp_end (fl := .rt (.v (glD (redB (a0 + a1 + a2) [[a0, a1, a2], [b0, b1, b2]]) (redR [[a0, a1, a2], [b0, b1, b2]])))) (c' := c) (by
    generalize a0 + a1 + a2 = S at *
    simp [sm, e2']) ⟨_, rfl, rfl, redB (a0 + a1 + a2) [[a0, a1, a2], [b0, b1, b2]], ent (redR [[a0, a1, a2], [b0, b1, b2]]), ?_, ?_, ?_, ?_⟩
  · have := g'.toGood; rw [this.tabE] at this; exact this.gt
  · rw [← g'.toGood.tabE]; exact g'.one
  · exact bd.le (by have := g.le_red; have := g.redB0; omega)
  · rw [← g'.toGood.tabE]
theorem near_spec (ns : List Int) (at' : Nat) (c : Cs) (hn : ns.length ≤ 63) (ha : at' < 1000000) : ∃ b f, GT 2 3 b f ∧ gcr (tab 2 3 f) = 1 ∧ Bd 100 b ∧ m_Lnear_4f673 [.scr ns, .int at'] c = .ok (.v (glD b (tab 2 3 f))) c := by
  obtain ⟨rs, hr, hd⟩ := drawn_spec ns at' [3, 1000000000, 1000000000, 1000000000, 3] c hn ha (by decide +kernel) (by decide)
  obtain ⟨z0, r0, rfl, p0, q0, hr⟩ := hr.cons
  obtain ⟨z1, r1, rfl, p1, q1, hr⟩ := hr.cons
  obtain ⟨z2, r2, rfl, p2, q2, hr⟩ := hr.cons
  obtain ⟨z3, r3, rfl, p3, q3, hr⟩ := hr.cons
  obtain ⟨z4, r4, rfl, p4, q4, hr⟩ := hr.cons
  rw [hr.nil] at hd
  have pw9 : powD c (.int 10) (.int 9) = some (.int 1000000000) := by rfl
  have pw18 : powD c (.int 10) (.int 18) = some (.int 1000000000000000000) := by rfl
  have pw20 : powD c (.int 10) (.int 20) = some (.int 100000000000000000000) := by rfl
  have mz := mul_sm (c := c) (i := z1) (j := 1000000000) (by decide)
  have m20 : mulD c (.int z3) (.int 100000000000000000000) = some (.int (z3 * 100000000000000000000)) := mulD_int (okMul_of (k := 30) (l := 100) (Bd.of (by omega)) (Bd.of (by decide)))
  have m1 : mulD c (.int z3) (.int 1) = some (.int (z3 * 1)) := mul_sm (by decide)
  have md : modD c (.int z1) (.int 1000) = some (.int (z1 % 1000)) := modD_int (by omega)
  obtain ⟨F, hF⟩ : ∃ F : Int, F = if z0 = 0 then 1 + z1 % 1000 else if z0 = 1 then 1 + z1 else 1000000000000000000 + z1 * 1000000000 + z2 := ⟨_, rfl⟩
  obtain ⟨S, hS⟩ : ∃ S : Int, S = if z0 = 2 then z3 * 100000000000000000000 else z3 * 1 := ⟨_, rfl⟩
  have F0 : 1 ≤ F ∧ F < 3000000000000000000 := by
    rw [hF]
    split
    · omega
    · split <;> omega
  have S0 : 0 ≤ S ∧ S < 1000000000000000000000000000000 := by rw [hS]; split <;> omega
  have hz0 : z0 = 0 ∨ z0 = 1 ∨ z0 = 2 := by omega
  have hz4 : z4 = 0 ∨ z4 = 1 ∨ z4 = 2 := by omega
  suffices h : ∃ t c2, m_Lnear_4f673 [.scr ns, .int at'] c = .ok t c2 ∧ (c2 = c ∧ ∃ b f, GT 2 3 b f ∧ gcr (tab 2 3 f) = 1 ∧ Bd 100 b ∧ t = .v (glD b (tab 2 3 f))) by
    obtain ⟨t, c2, h1, rfl, b, f, h2, h3, h4, rfl⟩ := h
    exact ⟨b, f, h2, h3, h4, h1⟩
  refine runB_wpE ?_
  (unfold b_Lnear_4f673; simp only [en0, List.map_cons, List.map_nil, List.length_cons, List.length_nil, List.replicate, List.cons_append, List.nil_append])
  have hd' : m_Ldrawn_902e8 [.scr ns, .int at', .lst [.int 3, .int 1000000000, .int 1000000000, .int 1000000000, .int 3]] c = .ok (.ol [T.v (.int z0), T.v (.int z1), T.v (.int z2), T.v (.int z3), T.v (.int z4)]) c := hd
  refine wp_seq (e' := [some (.v (.scr ns)), some (.v (.int at')), some (.v (.lst [.int z0, .int z1, .int z2, .int z3, .int z4])), none, none, none, none, none]) (c' := c) (by simp [pw9, hd']) ?_
  have x0 : ixD c (.lst [.int z0, .int z1, .int z2, .int z3, .int z4]) (.int 0) = some (.int z0) := rfl
  have x1 : ixD c (.lst [.int z0, .int z1, .int z2, .int z3, .int z4]) (.int 1) = some (.int z1) := rfl
  have x2 : ixD c (.lst [.int z0, .int z1, .int z2, .int z3, .int z4]) (.int 2) = some (.int z2) := rfl
  have x3 : ixD c (.lst [.int z0, .int z1, .int z2, .int z3, .int z4]) (.int 3) = some (.int z3) := rfl
  have x4 : ixD c (.lst [.int z0, .int z1, .int z2, .int z3, .int z4]) (.int 4) = some (.int z4) := rfl
  generalize D.lst [.int z0, .int z1, .int z2, .int z3, .int z4] = XS at *
  have y0 : ∀ a b d : D, ixD c (.lst [a, b, d]) (.int 0) = some a := fun _ _ _ => rfl
  have y1 : ∀ a b d : D, ixD c (.lst [a, b, d]) (.int 1) = some b := fun _ _ _ => rfl
  have y2 : ∀ a b d : D, ixD c (.lst [a, b, d]) (.int 2) = some d := fun _ _ _ => rfl
  refine wp_seq (e' := [some (.v (.scr ns)), some (.v (.int at')), some (.v XS), some (.v (.int F)), none, none, none, none]) (c' := c) (by
    rcases hz0 with rfl | rfl | rfl
    · rw [if_pos rfl] at hF
      simp [x0, x1, x2, md, addD, pw9, pw18, mz, hF]
    · rw [if_neg (by decide), if_pos rfl] at hF
      simp [x0, x1, x2, md, addD, pw9, pw18, mz, hF]
    · rw [if_neg (by decide), if_neg (by decide)] at hF
      simp [x0, x1, x2, md, addD, pw9, pw18, mz, hF]) ?_
  refine wp_seq (e' := [some (.v (.scr ns)), some (.v (.int at')), some (.v XS), some (.v (.int F)), some (.v (.int S)), none, none, none]) (c' := c) (by
    rcases hz0 with rfl | rfl | rfl
    · rw [if_neg (by decide)] at hS
      simp [x0, x3, y0, pw20, m1, hS]
    · rw [if_neg (by decide)] at hS
      simp [x0, x3, y1, pw20, m1, hS]
    · rw [if_pos rfl] at hS
      simp [x0, x3, y2, pw20, m20, hS]) ?_
  clear hF hS
  refine wp_seq (e' := [some (.v (.scr ns)), some (.v (.int at')), some (.v XS), some (.v (.int F)), some (.v (.int S)), some (.v (.lst [.tup [.int F, .int (F + 1)], .tup [.int (F + 1), .int (F + 2)], .tup [.int (S + 2), .int S]])), none, none]) (c' := c) (by simp [addD, partsV]) ?_
  have bd : ∀ z : Int, z = 2 * F + S + 3 → Bd 100 z := fun z h => Bd.of (by
    rw [show (2 : Nat) ^ 100 = 1267650600228229401496703205376 by decide]; omega)
  rcases hz4 with rfl | rfl | rfl
  · refine wp_seq (e' := [some (.v (.scr ns)), some (.v (.int at')), some (.v XS), some (.v (.int F)), some (.v (.int S)), some (.v (.lst [.tup [.int F, .int (F + 1)], .tup [.int (F + 1), .int (F + 2)], .tup [.int (S + 2), .int S]])), none, none]) (c' := c) (by
      generalize D.tup [.int F, .int (F + 1)] = P0
      generalize D.tup [.int (F + 1), .int (F + 2)] = P1
      generalize D.tup [.int (S + 2), .int S] = P2
      have c1 : cutD [P0, P1, P2] (some 0) none = [P0, P1, P2] := rfl
      have c2 : cutD [P0, P1, P2] none (some 0) = [] := rfl
      have l3 : (3 : Nat) < LIM := by decide
      simp [x4, sliceD, c1, c2, addD, l3]) ?_
    exact near_tail (by omega) (by omega) (by omega) (by omega) (by omega) (by omega) (by omega) (by omega) (bd _ (by omega)) _ _ _ _ _ c
  · refine wp_seq (e' := [some (.v (.scr ns)), some (.v (.int at')), some (.v XS), some (.v (.int F)), some (.v (.int S)), some (.v (.lst [.tup [.int (F + 1), .int (F + 2)], .tup [.int (S + 2), .int S], .tup [.int F, .int (F + 1)]])), none, none]) (c' := c) (by
      generalize D.tup [.int F, .int (F + 1)] = P0
      generalize D.tup [.int (F + 1), .int (F + 2)] = P1
      generalize D.tup [.int (S + 2), .int S] = P2
      have c1 : cutD [P0, P1, P2] (some 1) none = [P1, P2] := rfl
      have c2 : cutD [P0, P1, P2] none (some 1) = [P0] := rfl
      have l3 : (3 : Nat) < LIM := by decide
      simp [x4, sliceD, c1, c2, addD, l3]) ?_
    exact near_tail (by omega) (by omega) (by omega) (by omega) (by omega) (by omega) (by omega) (by omega) (bd _ (by omega)) _ _ _ _ _ c
  · refine wp_seq (e' := [some (.v (.scr ns)), some (.v (.int at')), some (.v XS), some (.v (.int F)), some (.v (.int S)), some (.v (.lst [.tup [.int (S + 2), .int S], .tup [.int F, .int (F + 1)], .tup [.int (F + 1), .int (F + 2)]])), none, none]) (c' := c) (by
      generalize D.tup [.int F, .int (F + 1)] = P0
      generalize D.tup [.int (F + 1), .int (F + 2)] = P1
      generalize D.tup [.int (S + 2), .int S] = P2
      have c1 : cutD [P0, P1, P2] (some 2) none = [P2] := rfl
      have c2 : cutD [P0, P1, P2] none (some 2) = [P0, P1] := rfl
      have l3 : (3 : Nat) < LIM := by decide
      simp [x4, sliceD, c1, c2, addD, l3]) ?_
    exact near_tail (by omega) (by omega) (by omega) (by omega) (by omega) (by omega) (by omega) (by omega) (bd _ (by omega)) _ _ _ _ _ c
end Dg

set_option Elab.async false
set_option linter.all false
set_option maxHeartbeats 4000000
set_option maxRecDepth 100000
namespace Dg
open PySem L2
@[simp] theorem allV_opt (x : Option D) (e : En) : allV (x.map T.v :: e) = allV e := by
  cases x with
  | none => rfl
  | some d => rfl
@[simp] theorem allV_nil : allV [] = true := rfl
/-! ### a loop over a list, what holds kept -/
theorem lp_mem {tg : D → En → Option En} {body : MS} {α : Type} {c : Cs} (inj : α → D) (P : En → Prop) : ∀ (l : List α) (e : En), P e →
    (∀ x ∈ l, ∀ e, P e → ∃ e1, tg (inj x) e = some e1 ∧ Wp body e1 c fun fl c' => ∃ e2, fl = .nx e2 ∧ c' = c ∧ P e2) → ∃ e', forL tg body (l.map inj) e c = .ok (.nx e') c ∧ P e'
  | [], e, p, _ => ⟨e, rfl, p⟩
  | x :: l, e, p, h => by
    obtain ⟨e1, h1, fl, c', h2, e2, rfl, rfl, h3⟩ := h x List.mem_cons_self e p
    obtain ⟨e3, h4, h5⟩ := lp_mem inj P l e2 h3 fun y hy => h y (List.mem_cons_of_mem _ hy)
    refine ⟨e3, ?_, h5⟩
    rw [List.map_cons, forL_nx h1 h2]; exact h4
theorem wp_forM {tg : D → En → Option En} {body g : MS} {it : MI} {α : Type} {e : En} {c : Cs} {Q : Fl → Cs → Prop} (inj : α → D) (l : List α) (P : En → Prop) (hit : it e c = .ok (l.map inj) c) (p0 : P e)
    (step : ∀ x ∈ l, ∀ e, P e → ∃ e1, tg (inj x) e = some e1 ∧ Wp body e1 c fun fl c' => ∃ e2, fl = .nx e2 ∧ c' = c ∧ P e2) (k : ∀ e', P e' → Wp g e' c Q) : Wp (sSeq (sFor it tg body) g) e c Q := by
  obtain ⟨e', h1, h2⟩ := lp_mem inj P l e p0 step
  refine wp_seq (e' := e') (c' := c) ?_ (k e' h2)
  simp only [sFor, hit, R.toS]; exact h1
theorem wp_forME {tg : D → En → Option En} {body : MS} {it : MI} {α : Type} {e : En} {c : Cs} {Q : Fl → Cs → Prop} (inj : α → D) (l : List α) (P : En → Prop) (hit : it e c = .ok (l.map inj) c) (p0 : P e)
    (step : ∀ x ∈ l, ∀ e, P e → ∃ e1, tg (inj x) e = some e1 ∧ Wp body e1 c fun fl c' => ∃ e2, fl = .nx e2 ∧ c' = c ∧ P e2) (k : ∀ e', P e' → Q (.nx e') c) : Wp (sFor it tg body) e c Q := by
  obtain ⟨e', h1, h2⟩ := lp_mem inj P l e p0 step
  refine wp_end (fl := .nx e') (c' := c) ?_ (k e' h2)
  simp only [sFor, hit, R.toS]; exact h1
theorem wp_forM0 {tg : D → En → Option En} {body g : MS} {it : MI} {e : En} {c : Cs} {Q : Fl → Cs → Prop} (l : List D) (P : En → Prop) (hit : it e c = .ok l c) (p0 : P e)
    (step : ∀ x ∈ l, ∀ e, P e → ∃ e1, tg x e = some e1 ∧ Wp body e1 c fun fl c' => ∃ e2, fl = .nx e2 ∧ c' = c ∧ P e2) (k : ∀ e', P e' → Wp g e' c Q) : Wp (sSeq (sFor it tg body) g) e c Q :=
  wp_forM id l P (by rw [List.map_id]; exact hit) p0 step k
theorem wp_forM0E {tg : D → En → Option En} {body : MS} {it : MI} {e : En} {c : Cs} {Q : Fl → Cs → Prop} (l : List D) (P : En → Prop) (hit : it e c = .ok l c) (p0 : P e)
    (step : ∀ x ∈ l, ∀ e, P e → ∃ e1, tg x e = some e1 ∧ Wp body e1 c fun fl c' => ∃ e2, fl = .nx e2 ∧ c' = c ∧ P e2) (k : ∀ e', P e' → Q (.nx e') c) : Wp (sFor it tg body) e c Q :=
  wp_forME id l P (by rw [List.map_id]; exact hit) p0 step k
theorem cut_hi {α : Type} {cs : List α} {hi : Nat} (h2 : hi ≤ cs.length) : cutD cs none (some (hi : Int)) = cs.take hi := by
  unfold cutD
  rw [HT.sIx_nat, HT.sIx_none, Nat.min_eq_left h2]
  simp
/-- the first two stands -/
theorem two_of {m n : Nat} {f : Nat → Nat → Int} (hm : 2 ≤ m) (c : Cs) : sliceD (rwT (tab m n f)) none (some 2) = some (rwT (tab 2 n f)) := by
  have e := cut_hi (cs := (tab m n f).map rowT) (hi := 2) (by simpa [tab] using hm)
  have e2 : ((tab m n f).map rowT).take 2 = (tab 2 n f).map rowT := by
    unfold tab
    rw [← List.map_take, ← List.map_take, List.take_range, Nat.min_eq_left hm]
  have e3 : sliceD (.tup ((tab m n f).map rowT)) none (some 2) = some (.tup (cutD ((tab m n f).map rowT) none (some 2))) := rfl
  show sliceD (.tup ((tab m n f).map rowT)) none (some 2) = _
  rw [e3]
  show some (D.tup (cutD _ none (some ((2 : Nat) : Int)))) = _
  rw [e, e2]; rfl
theorem GT.two {m n : Nat} {a : Int} {f : Nat → Nat → Int} (G : GT m n a f) (hm : 2 ≤ m) : GT 2 n a f := ⟨by omega, G.w0, G.w12, G.b0, fun i hi => G.nn i (by omega), fun i hi => G.sum i (by omega)⟩
/-- a glass made of a table -/
theorem made_two {m n : Nat} {a : Int} {f : Nat → Nat → Int} (G : GT m n a f) (hm : m < 1000) {K : Nat} (ba : Bd K a) (hK : K ≤ 8000) (c : Cs) : ∃ b g, GT m n b g ∧ gcr (tab m n g) = 1 ∧ Bd K b ∧ b ≤ a ∧ m_Lmade_c9de9 [.int a, rwT (tab m n f)] c = .ok (.v (glD b (tab m n g))) c
    ∧ ∀ i, i < m → ∀ j, j < n → f i j * b = g i j * a := by
  have e2 := made_spec G.good hm ba hK true true c
  have g' := G.good.gls
  have e2' : m_Lmade_c9de9 [.int a, rwT (tab m n f)] c = .ok (.v (glD (redB a (tab m n f)) (redR (tab m n f)))) c := e2
  have h := G.red
  rw [redR_tab] at e2' g'
  exact ⟨_, _, h, g'.one, ba.le (by have := G.good.le_red; have := G.good.redB0; omega), G.good.le_red, e2', fun i hi j hj => G.cross hi hj⟩
end Dg

set_option Elab.async false
set_option linter.all false
set_option maxHeartbeats 4000000
set_option maxRecDepth 100000
namespace Dg
open PySem L2
/-! ### a loop that may end ahead of its end -/
theorem lp_find {tg : D → En → Option En} {body : MS} {c : Cs} (inj : Nat → D) (p : Nat → Prop) (R : Nat → T → Prop) (P : En → Prop) : ∀ (n a : Nat) (e : En), P e →
    (∀ k, a ≤ k → k < a + n → ∀ e, P e → ∃ e1, tg (inj k) e = some e1 ∧ Wp body e1 c fun fl c' => c' = c ∧ ((¬ p k ∧ ∃ e2, fl = .nx e2 ∧ P e2) ∨ (p k ∧ ∃ t, fl = .rt t ∧ R k t))) →
    (∃ k t, a ≤ k ∧ k < a + n ∧ p k ∧ (∀ j, a ≤ j → j < k → ¬ p j) ∧ forL tg body ((List.range' a n).map inj) e c = .ok (.rt t) c ∧ R k t) ∨ ((∀ j, a ≤ j → j < a + n → ¬ p j) ∧ ∃ e', forL tg body ((List.range' a n).map inj) e c = .ok (.nx e') c ∧ P e')
  | 0, a, e, pe, _ => .inr ⟨fun j h1 h2 => by omega, e, rfl, pe⟩
  | n + 1, a, e, pe, h => by
    obtain ⟨e1, h1, fl, c', h2, rfl, h3⟩ := h a (Nat.le_refl _) (by omega) e pe
    rw [List.range'_succ, List.map_cons]
    rcases h3 with ⟨np, e2, rfl, p2⟩ | ⟨pp, t, rfl, r⟩
    · rw [forL_nx h1 h2]
      rcases lp_find inj p R P n (a + 1) e2 p2 (fun k hk hk2 => h k (by omega) (by omega)) with ⟨k, t, k1, k2, k3, k4, k5, k6⟩ | ⟨k1, e', k2, k3⟩
      · refine .inl ⟨k, t, by omega, by omega, k3, fun j j1 j2 => ?_, k5, k6⟩
        rcases Nat.eq_or_lt_of_le j1 with e | e
        · subst e; exact np
        · exact k4 j (by omega) j2
      · refine .inr ⟨fun j j1 j2 => ?_, e', k2, k3⟩
        rcases Nat.eq_or_lt_of_le j1 with e | e
        · subst e; exact np
        · exact k1 j (by omega) (by omega)
    · rw [forL_rt h1 h2]
      exact .inl ⟨a, t, Nat.le_refl _, by omega, pp, fun j j1 j2 => by omega, rfl, r⟩
/-- a loop over a range; the first that is found ends it -/
theorem wp_find {tg : D → En → Option En} {body g : MS} {it : MI} {e : En} {c : Cs} {Q : Fl → Cs → Prop} (inj : Nat → D) (n : Nat) (p : Nat → Prop) (R : Nat → T → Prop) (P : En → Prop) (hit : it e c = .ok ((List.range n).map inj) c) (p0 : P e)
    (step : ∀ k, k < n → ∀ e, P e → ∃ e1, tg (inj k) e = some e1 ∧ Wp body e1 c fun fl c' => c' = c ∧ ((¬ p k ∧ ∃ e2, fl = .nx e2 ∧ P e2) ∨ (p k ∧ ∃ t, fl = .rt t ∧ R k t)))
    (k1 : ∀ k t, k < n → p k → (∀ j, j < k → ¬ p j) → R k t → Q (.rt t) c) (k2 : (∀ j, j < n → ¬ p j) → ∀ e', P e' → Wp g e' c Q) : Wp (sSeq (sFor it tg body) g) e c Q := by
  have hit' : it e c = .ok ((List.range' 0 n).map inj) c := by rw [← List.range_eq_range']; exact hit
  rcases lp_find inj p R P n 0 e p0 (fun k _ hk => step k (by omega)) with ⟨k, t, a1, a2, a3, a4, a5, a6⟩ | ⟨a1, e', a2, a3⟩
  · refine wp_out (t := t) (c' := c) ?_ (k1 k t (by omega) a3 (fun j hj => a4 j (by omega) hj) a6)
    simp only [sFor, hit', Dg.R.toS]; exact a5
  · refine wp_seq (e' := e') (c' := c) ?_ (k2 (fun j hj => a1 j (by omega) (by omega)) e' a3)
    simp only [sFor, hit', Dg.R.toS]; exact a2
theorem wp_findE {tg : D → En → Option En} {body : MS} {it : MI} {e : En} {c : Cs} {Q : Fl → Cs → Prop} (inj : Nat → D) (n : Nat) (p : Nat → Prop) (R : Nat → T → Prop) (P : En → Prop) (hit : it e c = .ok ((List.range n).map inj) c) (p0 : P e)
    (step : ∀ k, k < n → ∀ e, P e → ∃ e1, tg (inj k) e = some e1 ∧ Wp body e1 c fun fl c' => c' = c ∧ ((¬ p k ∧ ∃ e2, fl = .nx e2 ∧ P e2) ∨ (p k ∧ ∃ t, fl = .rt t ∧ R k t)))
    (k1 : ∀ k t, k < n → p k → (∀ j, j < k → ¬ p j) → R k t → Q (.rt t) c) (k2 : (∀ j, j < n → ¬ p j) → ∀ e', P e' → Q (.nx e') c) : Wp (sFor it tg body) e c Q := by
  have hit' : it e c = .ok ((List.range' 0 n).map inj) c := by rw [← List.range_eq_range']; exact hit
  rcases lp_find inj p R P n 0 e p0 (fun k _ hk => step k (by omega)) with ⟨k, t, a1, a2, a3, a4, a5, a6⟩ | ⟨a1, e', a2, a3⟩
  · refine wp_end (fl := .rt t) (c' := c) ?_ (k1 k t (by omega) a3 (fun j hj => a4 j (by omega) hj) a6)
    simp only [sFor, hit', Dg.R.toS]; exact a5
  · refine wp_end (fl := .nx e') (c' := c) ?_ (k2 (fun j hj => a1 j (by omega) (by omega)) e' a3)
    simp only [sFor, hit', Dg.R.toS]; exact a2
end Dg

set_option Elab.async false
set_option linter.all false
set_option maxHeartbeats 4000000
set_option maxRecDepth 100000
namespace Dg
open PySem L2
theorem hgt_bd {n : Nat} {a t u : Int} {f : Nat → Nat → Int} (G : GT 2 n a f) (ba : Bd 200 a) (bu : Bd 200 u) (t0 : 0 ≤ t) (tu : t ≤ u) : Bd 2000 (hgt (stepsL f n) a t u).1 ∧ Bd 2000 (hgt (stepsL f n) a t u).2 := by
  obtain ⟨so, sl⟩ := stepsL_ok G (by omega) n (Nat.le_refl _)
  rw [G.sum 0 (by omega), G.sum 1 (by omega)] at so
  have bds := fun k => px_bds so k
  have bt : Bd 200 t := bu.le (by omega)
  have bX : ∀ k, Bd 200 (px (stepsL f n) k) := fun k => ba.le (by have := bds k; omega)
  have bY : ∀ k, Bd 200 (py (stepsL f n) k) := fun k => ba.le (by have := bds k; omega)
  unfold hgt
  generalize kAt (stepsL f n) a t u = k at *
  generalize stepsL f n = L at *
  by_cases e : k = L.length
  · simp only [e, if_true]
    exact ⟨(bY _).up, ba.up⟩
  · simp only [e, if_false]
    have BDX : Bd 401 (px L (k + 1) * a - px L k * a) := ((bX (k + 1)).mul ba).sub ((bX k).mul ba)
    have BDY : Bd 401 (py L (k + 1) * a - py L k * a) := ((bY (k + 1)).mul ba).sub ((bY k).mul ba)
    have BT : Bd 401 (t * a - px L k * u) := (bt.mul ba).sub ((bX k).mul bu)
    have Baa : Bd 400 (a * a) := ba.mul ba
    have BW := ((bu.mul ba).mul BDX).mul Baa
    have BV := (BT.mul Baa).mul BDY
    exact ⟨(((bY k).mul BW).up (l := 1500)).add ((BV.mul ba).up) |>.up, (ba.mul BW).up⟩
/-- the height at a share, and the step there -/
theorem hgt_seg {L : List Pr2} {a t u : Int} (so : StOk L a a) (a0 : 0 < a) (u0 : 0 < u) (t0 : 0 ≤ t) (tu : t ≤ u) :
    kAt L a t u ≤ L.length ∧ 0 < (hgt L a t u).2 ∧ (kAt L a t u = L.length → hgt L a t u = (a, a))
      ∧ (kAt L a t u < L.length → 0 < (L.getD (kAt L a t u) (0, 0)).1 ∧
        (hgt L a t u).1 * ((L.getD (kAt L a t u) (0, 0)).1 * u * a) = (py L (kAt L a t u) * (L.getD (kAt L a t u) (0, 0)).1 * u + (L.getD (kAt L a t u) (0, 0)).2 * (t * a - px L (kAt L a t u) * u)) * (hgt L a t u).2) := by
  obtain ⟨kN, kp, kj⟩ := lastK_of (fun k => decide (px L k * u ≤ t * a)) (by
    rw [px_zero]
    exact decide_eq_true (by have := Int.mul_nonneg t0 (show 0 ≤ a by omega); omega)) (L.length + 1) (by omega)
  have kp := of_decide_eq_true kp
  have bds := fun k => px_bds so k
  unfold hgt
  have ek : kAt L a t u = lastK (fun k => decide (px L k * u ≤ t * a)) (L.length + 1) := rfl
  rw [← ek] at kN kp kj
  generalize kAt L a t u = k at *
  clear ek
  have yl : py L L.length = a := by unfold py; rw [List.take_length]; exact so.s2
  by_cases e : k = L.length
  · refine ⟨by omega, by simp only [e, if_true]; exact a0, fun _ => by simp only [e, if_true]; rw [yl], fun h => by omega⟩
  · have kl : k < L.length := by omega
    have nx := of_decide_eq_false (kj (k + 1) (by omega) (by omega))
    have sx := px_succ (L := L) (k := k) kl
    have sy := py_succ (L := L) (k := k) kl
    generalize L.getD k (0, 0) = s at *
    have dx0 : 0 < s.1 := by
      have : 0 < (px L (k + 1) - px L k) * u := by rw [Int.sub_mul]; omega
      have := Int.pos_of_mul_pos_left this (by omega)
      omega
    have far : px L (k + 1) - px L k = s.1 := by omega
    have hi : py L (k + 1) - py L k = s.2 := by omega
    have q1 : px L (k + 1) * a - px L k * a = s.1 * a := by rw [← Int.sub_mul, far]
    have q2 : py L (k + 1) * a - py L k * a = s.2 * a := by rw [← Int.sub_mul, hi]
    refine ⟨by omega, ?_, fun h => absurd h e, fun _ => ⟨dx0, ?_⟩⟩
    · simp only [e, if_false]
      rw [q1]
      exact Int.mul_pos a0 (Int.mul_pos (Int.mul_pos (Int.mul_pos u0 a0) (Int.mul_pos dx0 a0)) (Int.mul_pos a0 a0))
    · simp only [e, if_false]
      rw [q1, q2]
      generalize t * a - px L k * u = T
      generalize py L k = y
      grind
/-- a corner of the other's curve lies above the one's -/
def Abv (L : List Pr2) (a : Int) (M : List Pr2) (b : Int) (k : Nat) : Prop := (hgt L a (px M k) b).1 * b < py M k * (hgt L a (px M k) b).2
theorem abv_lt {L M : List Pr2} {a b : Int} {k : Nat} (so : StOk L a a) (sm : StOk M b b) (a0 : 0 < a) (b0 : 0 < b) (h : Abv L a M b k) : kAt L a (px M k) b < L.length := by
  have bm := px_bds sm k
  obtain ⟨h1, h2, h3, _⟩ := hgt_seg (t := px M k) (u := b) so a0 b0 bm.1 bm.2.1
  refine Nat.lt_of_le_of_ne h1 fun e => ?_
  unfold Abv at h
  rw [h3 e] at h
  have := Int.mul_le_mul_of_nonneg_right bm.2.2.2 (show 0 ≤ a by omega)
  rw [Int.mul_comm a b] at h
  exact absurd h (Int.not_lt.mpr this)
/-- with the step there -/
theorem abv_iff {L M : List Pr2} {a b : Int} {k : Nat} (so : StOk L a a) (sm : StOk M b b) (a0 : 0 < a) (b0 : 0 < b) (h : Abv L a M b k) :
    let s := L.getD (kAt L a (px M k) b) (0, 0)
    0 < s.1 ∧ py L (kAt L a (px M k) b) * s.1 * b + s.2 * (px M k * a - px L (kAt L a (px M k) b) * b) < py M k * a * s.1 := by
  have lt := abv_lt so sm a0 b0 h
  have bm := px_bds sm k
  obtain ⟨h1, h2, _, h3⟩ := hgt_seg (t := px M k) (u := b) so a0 b0 bm.1 bm.2.1
  obtain ⟨dx, e⟩ := h3 lt
  refine ⟨dx, ?_⟩
  unfold Abv at h
  generalize L.getD (kAt L a (px M k) b) (0, 0) = s at *
  generalize hgt L a (px M k) b = H at *
  generalize py L (kAt L a (px M k) b) * s.1 * b + s.2 * (px M k * a - px L (kAt L a (px M k) b) * b) = V at *
  generalize py M k = y at *
  have p1 := Int.mul_lt_mul_of_pos_right h (Int.mul_pos dx a0)
  have e1 : H.1 * b * (s.1 * a) = V * H.2 := by rw [← e]; grind
  have e2 : y * H.2 * (s.1 * a) = y * a * s.1 * H.2 := by grind
  rw [e1, e2] at p1
  exact Int.lt_of_mul_lt_mul_right p1 (by omega)
/-- the payoffs of two acts -/
def actP (L : List Pr2) (a : Int) (k : Nat) : Int × Int :=
  let far := shr (px L (k + 1) * a - px L k * a) (a * a)
  let high := shr (py L (k + 1) * a - py L k * a) (a * a)
  (0 - high.1 * far.2, far.1 * high.2)
def actD (p : Int × Int) : D := .tup [.tup [.int p.1, .int 0], .tup [.int p.2, .int 0]]
/-- what held tells -/
def heldD (L : List Pr2) (a : Int) (M : List Pr2) (b : Int) (k : Nat) : D := .tup [cnD (crn M b k), actD (actP L a (kAt L a (px M k) b))]
end Dg

set_option Elab.async false
set_option linter.all false
set_option maxHeartbeats 4000000
set_option maxRecDepth 100000
namespace Dg
open PySem L2
/-! ### what two acts are worth -/
def mx (x : Int) : Int := if 0 < x then x else 0
theorem mx_nn (x : Int) : 0 ≤ mx x := by unfold mx; split <;> omega
theorem mx_le (x : Int) : x ≤ mx x := by unfold mx; split <;> omega
theorem mx_mul {x k : Int} (hk : 0 < k) : mx (x * k) = mx x * k := by
  unfold mx
  by_cases h : 0 < x
  · rw [if_pos h, if_pos (Int.mul_pos h hk)]
  · rw [if_neg h, if_neg, Int.zero_mul]
    have := Int.mul_le_mul_of_nonneg_right (show x ≤ 0 by omega) (show 0 ≤ k by omega)
    omega
def tot (L : List Pr2) (s : Pr2) : Int := (L.map fun z => mx (cr z s)).sum
theorem tot_ins {p s : Pr2} (hp : Vec p) (hs : Vec s) : ∀ {L : List Pr2}, (∀ z ∈ L, Vec z) → tot (insStep L p) s = tot L s + mx (cr p s)
  | [], _ => by simp [insStep, tot]
  | y :: r, h => by
    have hy := h y List.mem_cons_self
    unfold insStep
    by_cases c : stpr y p = true
    · rw [if_pos c]
      have := tot_ins hp hs (L := r) fun z hz => h z (List.mem_cons_of_mem _ hz)
      unfold tot at *
      rw [List.map_cons, List.map_cons, List.sum_cons, List.sum_cons, this]; omega
    · rw [if_neg c]
      by_cases c2 : stpr p y = true
      · rw [if_pos c2]
        unfold tot
        rw [List.map_cons, List.map_cons, List.sum_cons, List.sum_cons]; omega
      · rw [if_neg c2]
        have n1 : ¬ 0 < cr y p := fun z => c ((stpr_iff y p).mpr z)
        have n2 : ¬ 0 < cr p y := fun z => c2 ((stpr_iff p y).mpr z)
        have sw := cr_swap y p
        have e : mx (cr (y.1 + p.1, y.2 + p.2) s) = mx (cr y s) + mx (cr p s) := by
          rw [cr_addL]
          have ps := par_sign hy hp hs (by omega)
          unfold mx
          rcases Int.lt_trichotomy (cr p s) 0 with q | q | q
          · have := ps.2.2 q
            rw [if_neg (by omega), if_neg (by omega), if_neg (by omega)]; omega
          · have := ps.2.1 q
            rw [if_neg (by omega), if_neg (by omega), if_neg (by omega)]; omega
          · have := ps.1 q
            rw [if_pos (by omega), if_pos (by omega), if_pos (by omega)]
        unfold tot
        rw [List.map_cons, List.map_cons, List.sum_cons, List.sum_cons, e]; omega
theorem tot_steps {m n : Nat} {a : Int} {f : Nat → Nat → Int} (G : GT m n a f) (m2 : 2 ≤ m) {s : Pr2} (hs : Vec s) : ∀ k, k ≤ n → tot (stepsL f k) s = sumTo k fun j => mx (cr (f 0 j, f 1 j) s)
  | 0, _ => rfl
  | k + 1, h => by
    have ih := tot_steps G m2 hs k (by omega)
    have n0 := G.nn 0 (by omega) k (by omega)
    have n1 := G.nn 1 (by omega) k (by omega)
    obtain ⟨hv, _⟩ := steps_fall G m2 k (by omega)
    rw [stepsL_succ]
    show _ = (sumTo k fun j => mx (cr (f 0 j, f 1 j) s)) + mx (cr (f 0 k, f 1 k) s)
    rw [← ih]
    unfold addStep
    by_cases c : (f 0 k, f 1 k) = ((0, 0) : Pr2)
    · rw [if_pos c, c]
      have : cr (0, 0) s = 0 := by unfold cr; simp
      rw [this]; unfold mx; simp
    · have p : 0 < f 0 k + f 1 k := by
        refine Int.not_le.mp fun z => c ?_
        rw [show f 0 k = 0 by omega, show f 1 k = 0 by omega]
      rw [if_neg c, tot_ins ⟨n0, n1, p⟩ hs hv]
theorem getD_tk (P : List Pr2) {k : Nat} (h : k < P.length) : P.take (k + 1) = P.take k ++ [P.getD k (0, 0)] := by
  rw [List.take_succ_eq_append_getElem h, List.getD_eq_getElem?_getD, List.getElem?_eq_getElem h]; rfl
theorem tot_take {L : List Pr2} {k : Nat} (h : k < L.length) (s : Pr2) : tot (L.take (k + 1)) s = tot (L.take k) s + mx (cr (L.getD k (0, 0)) s) := by
  rw [getD_tk L h]
  unfold tot
  rw [List.map_append, sum_app]; simp
theorem cr_val (z s : Pr2) : cr z s = z.2 * s.1 - s.2 * z.1 := rfl
theorem tot_ge {L : List Pr2} {s : Pr2} {k : Nat} (hk : k ≤ L.length) : py L k * s.1 - s.2 * px L k ≤ tot L s := by
  have up : ∀ j, j ≤ L.length → py L j * s.1 - s.2 * px L j ≤ tot (L.take j) s := fun j => by
    induction j with
    | zero => intro _; simp [py, px, tot]
    | succ j ih =>
      intro h
      have ih := ih (by omega)
      rw [tot_take (by omega), px_succ (by omega), py_succ (by omega), Int.add_mul, Int.mul_add]
      have m := mx_le (cr (L.getD j (0, 0)) s)
      have e := cr_val (L.getD j (0, 0)) s
      generalize L.getD j (0, 0) = z at *
      omega
  have mono : ∀ d, k + d ≤ L.length → tot (L.take k) s ≤ tot (L.take (k + d)) s := fun d => by
    induction d with
    | zero => intro _; exact Int.le_refl _
    | succ d ih =>
      intro h
      have ih := ih (by omega)
      rw [← Nat.add_assoc, tot_take (by omega)]
      have := mx_nn (cr (L.getD (k + d) (0, 0)) s)
      omega
  have m := mono (L.length - k) (by omega)
  rw [show k + (L.length - k) = L.length by omega, List.take_length] at m
  exact Int.le_trans (up k hk) m
theorem tot_own {L : List Pr2} (hp : L.Pairwise fun a b => 0 < cr a b) {k : Nat} (hk : k < L.length) : tot L (L.getD k (0, 0)) = py L k * (L.getD k (0, 0)).1 - (L.getD k (0, 0)).2 * px L k := by
  have up : ∀ j, j ≤ k → tot (L.take j) (L.getD k (0, 0)) = py L j * (L.getD k (0, 0)).1 - (L.getD k (0, 0)).2 * px L j := fun j => by
    induction j with
    | zero => intro _; simp [py, px, tot]
    | succ j ih =>
      intro h
      have ih := ih (by omega)
      have st := cr_at hp (show j < k by omega) hk
      rw [tot_take (by omega), px_succ (by omega), py_succ (by omega), Int.add_mul, Int.mul_add, ih]
      have e := cr_val (L.getD j (0, 0)) (L.getD k (0, 0))
      unfold mx
      rw [if_pos st]
      generalize L.getD j (0, 0) = z at *
      generalize L.getD k (0, 0) = s at *
      omega
  have flat : ∀ d, k + d ≤ L.length → tot (L.take (k + d)) (L.getD k (0, 0)) = tot (L.take k) (L.getD k (0, 0)) := fun d => by
    induction d with
    | zero => intro _; rfl
    | succ d ih =>
      intro h
      have ih := ih (by omega)
      rw [← Nat.add_assoc, tot_take (by omega), ih]
      have z : ¬ 0 < cr (L.getD (k + d) (0, 0)) (L.getD k (0, 0)) := by
        rcases Nat.eq_zero_or_pos d with e | e
        · subst e; rw [Nat.add_zero, cr_self]; omega
        · have := cr_at hp (show k < k + d by omega) (show k + d < L.length by omega)
          have sw := cr_swap (L.getD (k + d) (0, 0)) (L.getD k (0, 0))
          omega
      unfold mx
      rw [if_neg z]; omega
  have m := flat (L.length - k) (by omega)
  rw [show k + (L.length - k) = L.length by omega, List.take_length] at m
  rw [m, up k (Nat.le_refl _)]
theorem sumTo_le_mul {f g : Nat → Int} {c d : Int} : ∀ n : Nat, (∀ j, j < n → f j * c = g j * d) → sumTo n f * c = sumTo n g * d
  | 0, _ => by simp [sumTo]
  | n + 1, h => by
    have ih := sumTo_le_mul n fun j hj => h j (by omega)
    have := h n (by omega)
    show (sumTo n f + f n) * c = (sumTo n g + g n) * d
    rw [Int.add_mul, Int.add_mul, ih, this]
/-- what the payoffs are worth by a glass -/
def wrth (n : Nat) (f : Nat → Nat → Int) (p : Int × Int) : Int := sumTo n fun j => mx (f 0 j * p.1 + f 1 j * p.2)
def actQ (L : List Pr2) (c : Int) (k : Nat) : Int := (shr (px L (k + 1) * c - px L k * c) (c * c)).2 * (shr (py L (k + 1) * c - py L k * c) (c * c)).2
theorem wrth_tot {n : Nat} {a c : Int} {f : Nat → Nat → Int} (G : GT 2 n a f) {L : List Pr2} {k : Nat} (c0 : 0 < c) (hk : k < L.length) (hs : Vec (L.getD k (0, 0))) :
    0 < actQ L c k ∧ wrth n f (actP L c k) * c = tot (stepsL f n) (L.getD k (0, 0)) * actQ L c k := by
  have cc := Int.mul_pos c0 c0
  have p1 := shr_pos (a := px L (k + 1) * c - px L k * c) (b := c * c) (by omega)
  have p2 := shr_pos (a := py L (k + 1) * c - py L k * c) (b := c * c) (by omega)
  have q1 := shr_cross (a := px L (k + 1) * c - px L k * c) (b := c * c) (by omega)
  have q2 := shr_cross (a := py L (k + 1) * c - py L k * c) (b := c * c) (by omega)
  have ex : px L (k + 1) * c - px L k * c = (L.getD k (0, 0)).1 * c := by rw [px_succ hk, Int.add_mul]; omega
  have ey : py L (k + 1) * c - py L k * c = (L.getD k (0, 0)).2 * c := by rw [py_succ hk, Int.add_mul]; omega
  have tt := tot_steps G (by omega) hs n (Nat.le_refl _)
  unfold wrth actP actQ
  rw [ex] at p1 q1
  rw [ey] at p2 q2
  rw [ex, ey]
  clear ex ey
  generalize shr ((L.getD k (0, 0)).1 * c) (c * c) = F at *
  generalize shr ((L.getD k (0, 0)).2 * c) (c * c) = H at *
  generalize L.getD k (0, 0) = s at *
  have r1 : F.1 * c = s.1 * F.2 := by
    refine Int.eq_of_mul_eq_mul_right (show c ≠ 0 by omega) ?_
    have e1 : F.1 * c * c = F.1 * (c * c) := by grind
    rw [e1, q1]; grind
  have r2 : H.1 * c = s.2 * H.2 := by
    refine Int.eq_of_mul_eq_mul_right (show c ≠ 0 by omega) ?_
    have e1 : H.1 * c * c = H.1 * (c * c) := by grind
    rw [e1, q2]; grind
  have qp : 0 < F.2 * H.2 := Int.mul_pos (by omega) (by omega)
  refine ⟨qp, ?_⟩
  rw [tt]
  refine sumTo_le_mul n fun j hj => ?_
  rw [← mx_mul c0, ← mx_mul qp]
  congr 1
  show (f 0 j * (0 - H.1 * F.2) + f 1 j * (F.1 * H.2)) * c = (f 1 j * s.1 - s.2 * f 0 j) * (F.2 * H.2)
  have e1 : (f 0 j * (0 - H.1 * F.2) + f 1 j * (F.1 * H.2)) * c = f 1 j * (F.1 * c) * H.2 - f 0 j * (H.1 * c) * F.2 := by grind
  rw [e1, r1, r2]; grind
/-- the other gains more by the acts that held tells -/
theorem more_by {n w : Nat} {a b : Int} {f g : Nat → Nat → Int} (G : GT 2 n a f) (H : GT 2 w b g) {m : Nat} (hm : m ≤ (stepsL g w).length) (h : Abv (stepsL f n) a (stepsL g w) b m) :
    wrth n f (actP (stepsL f n) a (kAt (stepsL f n) a (px (stepsL g w) m) b)) * b < wrth w g (actP (stepsL f n) a (kAt (stepsL f n) a (px (stepsL g w) m) b)) * a := by
  obtain ⟨so, sl⟩ := stepsL_ok G (by omega) n (Nat.le_refl _)
  rw [G.sum 0 (by omega), G.sum 1 (by omega)] at so
  obtain ⟨sm, sml⟩ := stepsL_ok H (by omega) w (Nat.le_refl _)
  rw [H.sum 0 (by omega), H.sum 1 (by omega)] at sm
  obtain ⟨hv, hp⟩ := steps_fall G (by omega) n (Nat.le_refl _)
  have a0 := G.b0
  have b0 := H.b0
  have lt := abv_lt so sm a0 b0 h
  obtain ⟨dx, ai⟩ := abv_iff so sm a0 b0 h
  obtain ⟨q0, w1⟩ := wrth_tot G a0 lt (vec_at hv lt)
  obtain ⟨_, w2⟩ := wrth_tot H a0 lt (vec_at hv lt)
  have t1 := tot_own hp lt
  have t2 := tot_ge (L := stepsL g w) (s := (stepsL f n).getD (kAt (stepsL f n) a (px (stepsL g w) m) b) (0, 0)) hm
  generalize kAt (stepsL f n) a (px (stepsL g w) m) b = k at *
  generalize actQ (stepsL f n) a k = q at *
  generalize actP (stepsL f n) a k = P at *
  generalize (stepsL f n).getD k (0, 0) = s at *
  generalize tot (stepsL f n) s = tL at *
  generalize tot (stepsL g w) s = tM at *
  generalize wrth n f P = wf at *
  generalize wrth w g P = wg at *
  generalize py (stepsL f n) k = y at *
  generalize px (stepsL f n) k = x at *
  generalize py (stepsL g w) m = Y at *
  generalize px (stepsL g w) m = X at *
  have p1 := Int.mul_le_mul_of_nonneg_right t2 (show 0 ≤ a by omega)
  have lt2 : tL * b < tM * a := by
    have e1 : (Y * s.1 - s.2 * X) * a = Y * a * s.1 - s.2 * (X * a) := by grind
    have e2 : tL * b = y * s.1 * b - s.2 * (x * b) := by rw [t1]; grind
    rw [e1] at p1
    rw [Int.mul_sub] at ai
    omega
  have p2 := Int.mul_lt_mul_of_pos_right lt2 q0
  refine Int.lt_of_mul_lt_mul_right (a := a) ?_ (by omega)
  have e3 : wf * b * a = tL * b * q := by
    have : wf * b * a = wf * a * b := by grind
    rw [this, w1]; grind
  have e4 : wg * a * a = tM * a * q := by rw [w2]; grind
  rw [e3, e4]; exact p2
end Dg

set_option Elab.async false
set_option linter.all false
set_option maxHeartbeats 4000000
set_option maxRecDepth 100000
namespace Dg
open PySem L2
/-! ### curves that are the same -/
theorem hgt_le_sup {L : List Pr2} {a t u dx dy : Int} {j : Nat} (so : StOk L a a) (hv : ∀ z ∈ L, Vec z) (hp : L.Pairwise fun a b => 0 < cr a b) (a0 : 0 < a) (u0 : 0 < u) (t0 : 0 ≤ t) (tu : t ≤ u) (S : Sup L j dx dy) (dx0 : 0 < dx) :
    (hgt L a t u).1 * (dx * u * a) ≤ (py L j * dx * u + dy * (t * a - px L j * u)) * (hgt L a t u).2 := by
  obtain ⟨ex, ey, jk, ex0, S0, kj, jl, d1, d2, ca, H0, h20, hg⟩ := hgt_sup (t := t) (u := u) so hv hp a0 u0 t0 tu
  have le := cand_le S u0 (show kAt L a t u ≤ L.length by omega) jl d1 d2
  have y0 := cand_pos L a t u (kAt L a t u) jk
  generalize cand L a t u (kAt L a t u) jk = C at *
  generalize py L (kAt L a t u) * ex * u + ey * (t * a - px L (kAt L a t u) * u) = HT0 at *
  generalize py L j * dx * u + dy * (t * a - px L j * u) = HT at *
  generalize hgt L a t u = H at *
  have pe := Int.mul_pos ex0 u0
  have pc := Int.mul_pos y0 pe
  refine Int.le_of_mul_le_mul_right (a := C.2 * (ex * u)) ?_ pc
  have e1 : H.1 * (dx * u * a) * (C.2 * (ex * u)) = HT0 * C.2 * (dx * u) * H.2 := by
    have : H.1 * (dx * u * a) * (C.2 * (ex * u)) = H.1 * (ex * u * a) * C.2 * (dx * u) := by grind
    rw [this, hg]; grind
  rw [e1, ← ca]
  have p := Int.mul_le_mul_of_nonneg_right le (show 0 ≤ ex * u * H.2 from Int.mul_nonneg (by omega) (by omega))
  have e2 : C.1 * (ex * u) * (dx * u) * H.2 = C.1 * (dx * u) * (ex * u * H.2) := by grind
  have e3 : HT * H.2 * (C.2 * (ex * u)) = HT * C.2 * (ex * u * H.2) := by grind
  rw [e2, e3]; exact p
theorem hgt_ge_corner {L : List Pr2} {a t u : Int} {j : Nat} (so : StOk L a a) (hv : ∀ z ∈ L, Vec z) (hp : L.Pairwise fun a b => 0 < cr a b) (a0 : 0 < a) (u0 : 0 < u) (t0 : 0 ≤ t) (tu : t ≤ u) (hj : j ≤ L.length) (e : px L j * u = t * a) :
    py L j * (hgt L a t u).2 ≤ (hgt L a t u).1 * a := by
  obtain ⟨ex, ey, jk, ex0, S0, kj, jl, d1, d2, ca, H0, h20, hg⟩ := hgt_sup (t := t) (u := u) so hv hp a0 u0 t0 tu
  have le := cand_le (i := j) (j := j) (a := a) (t := t) S0 u0 hj hj (by omega) (by rw [Int.sub_self, Int.zero_mul]; omega)
  have ce : cand L a t u j j = (py L j, 1) := by unfold cand; rw [if_neg (by rw [Int.sub_self, Int.zero_mul]; omega)]
  rw [ce] at le
  simp only at le
  clear ca
  generalize py L (kAt L a t u) * ex * u + ey * (t * a - px L (kAt L a t u) * u) = HT0 at *
  generalize hgt L a t u = H at *
  have pe := Int.mul_pos ex0 u0
  refine Int.le_of_mul_le_mul_right (a := ex * u) ?_ pe
  have e1 : H.1 * a * (ex * u) = HT0 * H.2 := by rw [← hg]; grind
  have p := Int.mul_le_mul_of_nonneg_right le (show 0 ≤ H.2 by omega)
  have e2 : py L j * H.2 * (ex * u) = py L j * (ex * u) * H.2 := by grind
  have e3 : HT0 * 1 * H.2 = HT0 * H.2 := by grind
  rw [e1, e2, ← e3]; exact p
/-- a corner above a line that no corner of the other's lies above -/
theorem abv_of_line {L M : List Pr2} {a b dx dy : Int} {j k : Nat} (sm : StOk M b b) (hv : ∀ z ∈ M, Vec z) (hp : M.Pairwise fun a b => 0 < cr a b) (so : StOk L a a) (a0 : 0 < a) (b0 : 0 < b) (S : Sup M j dx dy) (dx0 : 0 < dx)
    (h : py M j * dx * a + dy * (px L k * b - px M j * a) < py L k * b * dx) : Abv M b L a k := by
  have bl := px_bds so k
  have le := hgt_le_sup (t := px L k) (u := a) sm hv hp b0 a0 bl.1 bl.2.1 S dx0
  obtain ⟨_, h2, _⟩ := hgt_seg (t := px L k) (u := a) sm b0 a0 bl.1 bl.2.1
  unfold Abv
  generalize hgt M b (px L k) a = H at *
  generalize py M j * dx * a + dy * (px L k * b - px M j * a) = HT at *
  have p := Int.mul_lt_mul_of_pos_right h h2
  have pd := Int.mul_pos dx0 b0
  refine Int.lt_of_mul_lt_mul_right (a := dx * b) ?_ (by omega)
  have e1 : H.1 * a * (dx * b) = H.1 * (dx * a * b) := by grind
  have e2 : py L k * H.2 * (dx * b) = py L k * b * dx * H.2 := by grind
  rw [e1, e2]
  exact Int.lt_of_le_of_lt le p
def Eqc (L : List Pr2) (a : Int) (M : List Pr2) (b : Int) (k : Nat) : Prop := px L k * b = px M k * a ∧ py L k * b = py M k * a
theorem Eqc.symm {L M : List Pr2} {a b : Int} {k : Nat} (h : Eqc L a M b k) : Eqc M b L a k := ⟨h.1.symm, h.2.symm⟩
section
variable {L M : List Pr2} {a b : Int} {k : Nat}
theorem no_steeper (so : StOk L a a) (sm : StOk M b b) (hv : ∀ z ∈ M, Vec z) (hp : M.Pairwise fun a b => 0 < cr a b) (hvL : ∀ z ∈ L, Vec z) (a0 : 0 < a) (b0 : 0 < b) (e : Eqc L a M b k) (h1 : k < L.length) (h2 : k < M.length)
    (N : ¬ Abv M b L a (k + 1)) : ¬ 0 < cr (L.getD k (0, 0)) (M.getD k (0, 0)) := fun c => by
  have S := sup_step hp h2
  have vs := vec_at hvL h1
  have vt := vec_at hv h2
  have sx := px_succ h1
  have sy := py_succ h1
  obtain ⟨e1, e2⟩ := e
  unfold cr at c
  generalize L.getD k (0, 0) = s at *
  generalize M.getD k (0, 0) = t at *
  have t1 : 0 < t.1 := by
    refine Int.not_le.mp fun z => ?_
    have z0 : t.1 = 0 := by have := vt.1; omega
    rw [z0, Int.mul_zero] at c
    have := Int.mul_nonneg vt.2.1 vs.1
    omega
  refine N (abv_of_line sm hv hp so a0 b0 S t1 ?_)
  rw [sx, sy]
  have p := Int.mul_lt_mul_of_pos_right (show t.2 * s.1 < s.2 * t.1 by omega) b0
  have f1 : py M k * t.1 * a + t.2 * ((px L k + s.1) * b - px M k * a) = py M k * a * t.1 + t.2 * (px L k * b - px M k * a) + t.2 * s.1 * b := by grind
  have f2 : (py L k + s.2) * b * t.1 = py L k * b * t.1 + s.2 * t.1 * b := by grind
  rw [f1, f2, e1, e2, Int.sub_self, Int.mul_zero]
  omega
theorem no_shorter (so : StOk L a a) (sm : StOk M b b) (hv : ∀ z ∈ L, Vec z) (hp : L.Pairwise fun a b => 0 < cr a b) (a0 : 0 < a) (b0 : 0 < b) (e : Eqc L a M b k) (h1 : k < L.length) (h2 : k < M.length)
    (par : cr (L.getD k (0, 0)) (M.getD k (0, 0)) = 0) (N : ∀ j, j < M.length + 1 → ¬ Abv L a M b j) : ¬ ((L.getD k (0, 0)).1 + (L.getD k (0, 0)).2) * b < ((M.getD k (0, 0)).1 + (M.getD k (0, 0)).2) * a := fun c => by
  have vs := vec_at hv h1
  have sx := px_succ h1
  have sy := py_succ h1
  have tx := px_succ h2
  have ty := py_succ h2
  have bm := px_bds sm (k + 1)
  obtain ⟨e1, e2⟩ := e
  by_cases z : k + 1 < L.length
  · have S := sup_step hp z
    have st := cr_at hp (show k < k + 1 by omega) z
    have vq := vec_at hv z
    unfold cr at st par
    generalize L.getD (k + 1) (0, 0) = q at *
    generalize L.getD k (0, 0) = s at *
    generalize M.getD k (0, 0) = t at *
    have q1 : 0 < q.1 := by
      refine Int.not_le.mp fun w => ?_
      have z0 : q.1 = 0 := by have := vq.1; omega
      rw [z0, Int.mul_zero] at st
      have := Int.mul_nonneg vq.2.1 vs.1
      omega
    refine N (k + 1) (by omega) (abv_of_line so hv hp sm b0 a0 S q1 ?_)
    have x1 : px M (k + 1) * a - px L (k + 1) * b = t.1 * a - s.1 * b := by rw [sx, tx, Int.add_mul, Int.add_mul]; omega
    have y1 : py M (k + 1) * a - py L (k + 1) * b = t.2 * a - s.2 * b := by rw [sy, ty, Int.add_mul, Int.add_mul]; omega
    rw [x1]
    have sg := Int.mul_pos (show 0 < (t.1 + t.2) * a - (s.1 + s.2) * b by omega) st
    have k1 : (s.1 + s.2) * (t.1 * a - s.1 * b) = s.1 * ((t.1 + t.2) * a - (s.1 + s.2) * b) := by
      have : s.2 * t.1 = t.2 * s.1 := by omega
      have f : (s.1 + s.2) * (t.1 * a - s.1 * b) = s.1 * t.1 * a + (s.2 * t.1) * a - (s.1 + s.2) * s.1 * b := by grind
      rw [f, this]; grind
    have k2 : (s.1 + s.2) * (t.2 * a - s.2 * b) = s.2 * ((t.1 + t.2) * a - (s.1 + s.2) * b) := by
      have : t.2 * s.1 = s.2 * t.1 := by omega
      have f : (s.1 + s.2) * (t.2 * a - s.2 * b) = (t.2 * s.1) * a + s.2 * t.2 * a - (s.1 + s.2) * s.2 * b := by grind
      rw [f, this]; grind
    have key : q.2 * (t.1 * a - s.1 * b) < q.1 * (t.2 * a - s.2 * b) := by
      refine Int.lt_of_mul_lt_mul_right (a := s.1 + s.2) ?_ (by have := vs.2.2; omega)
      have f1 : q.2 * (t.1 * a - s.1 * b) * (s.1 + s.2) = q.2 * s.1 * ((t.1 + t.2) * a - (s.1 + s.2) * b) := by
        have : q.2 * (t.1 * a - s.1 * b) * (s.1 + s.2) = q.2 * ((s.1 + s.2) * (t.1 * a - s.1 * b)) := by grind
        rw [this, k1]; grind
      have f2 : q.1 * (t.2 * a - s.2 * b) * (s.1 + s.2) = s.2 * q.1 * ((t.1 + t.2) * a - (s.1 + s.2) * b) := by
        have : q.1 * (t.2 * a - s.2 * b) * (s.1 + s.2) = q.1 * ((s.1 + s.2) * (t.2 * a - s.2 * b)) := by grind
        rw [this, k2]; grind
      rw [f1, f2]
      have f3 : ((t.1 + t.2) * a - (s.1 + s.2) * b) * (s.2 * q.1 - q.2 * s.1) = s.2 * q.1 * ((t.1 + t.2) * a - (s.1 + s.2) * b) - q.2 * s.1 * ((t.1 + t.2) * a - (s.1 + s.2) * b) := by grind
      omega
    have f4 : py M (k + 1) * a * q.1 = py L (k + 1) * q.1 * b + q.1 * (t.2 * a - s.2 * b) := by
      rw [← y1]; grind
    rw [f4]; omega
  · have el : k + 1 = L.length := by omega
    have xl : px L (k + 1) = a := by rw [el]; unfold px; rw [List.take_length]; exact so.s1
    have yl : py L (k + 1) = a := by rw [el]; unfold py; rw [List.take_length]; exact so.s2
    generalize L.getD k (0, 0) = s at *
    generalize M.getD k (0, 0) = t at *
    have m1 := Int.mul_le_mul_of_nonneg_right bm.2.1 (show 0 ≤ a by omega)
    have m2 := Int.mul_le_mul_of_nonneg_right bm.2.2.2 (show 0 ≤ a by omega)
    have f1 : (px L k + s.1) * b = a * b := by rw [← sx, xl]
    have f2 : (py L k + s.2) * b = a * b := by rw [← sy, yl]
    rw [tx] at m1
    rw [ty] at m2
    rw [Int.add_mul] at f1 f2 m1 m2 c
    rw [Int.add_mul] at c
    rw [Int.mul_comm b a] at m1 m2
    omega
theorem no_end (so : StOk L a a) (sm : StOk M b b) (hv : ∀ z ∈ M, Vec z) (a0 : 0 < a) (e : Eqc L a M b L.length) (h : L.length < M.length) : False := by
  have xl : px L L.length = a := by unfold px; rw [List.take_length]; exact so.s1
  have yl : py L L.length = a := by unfold py; rw [List.take_length]; exact so.s2
  obtain ⟨e1, e2⟩ := e
  rw [xl, Int.mul_comm a b] at e1
  rw [yl, Int.mul_comm a b] at e2
  have f1 := Int.eq_of_mul_eq_mul_right (show a ≠ 0 by omega) e1
  have f2 := Int.eq_of_mul_eq_mul_right (show a ≠ 0 by omega) e2
  have tx := px_succ h
  have ty := py_succ h
  have vt := vec_at hv h
  have bm := px_bds sm (L.length + 1)
  have := vt.2.2
  omega
/-- neither above the other: the same corners -/
theorem same_of_no (so : StOk L a a) (sm : StOk M b b) (hvL : ∀ z ∈ L, Vec z) (hpL : L.Pairwise fun a b => 0 < cr a b) (hvM : ∀ z ∈ M, Vec z) (hpM : M.Pairwise fun a b => 0 < cr a b) (a0 : 0 < a) (b0 : 0 < b)
    (N1 : ∀ j, j < M.length + 1 → ¬ Abv L a M b j) (N2 : ∀ j, j < L.length + 1 → ¬ Abv M b L a j) : L.length = M.length ∧ ∀ k, k < L.length + 1 → Eqc L a M b k := by
  have main : ∀ k, k ≤ L.length → k ≤ M.length → Eqc L a M b k := fun k => by
    induction k with
    | zero => intro _ _; exact ⟨by simp [px], by simp [py]⟩
    | succ k ih =>
      intro h1 h2
      have e := ih (by omega) (by omega)
      have n1 := no_steeper so sm hvM hpM hvL a0 b0 e (by omega) (by omega) (N2 (k + 1) (by omega))
      have n2 := no_steeper sm so hvL hpL hvM b0 a0 e.symm (by omega) (by omega) (N1 (k + 1) (by omega))
      have sw := cr_swap (L.getD k (0, 0)) (M.getD k (0, 0))
      have p1 : cr (L.getD k (0, 0)) (M.getD k (0, 0)) = 0 := by omega
      have p2 : cr (M.getD k (0, 0)) (L.getD k (0, 0)) = 0 := by omega
      have m1 := no_shorter so sm hvL hpL a0 b0 e (by omega) (by omega) p1 N1
      have m2 := no_shorter sm so hvM hpM b0 a0 e.symm (by omega) (by omega) p2 N2
      have eqs : ((L.getD k (0, 0)).1 + (L.getD k (0, 0)).2) * b = ((M.getD k (0, 0)).1 + (M.getD k (0, 0)).2) * a := by omega
      have vs := vec_at hvL (show k < L.length by omega)
      unfold Eqc
      rw [px_succ (show k < L.length by omega), py_succ (show k < L.length by omega), px_succ (show k < M.length by omega), py_succ (show k < M.length by omega)]
      unfold cr at p1
      obtain ⟨e1, e2⟩ := e
      generalize L.getD k (0, 0) = s at *
      generalize M.getD k (0, 0) = t at *
      have f0 : s.2 * t.1 = t.2 * s.1 := by omega
      have g1 : s.1 * b = t.1 * a := by
        refine Int.eq_of_mul_eq_mul_right (show s.1 + s.2 ≠ 0 by have := vs.2.2; omega) ?_
        have i1 : s.1 * b * (s.1 + s.2) = s.1 * ((s.1 + s.2) * b) := by grind
        have i2 : t.1 * a * (s.1 + s.2) = s.1 * t.1 * a + (s.2 * t.1) * a := by grind
        rw [i1, i2, eqs, f0]; grind
      have g2 : s.2 * b = t.2 * a := by rw [Int.add_mul, Int.add_mul] at eqs; omega
      exact ⟨by rw [Int.add_mul, Int.add_mul, e1, g1], by rw [Int.add_mul, Int.add_mul, e2, g2]⟩
  have len : L.length = M.length := by
    rcases Nat.lt_trichotomy L.length M.length with h | h | h
    · exact (no_end so sm hvM a0 (main _ (Nat.le_refl _) (by omega)) h).elim
    · exact h
    · exact (no_end sm so hvL b0 (main _ (by omega) (Nat.le_refl _)).symm h).elim
  exact ⟨len, fun k hk => main k (by omega) (by omega)⟩
/-- the same corners: none above -/
theorem no_of_same (so : StOk L a a) (sm : StOk M b b) (hvL : ∀ z ∈ L, Vec z) (hpL : L.Pairwise fun a b => 0 < cr a b) (a0 : 0 < a) (b0 : 0 < b) (len : L.length = M.length) (h : ∀ k, k < L.length + 1 → Eqc L a M b k) : ∀ j, j < M.length + 1 → ¬ Abv L a M b j := fun j hj => by
  obtain ⟨e1, e2⟩ := h j (by omega)
  have bm := px_bds sm j
  have g := hgt_ge_corner (t := px M j) (u := b) so hvL hpL a0 b0 bm.1 bm.2.1 (show j ≤ L.length by omega) e1
  unfold Abv
  generalize hgt L a (px M j) b = H at *
  refine Int.not_lt.mpr ?_
  refine Int.le_of_mul_le_mul_right (a := a) ?_ a0
  have p := Int.mul_le_mul_of_nonneg_right g (show 0 ≤ b by omega)
  have i1 : py L j * H.2 * b = py M j * H.2 * a := by
    have : py L j * H.2 * b = py L j * b * H.2 := by grind
    rw [this, e2]; grind
  have i2 : H.1 * a * b = H.1 * b * a := by grind
  rw [i1, i2] at p
  exact p
end
end Dg

set_option Elab.async false
set_option linter.all false
set_option maxHeartbeats 4000000
set_option maxRecDepth 100000
namespace Dg
open PySem L2
/-! ### the signs turned about: the same corners -/
theorem sumTo_shift (h : Nat → Int) : ∀ n : Nat, sumTo (n + 1) h = h 0 + sumTo n fun j => h (j + 1)
  | 0 => by simp [sumTo]
  | n + 1 => by
    have ih := sumTo_shift h n
    show sumTo (n + 1) h + h (n + 1) = h 0 + ((sumTo n fun j => h (j + 1)) + h (n + 1))
    rw [ih]; omega
theorem sumTo_rev (g : Nat → Int) : ∀ n : Nat, (sumTo n fun j => g (n - 1 - j)) = sumTo n g
  | 0 => rfl
  | n + 1 => by
    have ih := sumTo_rev g n
    rw [sumTo_shift]
    show g (n + 1 - 1 - 0) + _ = sumTo n g + g n
    have e : (sumTo n fun j => g (n + 1 - 1 - (j + 1))) = sumTo n fun j => g (n - 1 - j) := sumTo_congr fun j hj => by congr 1; omega
    rw [e, ih, show n + 1 - 1 - 0 = n by omega]; omega
def revF (n : Nat) (f : Nat → Nat → Int) : Nat → Nat → Int := fun i j => f i (n - 1 - j)
theorem GT.rev {m n : Nat} {a : Int} {f : Nat → Nat → Int} (G : GT m n a f) : GT m n a (revF n f) :=
  ⟨G.m0, G.w0, G.w12, G.b0, fun i hi j hj => G.nn i hi _ (by omega), fun i hi => by unfold revF; rw [sumTo_rev]; exact G.sum i hi⟩
theorem wrth_rev (n : Nat) (f : Nat → Nat → Int) (p : Int × Int) : wrth n (revF n f) p = wrth n f p := by
  unfold wrth revF
  exact sumTo_rev (fun j => mx (f 0 j * p.1 + f 1 j * p.2)) n
theorem rev_same {n : Nat} {a : Int} {f : Nat → Nat → Int} (G : GT 2 n a f) : (stepsL (revF n f) n).length = (stepsL f n).length ∧ ∀ k, k < (stepsL f n).length + 1 → crn (stepsL (revF n f) n) a k = crn (stepsL f n) a k := by
  have H := G.rev
  obtain ⟨so, sl⟩ := stepsL_ok G (by omega) n (Nat.le_refl _)
  rw [G.sum 0 (by omega), G.sum 1 (by omega)] at so
  obtain ⟨sm, sml⟩ := stepsL_ok H (by omega) n (Nat.le_refl _)
  rw [H.sum 0 (by omega), H.sum 1 (by omega)] at sm
  obtain ⟨hvL, hpL⟩ := steps_fall G (by omega) n (Nat.le_refl _)
  obtain ⟨hvM, hpM⟩ := steps_fall H (by omega) n (Nat.le_refl _)
  obtain ⟨len, eq⟩ := same_of_no so sm hvL hpL hvM hpM G.b0 G.b0 (fun j hj h => by
    have m := more_by G H (show j ≤ (stepsL (revF n f) n).length by omega) h
    rw [wrth_rev] at m
    omega) fun j hj h => by
    have m := more_by H G (show j ≤ (stepsL f n).length by omega) h
    rw [wrth_rev] at m
    omega
  have a0 := G.b0
  refine ⟨len.symm, fun k hk => ?_⟩
  obtain ⟨e1, e2⟩ := eq k hk
  unfold crn
  rw [Int.eq_of_mul_eq_mul_right (by omega) e1, Int.eq_of_mul_eq_mul_right (by omega) e2]
theorem rng_rev {n : Nat} (g : Nat → D) : ((List.range n).map g).reverse = (List.range n).map fun j => g (n - 1 - j) := by
  refine List.ext_getElem? fun i => ?_
  by_cases hi : i < n
  · rw [List.getElem?_reverse (by simpa using hi)]
    simp only [List.length_map, List.length_range, List.getElem?_map]
    rw [List.getElem?_range (by omega), List.getElem?_range hi]; rfl
  · rw [List.getElem?_eq_none (by simp; omega), List.getElem?_eq_none (by simp; omega)]
/-- every second one -/
theorem pick_two {α : Type} (n : Nat) (F : Nat → α) : Dg.pickA ((List.range (2 * n)).map F) none (some 2) = (List.range n).map fun k => F (2 * k) := by
  have e : stIx none (some 2) (2 * n) = (List.range n).map fun k => 2 * k := by
    unfold stIx sliceRange sliceBounds
    simp only [Option.getD_some]
    have c : (if (2 : Int) > 0 then (if (if (2 : Int) > 0 then 0 else ((2 * n : Nat) : Int) - 1) < (if (2 : Int) > 0 then ((2 * n : Nat) : Int) else -1) then ((if (2 : Int) > 0 then ((2 * n : Nat) : Int) else -1) - (if (2 : Int) > 0 then 0 else ((2 * n : Nat) : Int) - 1) + 2 - 1) / 2 else 0) else (if (if (2 : Int) > 0 then 0 else ((2 * n : Nat) : Int) - 1) > (if (2 : Int) > 0 then ((2 * n : Nat) : Int) else -1) then ((if (2 : Int) > 0 then 0 else ((2 * n : Nat) : Int) - 1) - (if (2 : Int) > 0 then ((2 * n : Nat) : Int) else -1) - 2 - 1) / (-2) else 0)).toNat = n := by
      simp only [show (2 : Int) > 0 by omega, if_true]
      split <;> omega
    rw [c]
    refine List.map_congr_left fun k hk => ?_
    simp only [show (2 : Int) > 0 by omega, if_true]
    omega
  unfold Dg.pickA
  rw [List.length_map, List.length_range, e]
  have : ∀ l : List Nat, (∀ k ∈ l, k < n) → ((l.map fun k => 2 * k).filterMap fun i => ((List.range (2 * n)).map F)[i]?) = l.map fun k => F (2 * k) := fun l => by
    induction l with
    | nil => intro _; rfl
    | cons k l ih =>
      intro h
      have hk := h k List.mem_cons_self
      have g : ((List.range (2 * n)).map F)[2 * k]? = some (F (2 * k)) := by rw [List.getElem?_map, List.getElem?_range (by omega)]; rfl
      rw [List.map_cons, List.filterMap_cons, g, List.map_cons, ih fun k hk => h k (List.mem_cons_of_mem _ hk)]
  exact this _ fun k hk => List.mem_range.mp hk
theorem pick_two1 {α : Type} (n : Nat) (F : Nat → α) : Dg.pickA ((List.range (2 * n)).map F) (some 1) (some 2) = (List.range n).map fun k => F (2 * k + 1) := by
  have e : stIx (some 1) (some 2) (2 * n) = (List.range n).map fun k => 2 * k + 1 := by
    unfold stIx sliceRange sliceBounds
    simp only [Option.getD_some, show (2 : Int) > 0 by omega, if_true, show ¬ ((1 : Int) < 0) by omega, if_false]
    rcases Nat.eq_zero_or_pos n with z | z
    · subst z; rfl
    · have m : max (0 : Int) (min 1 ((2 * n : Nat) : Int)) = 1 := by omega
      rw [m]
      have c : (if (1 : Int) < ((2 * n : Nat) : Int) then (((2 * n : Nat) : Int) - 1 + 2 - 1) / 2 else 0).toNat = n := by split <;> omega
      rw [c]
      refine List.map_congr_left fun k hk => ?_
      omega
  unfold Dg.pickA
  rw [List.length_map, List.length_range, e]
  have : ∀ l : List Nat, (∀ k ∈ l, k < n) → ((l.map fun k => 2 * k + 1).filterMap fun i => ((List.range (2 * n)).map F)[i]?) = l.map fun k => F (2 * k + 1) := fun l => by
    induction l with
    | nil => intro _; rfl
    | cons k l ih =>
      intro h
      have hk := h k List.mem_cons_self
      have g : ((List.range (2 * n)).map F)[2 * k + 1]? = some (F (2 * k + 1)) := by rw [List.getElem?_map, List.getElem?_range (by omega)]; rfl
      rw [List.map_cons, List.filterMap_cons, g, List.map_cons, ih fun k hk => h k (List.mem_cons_of_mem _ hk)]
  exact this _ fun k hk => List.mem_range.mp hk
end Dg

set_option Elab.async false
set_option linter.all false
set_option maxHeartbeats 4000000
set_option maxRecDepth 100000
namespace Dg
open PySem L2
theorem nbA3 : ∀ (l : List D), (∀ d ∈ l, d.nb 3 = true) → D.nbA l 3 = true
  | [], _ => rfl
  | d :: l, h => by show (d.nb 3 && D.nbA l 3) = true; rw [h d List.mem_cons_self, nbA3 l fun d hd => h d (List.mem_cons_of_mem _ hd)]; rfl
theorem eqD_self (c : Cs) {d : D} {n : Nat} (h : d.nb n = true) (hn : n ≤ 64 := by omega) : eqD c d d = some (.bl true) := by
  rw [eqD_nb c h h hn hn, D.is_iff.mpr rfl]
theorem right43 {n : Nat} {a : Int} {f : Nat → Nat → Int} (G : GT 2 n a f) (ba : Bd 200 a) (c : Cs) : m_Lright_5da97 [glD a (tab 2 n f)] c = .ok (.v (.bl true)) c := by
  have c1 := curve_spec G ba (by omega) c
  have c2 := curve_spec G.rev ba (by omega) c
  have lc := lcorners_spec G ba (by omega) c
  obtain ⟨so, sl⟩ := stepsL_ok G (by omega) n (Nat.le_refl _)
  rw [G.sum 0 (by omega), G.sum 1 (by omega)] at so
  have bds := fun k => px_bds so k
  have a0 := G.b0
  have n12 := G.w12
  obtain ⟨len, same⟩ := rev_same G
  have cl1 := crnT_clean (stepsL f n) a ((stepsL f n).length + 1)
  have hd1 := crnT_d (stepsL f n) a ((stepsL f n).length + 1)
  have cl2 := crnT_clean (stepsL (revF n f) n) a ((stepsL (revF n f) n).length + 1)
  have hd2 := crnT_d (stepsL (revF n f) n) a ((stepsL (revF n f) n).length + 1)
  have e2 : ((List.range ((stepsL (revF n f) n).length + 1)).map fun j => cnD (crn (stepsL (revF n f) n) a j)) = (List.range ((stepsL f n).length + 1)).map fun j => cnD (crn (stepsL f n) a j) := by
    rw [len]
    exact List.map_congr_left fun k hk => by rw [same k (List.mem_range.mp hk)]
  rw [e2] at hd2
  have cl3 := prT_clean (cns (stepsL f n) ((stepsL f n).length + 1))
  have hd3 := prT_d (cns (stepsL f n) ((stepsL f n).length + 1))
  have nb : (D.lst ((List.range ((stepsL f n).length + 1)).map fun j => cnD (crn (stepsL f n) a j))).nb 4 = true := by
    show D.nbA _ 3 = true
    refine nbA3 _ fun d hd => ?_
    obtain ⟨k, _, rfl⟩ := List.mem_map.mp hd
    rfl
  have es := eqD_self c nb
  have ln1 : lenD c [.lst ((List.range ((stepsL f n).length + 1)).map fun j => cnD (crn (stepsL f n) a j))] = some (.int (((stepsL f n).length + 1 : Nat) : Int)) := by simp [lenD]
  have ln2 : lenD c [.lst ((cns (stepsL f n) ((stepsL f n).length + 1)).map shD)] = some (.int (((stepsL f n).length + 1 : Nat) : Int)) := by simp [lenD, cns]
  have at1 := fun {k : Nat} (h : k < (stepsL f n).length + 1) => crn_at (L := stepsL f n) (a := a) h c
  have at2 := fun {k : Nat} (h : k < (stepsL f n).length + 1) => cns_at (L := stepsL f n) h c
  have lt1 : lenD c [.tup []] = some (.int 0) := rfl
  have st := fun (z : Int) (h : 0 ≤ z ∧ z ≤ a) => stands_spec (shr z a).1 (shr z a).2 z a c (low_shr (by omega)) (shr_cross (by omega)) ((ba.le (j := z) (by omega)).le (shr_le (a := z) (b := a) (by omega)).1).big (ba.le (shr_le (a := z) (b := a) (by omega)).2).big (ba.le (by omega)).big ba.big
  -- the last corner
  have xl : px (stepsL f n) (stepsL f n).length = a := by unfold px; rw [List.take_length]; exact so.s1
  have yl : py (stepsL f n) (stepsL f n).length = a := by unfold py; rw [List.take_length]; exact so.s2
  have sh1 : shr a a = (1, 1) := by
    have : shr a a = shr 1 1 := (shr_eq (by omega) (by omega)).mpr (by omega)
    rw [this]; decide +kernel
  have lastD : ixD c (.lst ((List.range ((stepsL f n).length + 1)).map fun j => cnD (crn (stepsL f n) a j))) (.int (-1)) = some (.tup [.tup [.int 1, .int 1], .tup [.int 1, .int 1]]) := by
    have e : cnD (crn (stepsL f n) a (stepsL f n).length) = .tup [.tup [.int 1, .int 1], .tup [.int 1, .int 1]] := by unfold crn; rw [xl, yl, sh1]; rfl
    simp only [ixD]
    rw [List.range_succ, List.map_append]
    show atI (_ ++ [cnD (crn (stepsL f n) a (stepsL f n).length)]) (-1) = _
    rw [e]
    generalize (List.range (stepsL f n).length).map (fun j => cnD (crn (stepsL f n) a j)) = l
    unfold atI ixN
    simp
    rw [if_pos (by omega), Option.bind_some, show (-1 + ((l.length : Int) + 1)).toNat = l.length by omega]
    simp
  have e1 := eqD_self c (d := .tup [.tup [.int 1, .int 1], .tup [.int 1, .int 1]]) (n := 3) (by decide +kernel)
  -- the glass turned about
  have A0 := gl0 c a (tab 2 n f)
  have A1 := gl1 c a (tab 2 n f)
  have row0 : ∀ i : Nat, i < 2 → stepD (rowT ((List.range n).map fun j => f i j)) none (some (-1)) = some (rowT ((List.range n).map fun j => revF n f i j)) := fun i hi => by
    show (if (none : Option Int) = none ∧ some (-1 : Int) = some (-1) then some (D.tup (((List.range n).map fun j => f i j).map D.int).reverse) else none) = _
    rw [if_pos ⟨rfl, rfl⟩, List.map_map, rng_rev]
    unfold rowT
    rw [List.map_map]; rfl
  have hr : rwT (tab 2 n f) = .tup ((List.range 2).map fun i => rowT ((List.range n).map fun j => f i j)) := by unfold rwT tab; rw [List.map_map]; rfl
  have hr2 : D.tup ((List.range 2).map fun i => rowT ((List.range n).map fun j => revF n f i j)) = rwT (tab 2 n (revF n f)) := by unfold rwT tab; rw [List.map_map]; rfl
  have hg : D.tup [.int a, rwT (tab 2 n (revF n f))] = glD a (tab 2 n (revF n f)) := rfl
  have fr := fun e i => keepD_rowT e ((List.range n).map fun j => revF n f i j)
  have frw := fun e => keepD_rwT e (tab 2 n (revF n f))
  have fE : D.flatA ((List.range ((stepsL f n).length + 1)).map fun j => cnD (crn (stepsL f n) a j)) = true := by rw [D.flatA_all]; simp [cnD, shD]
  have t1 : ∀ p, kitQ (tyN (cnD p)) "tuple" = some true := fun _ => rfl
  have tl : ∀ p, lenD c [cnD p] = some (.int 2) := fun _ => rfl
  clear c1
  have c1 := curve_spec G ba (by omega) c
  generalize hLl : (stepsL f n).length + 1 = N at *
  have hN : N < 1000 := by omega
  generalize stepsL f n = L at *
  generalize crnT (stepsL (revF n f) n) a ((stepsL (revF n f) n).length + 1) = V2 at *
  generalize hE : (List.range N).map (fun j => cnD (crn L a j)) = E at *
  generalize hC : (cns L N).map shD = CC at *
  generalize crnT L a N = V1 at *
  generalize prT (cns L N) = V3 at *
  generalize hAR : glD a (tab 2 n (revF n f)) = AR at *
  generalize hA : glD a (tab 2 n f) = A at *
  have hd1 : T.dA V1 = E := D.lst.inj hd1
  have hd2 : T.dA V2 = E := D.lst.inj hd2
  have hd3 : T.dA V3 = CC := D.lst.inj hd3
  have V1l : V1.length < LIM := by
    have : (T.dA V1).length = E.length := by rw [hd1]
    rw [T.dA_map, List.length_map] at this
    rw [this, ← hE, List.length_map, List.length_range]
    show N < 1000000; omega
  refine runB_wp ?_
  (unfold b_Lright_5da97; simp only [en0, List.map_cons, List.map_nil, List.length_cons, List.length_nil, List.replicate, List.cons_append, List.nil_append])
  refine wp_seq (e' := [some (.v A), some (.ol V1), none, none, none, none, none]) (c' := c) (by simp [c1]) ?_
  refine wp_seq (e' := [some (.v A), some (.ol V1), some (.v (.lst CC)), none, none, none, none]) (c' := c) (by simp [lc, cl3, hd3]) ?_
  refine wp_seq (e' := [some (.v A), some (.ol V1), some (.v (.lst CC)), none, none, none, none]) (c' := c) (by
    have ty : kitQ (tyN (.lst E)) "list" = some true := rfl
    simp [hd1, ty, ln1, ln2]) ?_
  refine wp_for (fun k : Nat => .int k) N (fun k e c' => c' = c ∧ ∃ x3 : Option T, e = [some (.v A), some (.ol V1), some (.v (.lst CC)), x3, none, none, none]) (it_rng (by simp [ln2]) (by omega)) ⟨rfl, none, rfl⟩ (fun k hk e c' he => ?_) fun e c' he => ?_
  · obtain ⟨rfl, x3, rfl⟩ := he
    (refine ⟨_, rfl, ?_⟩; simp only [List.set_cons_succ, List.set_cons_zero])
    have a1 := at1 hk
    have a2 := at2 hk
    have b := bds k
    have s1 := st (px L k) ⟨b.1, b.2.1⟩
    have s2 := st (py L k) ⟨b.2.2.1, b.2.2.2⟩
    have s1' : m_Lstands_for_a1c40 [shD (shr (px L k) a), .int (px L k), .int a] c' = .ok (.v (.bl true)) c' := s1
    have s2' : m_Lstands_for_a1c40 [shD (shr (py L k) a), .int (py L k), .int a] c' = .ok (.v (.bl true)) c' := s2
    have i0 : ixD c' (cnD (crn L a k)) (.int 0) = some (shD (shr (px L k) a)) := rfl
    have i1 : ixD c' (cnD (crn L a k)) (.int 1) = some (shD (shr (py L k) a)) := rfl
    have j0 : ixD c' (shD (px L k, py L k)) (.int 0) = some (.int (px L k)) := rfl
    have j1 : ixD c' (shD (px L k, py L k)) (.int 1) = some (.int (py L k)) := rfl
    have t1 := t1 (crn L a k)
    have tl := tl (crn L a k)
    generalize cnD (crn L a k) = C at *
    generalize shD (px L k, py L k) = P at *
    generalize shD (shr (px L k) a) = PX at *
    generalize shD (shr (py L k) a) = PY at *
    generalize ((k : Nat) : Int) = K at *
    refine wp_seq (e' := [some (.v A), some (.ol V1), some (.v (.lst CC)), some (.v (.int K)), none, none, none]) (c' := c') (by simp [hd1, a1, t1, tl]) ?_
    refine wp_seq (e' := [some (.v A), some (.ol V1), some (.v (.lst CC)), some (.v (.int K)), none, none, none]) (c' := c') (by simp [hd1, a1, a2, A0, i0, j0, s1']) ?_
    exact wp_end (fl := .nx [some (.v A), some (.ol V1), some (.v (.lst CC)), some (.v (.int K)), none, none, none]) (c' := c') (by simp [hd1, a1, a2, A0, i1, j1, s2']) ⟨_, rfl, rfl, _, rfl⟩
  · obtain ⟨rfl, x3, rfl⟩ := he
    have lD : listD c' [.lst E] = some (.lst E) := rfl
    refine wp_seq (e' := [some (.v A), some (.ol V1), some (.v (.lst CC)), x3, some (.v (.lst E)), none, none]) (c' := c') (by simp [hd1, lD, fE, T.dA_v]) ?_
    refine wp_seq (e' := [some (.v A), some (.ol (V1 ++ [T.v .non])), some (.v (.lst CC)), x3, some (.v (.lst E)), none, none]) (c' := c') (by simp [V1l]) ?_
    refine wp_seq (e' := [some (.v A), some (.ol (V1 ++ [T.v .non])), some (.v (.lst CC)), x3, some (.v (.lst E)), some (.v AR), none]) (c' := c') (by
      have cm := comp_eq (vs := [6]) (tg := tgN 6) (it := itSeq (oIx (oVar 0) (mC (.int 1)))) (f := oD (pSt (mVar 6) none (some (op1 negD (mC (.int 1)))))) (e := [some (.v A), some (.ol (V1 ++ [T.v .non])), some (.v (.lst CC)), x3, some (.v (.lst E)), none, none]) (c := c') (n := 2) (fun i => rowT ((List.range n).map fun j => f i j)) (fun i => T.v (rowT ((List.range n).map fun j => revF n f i j))) (by
        rw [hr] at A1
        generalize ((List.range 2).map fun i => rowT ((List.range n).map fun j => f i j)) = RS at *
        simp [A1]) (by omega) (fun i hi => ⟨_, rfl, by
          have r := row0 i hi
          have f' := fun e => fr e i
          generalize rowT ((List.range n).map fun j => f i j) = R1 at *
          generalize rowT ((List.range n).map fun j => revF n f i j) = R2 at *
          simp [negD, r, f']⟩)
      have td : tupleD c' [.lst ((List.range 2).map fun i => rowT ((List.range n).map fun j => revF n f i j))] = some (rwT (tab 2 n (revF n f))) := by rw [← hr2]; simp [tupleD]
      have dd : (T.ol ((List.range 2).map fun i => T.v (rowT ((List.range n).map fun j => revF n f i j)))).d = .lst ((List.range 2).map fun i => rowT ((List.range n).map fun j => revF n f i j)) := by
        show D.lst (T.dA _) = _
        rw [dA_mapf]; rfl
      generalize (oComp [6] (itSeq (oIx (oVar 0) (mC (.int 1)))) (tgN 6) tY (oD (pSt (mVar 6) none (some (op1 negD (mC (.int 1))))))) = Y at *
      generalize T.ol ((List.range 2).map fun i => T.v (rowT ((List.range n).map fun j => revF n f i j))) = TV at *
      generalize ((List.range 2).map fun i => rowT ((List.range n).map fun j => revF n f i j)) = RS2 at *
      generalize rwT (tab 2 n (revF n f)) = RW at *
      simp [A0, cm, dd, td, frw, partsV, hg]) ?_
    exact wp_end (fl := .rt (.v (.bl true))) (c' := c') (by simp [negD, lastD, e1, c1, cl1, hd1, es, c2, cl2, hd2]) ⟨rfl, rfl⟩
theorem sumTo_app (h : Nat → Int) (n : Nat) : ∀ m : Nat, sumTo (n + m) h = sumTo n h + sumTo m fun j => h (n + j)
  | 0 => by simp [sumTo]
  | m + 1 => by
    have ih := sumTo_app h n m
    show sumTo (n + m) h + h (n + m) = sumTo n h + ((sumTo m fun j => h (n + j)) + h (n + m))
    rw [ih]; omega
def parF (n : Nat) (f : Nat → Nat → Int) (p q : Int) : Nat → Nat → Int := fun i j => if j < n then f i j * p else f i (j - n) * q
theorem par_gt {n : Nat} {a p q : Int} {f : Nat → Nat → Int} (G : GT 2 n a f) (h6 : n ≤ 6) (p0 : 0 ≤ p) (q0 : 0 ≤ q) (e : p + q = 5) : GT 2 (n + n) (5 * a) (parF n f p q) :=
  ⟨by omega, by have := G.w0; omega, by omega, by have := G.b0; omega, fun i hi j hj => by
    unfold parF
    split
    · exact Int.mul_nonneg (G.nn i hi j (by assumption)) p0
    · exact Int.mul_nonneg (G.nn i hi (j - n) (by omega)) q0, fun i hi => by
    rw [sumTo_app]
    have e1 : sumTo n (parF n f p q i) = sumTo n fun j => f i j * p := sumTo_congr fun j hj => by unfold parF; rw [if_pos hj]
    have e2 : (sumTo n fun j => parF n f p q i (n + j)) = sumTo n fun j => f i j * q := sumTo_congr fun j hj => by
      unfold parF; rw [if_neg (by omega), show n + j - n = j by omega]
    rw [e1, e2, sumTo_mulr, sumTo_mulr, G.sum i hi, ← Int.mul_add, e]; omega⟩
theorem par_row {n : Nat} (u v : Nat → D) : (List.range n).map u ++ (List.range n).map v = (List.range (n + n)).map fun j => if j < n then u j else v (j - n) := by
  rw [List.range_add, List.map_append, List.map_map]
  congr 1
  · exact List.map_congr_left fun j hj => by rw [if_pos (List.mem_range.mp hj)]
  · refine List.map_congr_left fun j hj => ?_
    show v j = if n + j < n then _ else v (n + j - n)
    rw [if_neg (by omega), show n + j - n = j by omega]
theorem parted_spec {n : Nat} {a z0 z1 : Int} {f : Nat → Nat → Int} (G : GT 2 n a f) (ba : Bd 20 a) (h0 : 0 ≤ z0) (h1 : 0 ≤ z1) (c : Cs) : ∃ m b g, GT 2 m b g ∧ Bd 100 b ∧ m_Lparted_91e29 [glD a (tab 2 n f), .lst [.int z0, .int z1]] c = .ok (.v (glD b (tab 2 m g))) c := by
  have n12 := G.w12
  have A0 := gl0 c a (tab 2 n f)
  have A1 := gl1 c a (tab 2 n f)
  have r0 : ixD c (rwT (tab 2 n f)) (.int 0) = some (rowT ((List.range n).map fun j => f 0 j)) := rw_at c (m := 2) (w := n) (f := f) (i := 0) (by omega)
  have l0 := row_len c n (f 0)
  have x0 : ixD c (.lst [.int z0, .int z1]) (.int 0) = some (.int z0) := rfl
  have x1 : ixD c (.lst [.int z0, .int z1]) (.int 1) = some (.int z1) := rfl
  have md := modD_sm (c := c) (x := z1) (y := 5) (by omega)
  by_cases out : 0 < z0 ∨ 6 < n
  · refine ⟨n, a, f, G, ba.up, ?_⟩
    generalize glD a (tab 2 n f) = A at *
    generalize rwT (tab 2 n f) = RW at *
    generalize rowT ((List.range n).map fun j => f 0 j) = R0 at *
    generalize D.lst [.int z0, .int z1] = XS at *
    refine runB_wp ?_
    (unfold b_Lparted_91e29; simp only [en0, List.map_cons, List.map_nil, List.length_cons, List.length_nil, List.replicate, List.cons_append, List.nil_append])
    refine wp_seq (e' := [some (.v A), some (.v XS), some (.v (.int n)), none, none, none, none]) (c' := c) (by simp [A1, r0, l0]) ?_
    refine wp_out (t := .v A) (c' := c) (by
      by_cases z : 0 < z0
      · simp [x0, z]
      · have h6 : (6 : Int) < (n : Int) := by omega
        simp [x0, z, h6]) ⟨rfl, rfl⟩
  · have z : ¬ 0 < z0 := fun h => out (.inl h)
    have h6 : ¬ (6 : Int) < (n : Int) := fun h => out (.inr (by omega))
    obtain ⟨p, hp⟩ : ∃ p : Int, p = z1 % 5 := ⟨_, rfl⟩
    have p0 : 0 ≤ p := by omega
    have p5 : p < 5 := by omega
    have GP := par_gt G (by omega) p0 (show 0 ≤ 5 - p by omega) (by omega)
    have b5 : Bd 100 (5 * a) := ((Bd.of (k := 3) (by decide)).mul ba).up
    have e2 := made_spec GP.good (by omega) b5 (by decide) false false c
    have g' := GP.good.gls
    rw [redR_tab] at e2 g'
    refine ⟨n + n, _, _, GP.red, b5.le (by have := GP.good.le_red; have := GP.good.redB0; omega), ?_⟩
    have hrs : (tab 2 (n + n) (parF n f p (5 - p))).map (rowQ false) = (List.range 2).map fun i => D.lst ((List.range (n + n)).map fun j => .int (parF n f p (5 - p) i j)) := by
      unfold tab
      rw [List.map_map]
      refine List.map_congr_left fun i hi => ?_
      show D.lst (List.map D.int (List.map _ _)) = _
      rw [List.map_map]; rfl
    have e2' : m_Lmade_c9de9 [.int (5 * a), .lst ((List.range 2).map fun i => D.lst ((List.range (n + n)).map fun j => .int (parF n f p (5 - p) i j)))] c = .ok (.v (glD (redB (5 * a) (tab 2 (n + n) (parF n f p (5 - p)))) (tab 2 (n + n) (rdF 2 (n + n) (parF n f p (5 - p)))))) c := by
      rw [← hrs]; exact e2
    have fB := flat_glD (redB (5 * a) (tab 2 (n + n) (parF n f p (5 - p)))) (tab 2 (n + n) (rdF 2 (n + n) (parF n f p (5 - p))))
    have hr : rwT (tab 2 n f) = .tup ((List.range 2).map fun i => rowT ((List.range n).map fun j => f i j)) := by unfold rwT tab; rw [List.map_map]; rfl
    have m5 : mulD c (.int 5) (.int a) = some (.int (5 * a)) := mulD_int (okMul_of (k := 3) (l := 20) (Bd.of (by decide)) ba)
    have mp : ∀ x : Int, mulD c (.int x) (.int p) = some (.int (x * p)) := fun x => mul_sm (by omega)
    have mq : ∀ x : Int, mulD c (.int x) (.int (5 - p)) = some (.int (x * (5 - p))) := fun x => mul_sm (by omega)
    have s5 : subD c (.int 5) (.int p) = some (.int (5 - p)) := rfl
    have at' : ∀ i k, k < n → ixD c (rowT ((List.range n).map fun j => f i j)) (.int (k : Nat)) = some (.int (f i k)) := fun i k hk => row_ix c hk
    have it2 : ∀ (e : En) (x : T), e[0]? = some (some (.v (glD a (tab 2 n f)))) → itSeq (oIx (oVar 0) (mC (.int 1))) e c = .ok ((List.range 2).map fun i => rowT ((List.range n).map fun j => f i j)) c := fun e x he => by
      rw [hr] at A1
      generalize ((List.range 2).map fun i => rowT ((List.range n).map fun j => f i j)) = RS at *
      simp [he, A1]
    clear e2 hrs
    generalize glD (redB (5 * a) (tab 2 (n + n) (parF n f p (5 - p)))) (tab 2 (n + n) (rdF 2 (n + n) (parF n f p (5 - p)))) = B at *
    generalize glD a (tab 2 n f) = A at *
    generalize rwT (tab 2 n f) = RW at *
    generalize rowT ((List.range n).map fun j => f 0 j) = R0 at *
    generalize D.lst [.int z0, .int z1] = XS at *
    refine runB_wp ?_
    (unfold b_Lparted_91e29; simp only [en0, List.map_cons, List.map_nil, List.length_cons, List.length_nil, List.replicate, List.cons_append, List.nil_append])
    refine wp_seq (e' := [some (.v A), some (.v XS), some (.v (.int n)), none, none, none, none]) (c' := c) (by simp [A1, r0, l0]) ?_
    refine wp_seq (e' := [some (.v A), some (.v XS), some (.v (.int n)), none, none, none, none]) (c' := c) (by simp [x0, z, h6]) ?_
    refine wp_seq (e' := [some (.v A), some (.v XS), some (.v (.int n)), some (.ol []), none, none, none]) (c' := c) (by simp) ?_
    refine wp_for (fun i => rowT ((List.range n).map fun j => f i j)) 2 (fun i e c' => c' = c ∧ ∃ x4 x5 x6 : Option T, e = [some (.v A), some (.v XS), some (.v (.int n)), some (.ol ((List.range i).map fun i => T.ol (((List.range (n + n)).map fun j => D.int (parF n f p (5 - p) i j)).map T.v))), x4, x5, x6]) (it2 _ (.v A) rfl) ⟨rfl, none, none, none, rfl⟩ (fun i hi e c' he => ?_) fun e c' he => ?_
    · obtain ⟨rfl, x4, x5, x6, rfl⟩ := he
      (refine ⟨_, rfl, ?_⟩; simp only [List.set_cons_succ, List.set_cons_zero])
      have at' := at' i
      generalize rowT ((List.range n).map fun j => f i j) = R at *
      have nx : ((List.range (i + 1)).map fun i => T.ol (((List.range (n + n)).map fun j => D.int (parF n f p (5 - p) i j)).map T.v)) = ((List.range i).map fun i => T.ol (((List.range (n + n)).map fun j => D.int (parF n f p (5 - p) i j)).map T.v)) ++ [T.ol (((List.range (n + n)).map fun j => D.int (parF n f p (5 - p) i j)).map T.v)] := by rw [List.range_succ, List.map_append]; rfl
      rw [nx]
      have lV : ((List.range i).map fun i => T.ol (((List.range (n + n)).map fun j => D.int (parF n f p (5 - p) i j)).map T.v)).length < LIM := by rw [List.length_map, List.length_range]; show i < 1000000; omega
      generalize ((List.range i).map fun i => T.ol (((List.range (n + n)).map fun j => D.int (parF n f p (5 - p) i j)).map T.v)) = V at *
      refine wp_seq (e' := [some (.v A), some (.v XS), some (.v (.int n)), some (.ol V), some (.v R), some (.v (.lst [])), x6]) (c' := c') (by simp) ?_
      refine wp_for (fun k : Nat => .int k) n (fun k e c2 => c2 = c' ∧ ∃ x6 : Option T, e = [some (.v A), some (.v XS), some (.v (.int n)), some (.ol V), some (.v R), some (.v (.lst ((List.range (2 * k)).map fun q => D.int (if q % 2 = 0 then f i (q / 2) * p else f i (q / 2) * (5 - p))))), x6]) (it_rng (by simp) (by omega)) ⟨rfl, x6, rfl⟩ (fun k hk e c2 he => ?_) fun e c2 he => ?_
      · obtain ⟨rfl, x6, rfl⟩ := he
        (refine ⟨_, rfl, ?_⟩; simp only [List.set_cons_succ, List.set_cons_zero])
        have nx2 : ((List.range (2 * (k + 1))).map fun q => D.int (if q % 2 = 0 then f i (q / 2) * p else f i (q / 2) * (5 - p))) = ((List.range (2 * k)).map fun q => D.int (if q % 2 = 0 then f i (q / 2) * p else f i (q / 2) * (5 - p))) ++ [D.int (f i k * p), D.int (f i k * (5 - p))] := by
          rw [show 2 * (k + 1) = 2 * k + 1 + 1 by omega, List.range_succ, List.range_succ, List.map_append, List.map_append, List.append_assoc]
          congr 1
          show [D.int (if 2 * k % 2 = 0 then f i (2 * k / 2) * p else f i (2 * k / 2) * (5 - p))] ++ [D.int (if (2 * k + 1) % 2 = 0 then f i ((2 * k + 1) / 2) * p else f i ((2 * k + 1) / 2) * (5 - p))] = _
          rw [if_pos (by omega), if_neg (by omega), show 2 * k / 2 = k by omega, show (2 * k + 1) / 2 = k by omega]; rfl
        rw [nx2]
        have lL : ((List.range (2 * k)).map fun q => D.int (if q % 2 = 0 then f i (q / 2) * p else f i (q / 2) * (5 - p))).length + 2 < LIM := by rw [List.length_map, List.length_range]; show 2 * k + 2 < 1000000; omega
        have fL : D.flatA ((List.range (2 * k)).map fun q => D.int (if q % 2 = 0 then f i (q / 2) * p else f i (q / 2) * (5 - p))) = true := by rw [D.flatA_all]; simp
        generalize ((List.range (2 * k)).map fun q => D.int (if q % 2 = 0 then f i (q / 2) * p else f i (q / 2) * (5 - p))) = LL at *
        have a1 := at' k hk
        rw [← hp] at md
        have mp := mp (f i k)
        have mq := mq (f i k)
        generalize f i k * p = P1 at *
        generalize f i k * (5 - p) = P2 at *
        generalize ((k : Nat) : Int) = K at *
        generalize 5 - p = q5 at *
        exact wp_end (fl := .nx [some (.v A), some (.v XS), some (.v (.int n)), some (.ol V), some (.v R), some (.v (.lst (LL ++ [D.int P1, D.int P2]))), some (.v (.int K))]) (c' := c2) (by simp [x1, a1, md, mp, s5, mq, addD, lL, fL, T.dA_v]) ⟨_, rfl, rfl, _, rfl⟩
      · obtain ⟨rfl, x6, rfl⟩ := he
        have p1 := pick_two n fun q => D.int (if q % 2 = 0 then f i (q / 2) * p else f i (q / 2) * (5 - p))
        have p2 := pick_two1 n fun q => D.int (if q % 2 = 0 then f i (q / 2) * p else f i (q / 2) * (5 - p))
        have d1 : stepD (.lst ((List.range (2 * n)).map fun q => D.int (if q % 2 = 0 then f i (q / 2) * p else f i (q / 2) * (5 - p)))) none (some 2) = some (.lst ((List.range n).map fun k => D.int (f i k * p))) := by
          show (if (some (2 : Int)) = some 0 then none else some (D.lst (Dg.pickA _ none (some 2)))) = _
          rw [if_neg (by simp), p1]
          congr 2
          refine List.map_congr_left fun k hk => ?_
          rw [if_pos (by omega), show 2 * k / 2 = k by omega]
        have d2 : stepD (.lst ((List.range (2 * n)).map fun q => D.int (if q % 2 = 0 then f i (q / 2) * p else f i (q / 2) * (5 - p)))) (some 1) (some 2) = some (.lst ((List.range n).map fun k => D.int (f i k * (5 - p)))) := by
          show (if (some (2 : Int)) = some 0 then none else some (D.lst (Dg.pickA _ (some 1) (some 2)))) = _
          rw [if_neg (by simp), p2]
          congr 2
          refine List.map_congr_left fun k hk => ?_
          rw [if_neg (by omega), show (2 * k + 1) / 2 = k by omega]
        have ad : addD c2 (.lst ((List.range n).map fun k => D.int (f i k * p))) (.lst ((List.range n).map fun k => D.int (f i k * (5 - p)))) = some (.lst ((List.range (n + n)).map fun j => D.int (parF n f p (5 - p) i j))) := by
          rw [addD_lst, if_pos (by simp; show n + n < 1000000; omega), par_row]
          congr 2
          refine List.map_congr_left fun j hj => ?_
          unfold parF
          split <;> rfl
        have fl : D.flatA ((List.range (n + n)).map fun j => D.int (parF n f p (5 - p) i j)) = true := by rw [D.flatA_all]; simp
        generalize ((List.range (2 * n)).map fun q => D.int (if q % 2 = 0 then f i (q / 2) * p else f i (q / 2) * (5 - p))) = LL at *
        generalize ((List.range (n + n)).map fun j => D.int (parF n f p (5 - p) i j)) = L3 at *
        generalize D.lst ((List.range n).map fun k => D.int (f i k * p)) = L1 at *
        generalize D.lst ((List.range n).map fun k => D.int (f i k * (5 - p))) = L2 at *
        exact wp_end (fl := .nx [some (.v A), some (.v XS), some (.v (.int n)), some (.ol (V ++ [T.ol (L3.map T.v)])), some (.v R), some (.v (.lst LL)), x6]) (c' := c2) (by simp [d1, d2, ad, fl, lV]) ⟨_, rfl, rfl, _, _, _, rfl⟩
    · obtain ⟨rfl, x4, x5, x6, rfl⟩ := he
      have dd : T.dA ((List.range 2).map fun i => T.ol (((List.range (n + n)).map fun j => D.int (parF n f p (5 - p) i j)).map T.v)) = (List.range 2).map fun i => D.lst ((List.range (n + n)).map fun j => .int (parF n f p (5 - p) i j)) := by
        rw [dA_mapf]
        refine List.map_congr_left fun i hi => ?_
        show D.lst (T.dA _) = _
        rw [T.dA_v]
      generalize ((List.range 2).map fun i => T.ol (((List.range (n + n)).map fun j => D.int (parF n f p (5 - p) i j)).map T.v)) = V at *
      generalize ((List.range 2).map fun i => D.lst ((List.range (n + n)).map fun j => D.int (parF n f p (5 - p) i j))) = E at *
      exact wp_end (fl := .rt (.v B)) (c' := c') (by simp [A0, m5, dd, e2', fB]) ⟨rfl, rfl⟩
theorem nofit43 {A : D} (c : Cs) (h : m_curve_6c79e [A] c = .err "NoFit" c) : m_Lis_no_fit_45fb8 [A] c = .ok (.v (.bl true)) c := by
  have hL : (["NoFit", "NoShare"] : List Str).contains "NoFit" = true := by decide +kernel
  have hI : ((["NoFit"] : List Str).any (subE "NoFit")) = true := by decide +kernel
  have j3 : isiC ["NoFit", "NoShare"] ["NoFit"] (mVar 1) [some (.v A), some (.v (.exc "NoFit")), none] c = .ok (.bl true) c := by
    simp only [isiC, mVar, List.getElem?_cons_succ, List.getElem?_cons_zero, R.bind, T.d, isiE_exc, hL, hI, if_true, R.of]
  refine runB_wp ?_
  (unfold b_Lis_no_fit_45fb8; simp only [en0, List.map_cons, List.map_nil, List.length_cons, List.length_nil, List.replicate, List.cons_append, List.nil_append])
  generalize isiC ["NoFit", "NoShare"] ["NoFit"] (mVar 1) = A3 at *
  refine wp_seq (e' := [some (.v A), some (.v .non), none]) (c' := c) (by simp) ?_
  refine wp_seq (e' := [some (.v A), some (.v (.exc "NoFit")), none]) (c' := c) (by
    have hb : (sDrop (callP m_curve_6c79e [(mVar 0)])) [some (.v A), some (.v .non), none] c = .ok (.er "NoFit" [some (.v A), some (.v .non), none]) c := by simp [h]
    simp only [sTry, hb, hL]
    simp) ?_
  exact wp_end (fl := .rt (.v (.bl true))) (c' := c) (by simp [j3]) ⟨rfl, rfl⟩
theorem law_right (ns : List Int) (hn : ns.length ≤ 63) : m_law_0d8e6 [.scr ns] [] = .ok (.v (.bl true)) [] := by
  obtain ⟨m0, hm0⟩ : ∃ m : Int, max2D [] [.int 2, .int (ns.length : Int)] = some (.int m) ∧ 0 ≤ m ∧ m ≤ 63 := ⟨_, rfl, by split <;> omega, by split <;> omega⟩
  obtain ⟨k0, hk0⟩ : ∃ k : Int, min2D [] [.int 11, .int m0] = some (.int k) ∧ 0 ≤ k ∧ k ≤ 63 := ⟨_, rfl, by split <;> omega, by split <;> omega⟩
  have k1 : inR k0 := inR_of (by omega) (by omega)
  have i1 : inR 1 := inR_of (by omega) (by omega)
  refine runB_wp ?_
  (unfold b_law_0d8e6; simp only [en0, List.map_cons, List.map_nil, List.length_cons, List.length_nil, List.replicate, List.cons_append, List.nil_append])
  refine wp_forM0 (rngL 1 (k0 - 1).toNat) (fun e => ∃ x1 x2 x3 : Option D, e = [some (.v (.scr ns)), x1.map T.v, x2.map T.v, x3.map T.v]) (by simp [hm0, hk0, k1, i1]) ⟨none, none, none, rfl⟩ (fun d hd e he => ?_) fun e he => ?_
  · obtain ⟨j, hj, rfl⟩ := mem_rngL hd
    obtain ⟨x1, x2, x3, rfl⟩ := he
    obtain ⟨at', hat, hl⟩ : ∃ at' : Nat, (1 + (j : Int)) = (at' : Int) ∧ at' < 300 := ⟨1 + j, by omega, by omega⟩
    rw [hat]
    clear hd hj hat
    (refine ⟨_, rfl, ?_⟩; simp only [List.set_cons_succ, List.set_cons_zero])
    obtain ⟨m, n, a, f, G, g1, lo, hi, n12, a6, e1⟩ := lglass_spec ns at' 2 4 12 [] hn (by omega) (by omega) (by omega) (by omega) (by omega) (by omega)
    have ba : Bd 20 a := Bd.of (by have := G.b0; omega)
    obtain ⟨b, g, G2, g21, bb, ble, e2, cr⟩ := made_two (G.two lo) (by omega) ba (by omega) []
    have sl := two_of (n := n) (f := f) lo []
    obtain ⟨rs, hr, e3⟩ := drawn_spec ns (at' + 1) [3, 5] [] hn (by omega) (by decide +kernel) (by decide)
    obtain ⟨z0, r0, rfl, p0, q0, hr⟩ := hr.cons
    obtain ⟨z1, r1, rfl, p1, q1, hr⟩ := hr.cons
    rw [hr.nil] at e3
    have e3' : m_Ldrawn_902e8 [.scr ns, .int ((at' : Int) + 1), .lst [.int 3, .int 5]] [] = .ok (.ol [T.v (.int z0), T.v (.int z1)]) [] := e3
    obtain ⟨m', b', g', G3, bb', e4⟩ := parted_spec G2 bb p0 p1 []
    have r1 := right43 G3 bb'.up []
    obtain ⟨bn, fn, GN, gn1, bbn, e5⟩ := near_spec ns at' [] hn (by omega)
    have r2 := right43 GN bbn.up []
    have nf : 2 < m → m_Lis_no_fit_45fb8 [glD a (tab m n f)] [] = .ok (.v (.bl true)) [] := fun h => nofit43 [] (curve_no (by omega) [])
    have A0 := gl0 [] a (tab m n f)
    have A1 := gl1 [] a (tab m n f)
    have lm : lenD [] [rwT (tab m n f)] = some (.int (m : Nat)) := by simp [lenD, rwT, tab]
    have e1' : m_Lglass_995d4 [.scr ns, .int at', .lst [.int 2, .int 4], .int 12] [] = .ok (.v (glD a (tab m n f))) [] := e1
    have fS := fun e => keepD_rwT e (tab 2 n f)
    clear e1 e3
    generalize glD a (tab m n f) = A at *
    generalize glD b (tab 2 n g) = B at *
    generalize glD b' (tab 2 m' g') = C at *
    generalize glD bn (tab 2 3 fn) = N at *
    generalize rwT (tab m n f) = RW at *
    generalize rwT (tab 2 n f) = SA at *
    have hm : (2 : Int) < (m : Int) ↔ 2 < m := by omega
    have t0 : ∀ x y : D, ixD [] (.tup [x, y]) (.int 0) = some x := fun _ _ => rfl
    have t1 : ∀ x y : D, ixD [] (.tup [x, y]) (.int 1) = some y := fun _ _ => rfl
    refine wp_seq (e' := [some (.v (.scr ns)), some (.v (.int at')), some (.v A), x3.map T.v]) (c' := []) (by simp [e1']) ?_
    refine wp_seq (e' := [some (.v (.scr ns)), some (.v (.int at')), some (.v A), some (.v (.tup [.int a, SA]))]) (c' := []) (by simp [A0, A1, sl, fS, partsV]) ?_
    refine wp_seq (e' := [some (.v (.scr ns)), some (.v (.int at')), some (.v A), some (.v B)]) (c' := []) (by simp [t0, t1, e2]) ?_
    refine wp_seq (e' := [some (.v (.scr ns)), some (.v (.int at')), some (.v A), some (.v B)]) (c' := []) (by simp [addD, e3', e4, r1]) ?_
    refine wp_seq (e' := [some (.v (.scr ns)), some (.v (.int at')), some (.v A), some (.v B)]) (c' := []) (by
      by_cases h : 2 < m
      · have nf := nf h
        simp [A1, lm, hm, h, nf]
      · simp [A1, lm, hm, h]) ?_
    exact wp_end (fl := .nx [some (.v (.scr ns)), some (.v (.int at')), some (.v A), some (.v B)]) (c' := []) (by simp [e5, r2]) ⟨_, rfl, rfl, some (.int at'), some A, some B, rfl⟩
  · obtain ⟨x1, x2, x3, rfl⟩ := he
    exact wp_end (fl := .rt (.v (.bl true))) (c' := []) (by simp) ⟨rfl, rfl⟩
end Dg

set_option Elab.async false
set_option linter.all false
set_option maxRecDepth 100000
set_option maxHeartbeats 4000000
namespace Dg
open PySem PySem.Spec PyProof.Rows L2
def top (i : Nat) : Stmt := PySem.Challenge.pw_dullglass_k43_curves.main.body.getD i (.Pass ⟨0, 0, 0, 0⟩)
abbrev st_is_whole : Stmt := top 5
abbrev names_is_whole : List Str := ["thing"]
theorem sc_is_whole : FnScope names_is_whole ["thing"] (defScope st_is_whole) := ⟨rfl, rfl, rfl, by decide +kernel, rfl, by decide +kernel, by decide +kernel⟩
abbrev st_common : Stmt := top 6
abbrev names_common : List Str := ["one", "other", "rest"]
theorem sc_common : FnScope names_common ["one", "other"] (defScope st_common) := ⟨rfl, rfl, rfl, by decide +kernel, rfl, by decide +kernel, by decide +kernel⟩
abbrev st_share : Stmt := top 7
abbrev names_share : List Str := ["top", "bottom", "divisor"]
theorem sc_share : FnScope names_share ["top", "bottom"] (defScope st_share) := ⟨rfl, rfl, rfl, by decide +kernel, rfl, by decide +kernel, by decide +kernel⟩
abbrev st_stands : Stmt := top 9
abbrev names_stands : List Str := ["glass"]
theorem sc_stands : FnScope names_stands ["glass"] (defScope st_stands) := ⟨rfl, rfl, rfl, by decide +kernel, rfl, by decide +kernel, by decide +kernel⟩
abbrev st_two_stands : Stmt := top 11
abbrev names_two_stands : List Str := ["glass"]
theorem sc_two_stands : FnScope names_two_stands ["glass"] (defScope st_two_stands) := ⟨rfl, rfl, rfl, by decide +kernel, rfl, by decide +kernel, by decide +kernel⟩
abbrev st_is_steeper : Stmt := top 12
abbrev names_is_steeper : List Str := ["one", "other"]
theorem sc_is_steeper : FnScope names_is_steeper ["one", "other"] (defScope st_is_steeper) := ⟨rfl, rfl, rfl, by decide +kernel, rfl, by decide +kernel, by decide +kernel⟩
abbrev st_steps_of : Stmt := top 13
abbrev names_steps_of : List Str := ["glass", "found", "step", "at"]
theorem sc_steps_of : FnScope names_steps_of ["glass"] (defScope st_steps_of) := ⟨rfl, rfl, rfl, by decide +kernel, rfl, by decide +kernel, by decide +kernel⟩
abbrev st_curve : Stmt := top 14
abbrev names_curve : List Str := ["glass", "x", "y", "found", "step"]
theorem sc_curve : FnScope names_curve ["glass"] (defScope st_curve) := ⟨rfl, rfl, rfl, by decide +kernel, rfl, by decide +kernel, by decide +kernel⟩
abbrev st_Ldrawn : Stmt := top 16
abbrev names_Ldrawn : List Str := ["_law_script", "_law_at", "_law_sizes", "_law_cell", "_law_found", "_law_top", "_law_first", "_law_k", "_law_second"]
theorem sc_Ldrawn : FnScope names_Ldrawn ["_law_script", "_law_at", "_law_sizes"] (defScope st_Ldrawn) := ⟨rfl, rfl, rfl, by decide +kernel, rfl, by decide +kernel, by decide +kernel⟩
abbrev st_Lcommon : Stmt := top 17
abbrev names_Lcommon : List Str := ["_law_one", "_law_other", "_law_rest"]
theorem sc_Lcommon : FnScope names_Lcommon ["_law_one", "_law_other"] (defScope st_Lcommon) := ⟨rfl, rfl, rfl, by decide +kernel, rfl, by decide +kernel, by decide +kernel⟩
abbrev st_Lmade : Stmt := top 18
abbrev names_Lmade : List Str := ["_law_bottom", "_law_rows_here", "_law_factor", "_law_row", "_law_number", "_law_found"]
theorem sc_Lmade : FnScope names_Lmade ["_law_bottom", "_law_rows_here"] (defScope st_Lmade) := ⟨rfl, rfl, rfl, by decide +kernel, rfl, by decide +kernel, by decide +kernel⟩
abbrev st_Lcut : Stmt := top 19
abbrev names_Lcut : List Str := ["_law_bottom", "_law_cuts", "_law_row", "_law_last", "_law_cut_here"]
theorem sc_Lcut : FnScope names_Lcut ["_law_bottom", "_law_cuts"] (defScope st_Lcut) := ⟨rfl, rfl, rfl, by decide +kernel, rfl, by decide +kernel, by decide +kernel⟩
abbrev st_Lrows : Stmt := top 20
abbrev names_Lrows : List Str := ["_law_script", "_law_at", "_law_heights", "_law_most", "_law_sizes", "_law_head", "_law_many", "_law_bottom", "_law_cuts", "_law_rows_here", "_law_k", "_law_at_row"]
theorem sc_Lrows : FnScope names_Lrows ["_law_script", "_law_at", "_law_heights", "_law_most"] (defScope st_Lrows) := ⟨rfl, rfl, rfl, by decide +kernel, rfl, by decide +kernel, by decide +kernel⟩
abbrev st_Lglass : Stmt := top 21
abbrev names_Lglass : List Str := ["_law_script", "_law_at", "_law_heights", "_law_most", "_law_bottom", "_law_rows_here"]
theorem sc_Lglass : FnScope names_Lglass ["_law_script", "_law_at", "_law_heights", "_law_most"] (defScope st_Lglass) := ⟨rfl, rfl, rfl, by decide +kernel, rfl, by decide +kernel, by decide +kernel⟩
abbrev st_Lwhole : Stmt := top 22
abbrev names_Lwhole : List Str := ["_law_found"]
theorem sc_Lwhole : FnScope names_Lwhole ["_law_found"] (defScope st_Lwhole) := ⟨rfl, rfl, rfl, by decide +kernel, rfl, by decide +kernel, by decide +kernel⟩
abbrev st_Lis_share : Stmt := top 23
abbrev names_Lis_share : List Str := ["_law_found", "_law_one", "_law_other", "_law_rest"]
theorem sc_Lis_share : FnScope names_Lis_share ["_law_found"] (defScope st_Lis_share) := ⟨rfl, rfl, rfl, by decide +kernel, rfl, by decide +kernel, by decide +kernel⟩
abbrev st_Lstands_for : Stmt := top 24
abbrev names_Lstands_for : List Str := ["_law_found", "_law_top", "_law_bottom"]
theorem sc_Lstands_for : FnScope names_Lstands_for ["_law_found", "_law_top", "_law_bottom"] (defScope st_Lstands_for) := ⟨rfl, rfl, rfl, by decide +kernel, rfl, by decide +kernel, by decide +kernel⟩
abbrev st_Lsteeper : Stmt := top 25
abbrev names_Lsteeper : List Str := ["_law_one", "_law_other"]
theorem sc_Lsteeper : FnScope names_Lsteeper ["_law_one", "_law_other"] (defScope st_Lsteeper) := ⟨rfl, rfl, rfl, by decide +kernel, rfl, by decide +kernel, by decide +kernel⟩
abbrev st_Lsteps : Stmt := top 26
abbrev names_Lsteps : List Str := ["_law_glass_here", "_law_left", "_law_k", "_law_found", "_law_lead", "_law_step", "_law_same"]
theorem sc_Lsteps : FnScope names_Lsteps ["_law_glass_here"] (defScope st_Lsteps) := ⟨rfl, rfl, rfl, by decide +kernel, rfl, by decide +kernel, by decide +kernel⟩
abbrev st_Lcorners : Stmt := top 27
abbrev names_Lcorners : List Str := ["_law_glass_here", "_law_x", "_law_y", "_law_found", "_law_step"]
theorem sc_Lcorners : FnScope names_Lcorners ["_law_glass_here"] (defScope st_Lcorners) := ⟨rfl, rfl, rfl, by decide +kernel, rfl, by decide +kernel, by decide +kernel⟩
abbrev st_Lnear : Stmt := top 28
abbrev names_Lnear : List Str := ["_law_script", "_law_at", "_law_xs", "_law_first", "_law_rest", "_law_pairs", "_law_rows_here", "_law_pair"]
theorem sc_Lnear : FnScope names_Lnear ["_law_script", "_law_at"] (defScope st_Lnear) := ⟨rfl, rfl, rfl, by decide +kernel, rfl, by decide +kernel, by decide +kernel⟩
abbrev st_Lright : Stmt := top 29
abbrev names_Lright : List Str := ["_law_glass_here", "_law_found", "_law_due", "_law_k", "_law_again", "_law_turned", "_law_row"]
theorem sc_Lright : FnScope names_Lright ["_law_glass_here"] (defScope st_Lright) := ⟨rfl, rfl, rfl, by decide +kernel, rfl, by decide +kernel, by decide +kernel⟩
abbrev st_Lis_no_fit : Stmt := top 30
abbrev names_Lis_no_fit : List Str := ["_law_glass_here", "_law_caught", "error"]
theorem sc_Lis_no_fit : FnScope names_Lis_no_fit ["_law_glass_here"] (defScope st_Lis_no_fit) := ⟨rfl, rfl, rfl, by decide +kernel, rfl, by decide +kernel, by decide +kernel⟩
abbrev st_Lparted : Stmt := top 31
abbrev names_Lparted : List Str := ["_law_glass_here", "_law_xs", "_law_size", "_law_rows_here", "_law_row", "_law_line", "_law_k"]
theorem sc_Lparted : FnScope names_Lparted ["_law_glass_here", "_law_xs"] (defScope st_Lparted) := ⟨rfl, rfl, rfl, by decide +kernel, rfl, by decide +kernel, by decide +kernel⟩
abbrev st_law : Stmt := top 32
abbrev names_law : List Str := ["_law_script", "_law_at", "_law_glass_here", "_law_two"]
theorem sc_law : FnScope names_law ["_law_script"] (defScope st_law) := ⟨rfl, rfl, rfl, by decide +kernel, rfl, by decide +kernel, by decide +kernel⟩
structure Txt (K : PySem.W.Frag) (mg : Str → Option Value) (a_is_whole a_common a_share a_stands a_two_stands a_is_steeper a_steps_of a_curve a__law_drawn a__law_common a__law_made a__law_cut a__law_rows a__law_glass a__law_whole a__law_is_share a__law_stands_for a__law_steeper a__law_steps a__law_corners a__law_near a__law_right a__law_is_no_fit a__law_parted a_law c_NoFit c_NoShare c_GlassError : Addr) (d_is_whole d_common d_share d_stands d_two_stands d_is_steeper d_steps_of d_curve d__law_drawn d__law_common d__law_made d__law_cut d__law_rows d__law_glass d__law_whole d__law_is_share d__law_stands_for d__law_steeper d__law_steps d__law_corners d__law_near d__law_right d__law_is_no_fit d__law_parted d_law : FuncData) : Prop where
  g_is_whole : mg "is_whole" = some (.ref a_is_whole)
  F_is_whole : Fun K "is_whole" "is_whole" st_is_whole a_is_whole d_is_whole
  b_is_whole : Binds K d_is_whole ["thing"] []
  g_common : mg "common" = some (.ref a_common)
  F_common : Fun K "common" "common" st_common a_common d_common
  b_common : Binds K d_common ["one", "other"] []
  g_share : mg "share" = some (.ref a_share)
  F_share : Fun K "share" "share" st_share a_share d_share
  b_share : Binds K d_share ["top", "bottom"] []
  g_stands : mg "stands" = some (.ref a_stands)
  F_stands : Fun K "stands" "stands" st_stands a_stands d_stands
  b_stands : Binds K d_stands ["glass"] []
  g_two_stands : mg "two_stands" = some (.ref a_two_stands)
  F_two_stands : Fun K "two_stands" "two_stands" st_two_stands a_two_stands d_two_stands
  b_two_stands : Binds K d_two_stands ["glass"] []
  g_is_steeper : mg "is_steeper" = some (.ref a_is_steeper)
  F_is_steeper : Fun K "is_steeper" "is_steeper" st_is_steeper a_is_steeper d_is_steeper
  b_is_steeper : Binds K d_is_steeper ["one", "other"] []
  g_steps_of : mg "steps_of" = some (.ref a_steps_of)
  F_steps_of : Fun K "steps_of" "steps_of" st_steps_of a_steps_of d_steps_of
  b_steps_of : Binds K d_steps_of ["glass"] []
  g_curve : mg "curve" = some (.ref a_curve)
  F_curve : Fun K "curve" "curve" st_curve a_curve d_curve
  b_curve : Binds K d_curve ["glass"] []
  g__law_drawn : mg "_law_drawn" = some (.ref a__law_drawn)
  F__law_drawn : Fun K "_law_drawn" "_law_drawn" st_Ldrawn a__law_drawn d__law_drawn
  b__law_drawn : Binds K d__law_drawn ["_law_script", "_law_at", "_law_sizes"] []
  g__law_common : mg "_law_common" = some (.ref a__law_common)
  F__law_common : Fun K "_law_common" "_law_common" st_Lcommon a__law_common d__law_common
  b__law_common : Binds K d__law_common ["_law_one", "_law_other"] []
  g__law_made : mg "_law_made" = some (.ref a__law_made)
  F__law_made : Fun K "_law_made" "_law_made" st_Lmade a__law_made d__law_made
  b__law_made : Binds K d__law_made ["_law_bottom", "_law_rows_here"] []
  g__law_cut : mg "_law_cut" = some (.ref a__law_cut)
  F__law_cut : Fun K "_law_cut" "_law_cut" st_Lcut a__law_cut d__law_cut
  b__law_cut : Binds K d__law_cut ["_law_bottom", "_law_cuts"] []
  g__law_rows : mg "_law_rows" = some (.ref a__law_rows)
  F__law_rows : Fun K "_law_rows" "_law_rows" st_Lrows a__law_rows d__law_rows
  b__law_rows : Binds K d__law_rows ["_law_script", "_law_at", "_law_heights", "_law_most"] []
  g__law_glass : mg "_law_glass" = some (.ref a__law_glass)
  F__law_glass : Fun K "_law_glass" "_law_glass" st_Lglass a__law_glass d__law_glass
  b__law_glass : Binds K d__law_glass ["_law_script", "_law_at", "_law_heights", "_law_most"] []
  g__law_whole : mg "_law_whole" = some (.ref a__law_whole)
  F__law_whole : Fun K "_law_whole" "_law_whole" st_Lwhole a__law_whole d__law_whole
  b__law_whole : Binds K d__law_whole ["_law_found"] []
  g__law_is_share : mg "_law_is_share" = some (.ref a__law_is_share)
  F__law_is_share : Fun K "_law_is_share" "_law_is_share" st_Lis_share a__law_is_share d__law_is_share
  b__law_is_share : Binds K d__law_is_share ["_law_found"] []
  g__law_stands_for : mg "_law_stands_for" = some (.ref a__law_stands_for)
  F__law_stands_for : Fun K "_law_stands_for" "_law_stands_for" st_Lstands_for a__law_stands_for d__law_stands_for
  b__law_stands_for : Binds K d__law_stands_for ["_law_found", "_law_top", "_law_bottom"] []
  g__law_steeper : mg "_law_steeper" = some (.ref a__law_steeper)
  F__law_steeper : Fun K "_law_steeper" "_law_steeper" st_Lsteeper a__law_steeper d__law_steeper
  b__law_steeper : Binds K d__law_steeper ["_law_one", "_law_other"] []
  g__law_steps : mg "_law_steps" = some (.ref a__law_steps)
  F__law_steps : Fun K "_law_steps" "_law_steps" st_Lsteps a__law_steps d__law_steps
  b__law_steps : Binds K d__law_steps ["_law_glass_here"] []
  g__law_corners : mg "_law_corners" = some (.ref a__law_corners)
  F__law_corners : Fun K "_law_corners" "_law_corners" st_Lcorners a__law_corners d__law_corners
  b__law_corners : Binds K d__law_corners ["_law_glass_here"] []
  g__law_near : mg "_law_near" = some (.ref a__law_near)
  F__law_near : Fun K "_law_near" "_law_near" st_Lnear a__law_near d__law_near
  b__law_near : Binds K d__law_near ["_law_script", "_law_at"] []
  g__law_right : mg "_law_right" = some (.ref a__law_right)
  F__law_right : Fun K "_law_right" "_law_right" st_Lright a__law_right d__law_right
  b__law_right : Binds K d__law_right ["_law_glass_here"] []
  g__law_is_no_fit : mg "_law_is_no_fit" = some (.ref a__law_is_no_fit)
  F__law_is_no_fit : Fun K "_law_is_no_fit" "_law_is_no_fit" st_Lis_no_fit a__law_is_no_fit d__law_is_no_fit
  b__law_is_no_fit : Binds K d__law_is_no_fit ["_law_glass_here"] []
  g__law_parted : mg "_law_parted" = some (.ref a__law_parted)
  F__law_parted : Fun K "_law_parted" "_law_parted" st_Lparted a__law_parted d__law_parted
  b__law_parted : Binds K d__law_parted ["_law_glass_here", "_law_xs"] []
  g_law : mg "law" = some (.ref a_law)
  F_law : Fun K "law" "law" st_law a_law d_law
  b_law : Binds K d_law ["_law_script"] []
  n_abs : mg "abs" = none
  n_bool : mg "bool" = none
  n_enumerate : mg "enumerate" = none
  n_int : mg "int" = none
  n_isinstance : mg "isinstance" = none
  n_len : mg "len" = none
  n_list : mg "list" = none
  n_max : mg "max" = none
  n_min : mg "min" = none
  n_range : mg "range" = none
  n_sorted : mg "sorted" = none
  n_sum : mg "sum" = none
  n_tuple : mg "tuple" = none
  n_zip : mg "zip" = none
  g_NoFit : mg "NoFit" = some (.ref c_NoFit)
  x_NoFit : PySem.W.excIn K c_NoFit [.type "ValueError", .type "Exception", .type "BaseException", .type "object"] "ValueError.__new__" = true
  k_NoFit : PySem.W.keepIn K (.ref c_NoFit) = true
  s_NoFit : PySem.W.subIn K (.ref c_NoFit) (.type "BaseException") = some true
  t_NoFit : PySem.W.typeIn K (.ref c_NoFit) = some (.type "type")
  g_NoShare : mg "NoShare" = some (.ref c_NoShare)
  x_NoShare : PySem.W.excIn K c_NoShare [.type "ValueError", .type "Exception", .type "BaseException", .type "object"] "ValueError.__new__" = true
  k_NoShare : PySem.W.keepIn K (.ref c_NoShare) = true
  s_NoShare : PySem.W.subIn K (.ref c_NoShare) (.type "BaseException") = some true
  t_NoShare : PySem.W.typeIn K (.ref c_NoShare) = some (.type "type")
  g_GlassError : mg "GlassError" = some (.ref c_GlassError)
  m_NoFit : PySem.W.nsIn K mainGlobals "NoFit" = some (some (.ref c_NoFit))
  X_NoFit : ExcC K c_NoFit
  m_NoShare : PySem.W.nsIn K mainGlobals "NoShare" = some (some (.ref c_NoShare))
  X_NoShare : ExcC K c_NoShare
  h_NoFit_GlassError : PySem.W.exmOne K (.ref c_NoFit) (.ref c_GlassError) = some true
  h_NoShare_GlassError : PySem.W.exmOne K (.ref c_NoShare) (.ref c_GlassError) = some true
  k_NoFit_NoFit : PySem.W.kitOne K (.ref c_NoFit) (.ref c_NoFit) = some true
  k_NoShare_NoFit : PySem.W.kitOne K (.ref c_NoShare) (.ref c_NoFit) = some false
  kn_NoFit : PySem.W.kitOne K (.type "NoneType") (.ref c_NoFit) = some false
section
variable {P : Program} {w : World} {K : PySem.W.Frag} {mg : Str → Option Value} {base : Heap} {a_is_whole a_common a_share a_stands a_two_stands a_is_steeper a_steps_of a_curve a__law_drawn a__law_common a__law_made a__law_cut a__law_rows a__law_glass a__law_whole a__law_is_share a__law_stands_for a__law_steeper a__law_steps a__law_corners a__law_near a__law_right a__law_is_no_fit a__law_parted a_law c_NoFit c_NoShare c_GlassError : Addr} {d_is_whole d_common d_share d_stands d_two_stands d_is_steeper d_steps_of d_curve d__law_drawn d__law_common d__law_made d__law_cut d__law_rows d__law_glass d__law_whole d__law_is_share d__law_stands_for d__law_steeper d__law_steps d__law_corners d__law_near d__law_right d__law_is_no_fit d__law_parted d_law : FuncData}
theorem ok_Ldrawn (T : Txt K mg a_is_whole a_common a_share a_stands a_two_stands a_is_steeper a_steps_of a_curve a__law_drawn a__law_common a__law_made a__law_cut a__law_rows a__law_glass a__law_whole a__law_is_share a__law_stands_for a__law_steeper a__law_steps a__law_corners a__law_near a__law_right a__law_is_no_fit a__law_parted a_law c_NoFit c_NoShare c_GlassError d_is_whole d_common d_share d_stands d_two_stands d_is_steeper d_steps_of d_curve d__law_drawn d__law_common d__law_made d__law_cut d__law_rows d__law_glass d__law_whole d__law_is_share d__law_stands_for d__law_steeper d__law_steps d__law_corners d__law_near d__law_right d__law_is_no_fit d__law_parted d_law) : FnOk P w K mg base (L2.CX P w) 1 a__law_drawn d__law_drawn ["_law_script", "_law_at", "_law_sizes"] (spM K mg 3 m_Ldrawn_902e8) := by
  refine ok_def (ms := b_Ldrawn_902e8) T.F__law_drawn sc_Ldrawn rfl rfl fun cdv A outer s H E hr => ?_
  have nd := sc_Ldrawn.nd
  exact (dss_cons (ds_set (i := 3) nd rfl (by first | exact Or.inl rfl | exact Or.inr rfl) (do_p dp_int))
      (dss_cons (ds_if (dt_cmp op_lt sem_cmp (dp_var 1 (pv 1)) (dp_callB call_len sem_len (by rfl) T.n_len (by decide +kernel) (dpa_cons (dp_var 0 (pv 0)) dpa_nil)) (nomark _)) (dss_one (ds_set (i := 3) nd rfl (by first | exact Or.inl rfl | exact Or.inr rfl) (do_ix (do_var 0 (pv 0)) (dp_var 1 (pv 1)) (fun _ _ => rfl)))) dss_nil)
      (dss_cons (ds_set (i := 4) nd rfl (by first | exact Or.inl rfl | exact Or.inr rfl) (do_lst doa_nil))
      (dss_cons (ds_if (dt_cmp (op_eqD hr.units) sem_eq (dp_op op_mod sem_mod (dp_ix ix_seq sem_ix (dp_op op_addAll sem_add (dp_var 0 (pv 0)) (dp_o (do_lst (doa_cons (do_p dp_int) doa_nil)))) dp_int (fun _ _ => rfl)) dp_int) dp_int (nomark _)) (dss_cons (ds_for (passes_of rfl) rfl (di_seq (do_var 2 (pv 2))) (pg_name (i := 5) nd rfl (by first | exact Or.inl rfl | exact Or.inr rfl)) dg_name (dss_cons (ds_app 4 (pv 4) (do_p (dp_op op_mod sem_mod (dp_var 3 (pv 3)) (dp_var 5 (pv 5)))))
      (dss_one (ds_set (i := 3) nd rfl (by first | exact Or.inl rfl | exact Or.inr rfl) (do_p (dp_op op_dvW sem_div (dp_var 3 (pv 3)) (dp_var 5 (pv 5))))))))
      (dss_one (ds_retV 4 (pv 4)))) dss_nil)
      (dss_cons (ds_set (i := 6) nd rfl (by first | exact Or.inl rfl | exact Or.inr rfl) (do_f (do_op op_addAll semO_add (dp_op op_mod sem_mod (dp_op op_addAll sem_add (dp_var 3 (pv 3)) (dp_op op_mulAll (SemN.p sem_mul) dp_int (dp_var 1 (pv 1)))) dp_int) dp_int)))
      (dss_cons (ds_for (passes_of rfl) rfl (di_enumB (by rfl) T.n_enumerate (do_var 2 (pv 2))) (pg_tup rfl (pgs_cons (pg_name (i := 7) nd rfl (by first | exact Or.inl rfl | exact Or.inr rfl)) (pgs_cons (pg_name (i := 5) nd rfl (by first | exact Or.inl rfl | exact Or.inr rfl)) pgs_nil))) (dg_tup (is := [7, 5])) (dss_cons (ds_set (i := 6) nd rfl (by first | exact Or.inl rfl | exact Or.inr rfl) (do_p (dp_op op_mod sem_mod (dp_op op_addAll sem_add (dp_op op_mulAll (SemN.p sem_mul) (dp_var 6 (pv 6)) dp_int) (dp_var 7 (pv 7))) dp_int)))
      (dss_cons (ds_set (i := 8) nd rfl (by first | exact Or.inl rfl | exact Or.inr rfl) (do_p (dp_op op_mod sem_mod (dp_op op_addAll sem_add (dp_op op_addAll sem_add (dp_op op_mulAll (SemN.p sem_mul) (dp_var 6 (pv 6)) (dp_var 6 (pv 6))) (dp_op op_mulAll (SemN.p sem_mul) dp_int (dp_var 6 (pv 6)))) (dp_var 1 (pv 1))) dp_int)))
      (dss_one (ds_app 4 (pv 4) (do_p (dp_op op_mod sem_mod (dp_op op_dvW sem_div (dp_op op_mod sem_mod (dp_op op_addAll sem_add (dp_op op_mulAll (SemN.p sem_mul) (dp_var 8 (pv 8)) dp_int) (dp_var 6 (pv 6))) dp_int) dp_int) (dp_var 5 (pv 5)))))))))
      (dss_one (ds_retV 4 (pv 4)))))))))
theorem ok_Lcommon (T : Txt K mg a_is_whole a_common a_share a_stands a_two_stands a_is_steeper a_steps_of a_curve a__law_drawn a__law_common a__law_made a__law_cut a__law_rows a__law_glass a__law_whole a__law_is_share a__law_stands_for a__law_steeper a__law_steps a__law_corners a__law_near a__law_right a__law_is_no_fit a__law_parted a_law c_NoFit c_NoShare c_GlassError d_is_whole d_common d_share d_stands d_two_stands d_is_steeper d_steps_of d_curve d__law_drawn d__law_common d__law_made d__law_cut d__law_rows d__law_glass d__law_whole d__law_is_share d__law_stands_for d__law_steeper d__law_steps d__law_corners d__law_near d__law_right d__law_is_no_fit d__law_parted d_law) : FnOk P w K mg base (L2.CX P w) 1 a__law_common d__law_common ["_law_one", "_law_other"] (spM K mg 2 m_Lcommon_839ba) := by
  refine ok_def (ms := b_Lcommon_839ba) T.F__law_common sc_Lcommon rfl rfl fun cdv A outer s H E hr => ?_
  have nd := sc_Lcommon.nd
  exact (dss_cons (ds_while (passes_of rfl) (dt_cmp op_gt sem_cmp (dp_var 1 (pv 1)) dp_int (nomark _)) (dss_cons (ds_set (i := 2) nd rfl (by first | exact Or.inl rfl | exact Or.inr rfl) (do_p (dp_op op_mod sem_mod (dp_var 0 (pv 0)) (dp_var 1 (pv 1)))))
      (dss_cons (ds_set (i := 0) nd rfl (by first | exact Or.inl rfl | exact Or.inr rfl) (do_var 1 (pv 1)))
      (dss_one (ds_set (i := 1) nd rfl (by first | exact Or.inl rfl | exact Or.inr rfl) (do_var 2 (pv 2)))))))
      (dss_one (ds_retV 0 (pv 0))))
theorem ok_Lmade (T : Txt K mg a_is_whole a_common a_share a_stands a_two_stands a_is_steeper a_steps_of a_curve a__law_drawn a__law_common a__law_made a__law_cut a__law_rows a__law_glass a__law_whole a__law_is_share a__law_stands_for a__law_steeper a__law_steps a__law_corners a__law_near a__law_right a__law_is_no_fit a__law_parted a_law c_NoFit c_NoShare c_GlassError d_is_whole d_common d_share d_stands d_two_stands d_is_steeper d_steps_of d_curve d__law_drawn d__law_common d__law_made d__law_cut d__law_rows d__law_glass d__law_whole d__law_is_share d__law_stands_for d__law_steeper d__law_steps d__law_corners d__law_near d__law_right d__law_is_no_fit d__law_parted d_law) : FnOk P w K mg base (L2.CX P w) 2 a__law_made d__law_made ["_law_bottom", "_law_rows_here"] (spM K mg 2 m_Lmade_c9de9) := by
  have G__law_common := ok_Lcommon (P := P) (w := w) (base := base) T
  refine ok_def (ms := b_Lmade_c9de9) T.F__law_made sc_Lmade rfl rfl fun cdv A outer s H E hr => ?_
  have nd := sc_Lmade.nd
  exact (dss_cons (ds_set (i := 2) nd rfl (by first | exact Or.inl rfl | exact Or.inr rfl) (do_p dp_int))
      (dss_cons (ds_for (passes_of rfl) rfl (di_seq (do_var 1 (pv 1))) (pg_name (i := 3) nd rfl (by first | exact Or.inl rfl | exact Or.inr rfl)) dg_name (dss_one (ds_for (passes_of rfl) rfl (di_seq (do_var 3 (pv 3))) (pg_name (i := 4) nd rfl (by first | exact Or.inl rfl | exact Or.inr rfl)) dg_name (dss_one (ds_set (i := 2) nd rfl (by first | exact Or.inl rfl | exact Or.inr rfl) (do_f (do_call (takes_of rfl rfl rfl rfl) G__law_common (hr.mono (by decide)) (by rfl) T.g__law_common T.F__law_common.kp T.b__law_common rfl (dpa_cons (dp_var 4 (pv 4)) (dpa_cons (dp_var 2 (pv 2)) dpa_nil)))))))))
      (dss_cons (ds_set (i := 5) nd rfl (by first | exact Or.inl rfl | exact Or.inr rfl) (do_lst doa_nil))
      (dss_cons (ds_for (passes_of rfl) rfl (di_seq (do_var 1 (pv 1))) (pg_name (i := 3) nd rfl (by first | exact Or.inl rfl | exact Or.inr rfl)) dg_name (dss_one (ds_app 5 (pv 5) (do_callT call_tuple_of sem_tuple (by rfl) T.n_tuple (by decide +kernel) (dpa_cons (dp_o (do_comp (own := [("_law_number", 4)]) rfl nd (di_seq (do_var 3 (pv 3))) (blkOk_by (own := [("_law_number", 4)]) (N := names_Lmade) (by change blkC names_Lmade (defScope st_Lmade) _ _ = true; decide +kernel)) dg_name (by decide) (fun _ _ _ _ _ => (pg_name (i := 4) nd rfl (by first | exact Or.inl rfl | exact Or.inr rfl))) (fun _ _ _ _ _ => dts_nil) (fun _ _ _ _ _ => (do_p (dp_op op_dvW sem_div (dp_var 4 (pv 4)) (dp_var 2 (pv 2))))))) dpa_nil)))))
      (dss_one (ds_ret (do_tup (doa_cons (do_p (dp_op op_dvW sem_div (dp_var 0 (pv 0)) (dp_var 2 (pv 2)))) (doa_cons (do_callT call_tuple_of sem_tuple (by rfl) T.n_tuple (by decide +kernel) (dpa_cons (dp_var 5 (pv 5)) dpa_nil)) doa_nil)))))))))
theorem ok_Lcut (T : Txt K mg a_is_whole a_common a_share a_stands a_two_stands a_is_steeper a_steps_of a_curve a__law_drawn a__law_common a__law_made a__law_cut a__law_rows a__law_glass a__law_whole a__law_is_share a__law_stands_for a__law_steeper a__law_steps a__law_corners a__law_near a__law_right a__law_is_no_fit a__law_parted a_law c_NoFit c_NoShare c_GlassError d_is_whole d_common d_share d_stands d_two_stands d_is_steeper d_steps_of d_curve d__law_drawn d__law_common d__law_made d__law_cut d__law_rows d__law_glass d__law_whole d__law_is_share d__law_stands_for d__law_steeper d__law_steps d__law_corners d__law_near d__law_right d__law_is_no_fit d__law_parted d_law) : FnOk P w K mg base (L2.CX P w) 1 a__law_cut d__law_cut ["_law_bottom", "_law_cuts"] (spM K mg 2 m_Lcut_57d94) := by
  refine ok_def (ms := b_Lcut_57d94) T.F__law_cut sc_Lcut rfl rfl fun cdv A outer s H E hr => ?_
  have nd := sc_Lcut.nd
  exact (dss_cons (ds_set (i := 2) nd rfl (by first | exact Or.inl rfl | exact Or.inr rfl) (do_lst doa_nil))
      (dss_cons (ds_set (i := 3) nd rfl (by first | exact Or.inl rfl | exact Or.inr rfl) (do_p dp_int))
      (dss_cons (ds_for (passes_of rfl) rfl (di_seq (do_op op_addAll semO_add (dp_callB cr_sortedI sem_sorted (by rfl) T.n_sorted (by decide +kernel) (dpa_cons (dp_var 1 (pv 1)) dpa_nil)) (dp_o (do_lst (doa_cons (do_var 0 (pv 0)) doa_nil))))) (pg_name (i := 4) nd rfl (by first | exact Or.inl rfl | exact Or.inr rfl)) dg_name (dss_cons (ds_app 2 (pv 2) (do_p (dp_op op_sub sem_sub (dp_var 4 (pv 4)) (dp_var 3 (pv 3)))))
      (dss_one (ds_set (i := 3) nd rfl (by first | exact Or.inl rfl | exact Or.inr rfl) (do_var 4 (pv 4))))))
      (dss_one (ds_retV 2 (pv 2))))))
theorem ok_Lrows (T : Txt K mg a_is_whole a_common a_share a_stands a_two_stands a_is_steeper a_steps_of a_curve a__law_drawn a__law_common a__law_made a__law_cut a__law_rows a__law_glass a__law_whole a__law_is_share a__law_stands_for a__law_steeper a__law_steps a__law_corners a__law_near a__law_right a__law_is_no_fit a__law_parted a_law c_NoFit c_NoShare c_GlassError d_is_whole d_common d_share d_stands d_two_stands d_is_steeper d_steps_of d_curve d__law_drawn d__law_common d__law_made d__law_cut d__law_rows d__law_glass d__law_whole d__law_is_share d__law_stands_for d__law_steeper d__law_steps d__law_corners d__law_near d__law_right d__law_is_no_fit d__law_parted d_law) : FnOk P w K mg base (L2.CX P w) 2 a__law_rows d__law_rows ["_law_script", "_law_at", "_law_heights", "_law_most"] (spM K mg 4 m_Lrows_357fb) := by
  have G__law_cut := ok_Lcut (P := P) (w := w) (base := base) T
  have G__law_drawn := ok_Ldrawn (P := P) (w := w) (base := base) T
  refine ok_def (ms := b_Lrows_357fb) T.F__law_rows sc_Lrows rfl rfl fun cdv A outer s H E hr => ?_
  have nd := sc_Lrows.nd
  exact (dss_cons (ds_set (i := 4) nd rfl (by first | exact Or.inl rfl | exact Or.inr rfl) (do_f (do_lst (doa_cons (do_op op_addAll semO_add (dp_op op_sub sem_sub (dp_ix ix_seq sem_ix (dp_var 2 (pv 2)) dp_int (fun _ _ => rfl)) (dp_ix ix_seq sem_ix (dp_var 2 (pv 2)) dp_int (fun _ _ => rfl))) dp_int) (doa_cons (do_var 3 (pv 3)) (doa_cons (do_p dp_int) (doa_cons (do_p dp_int) doa_nil)))))))
      (dss_cons (ds_set (i := 5) nd rfl (by first | exact Or.inl rfl | exact Or.inr rfl) (do_f (do_call (takes_of rfl rfl rfl rfl) G__law_drawn (hr.mono (by decide)) (by rfl) T.g__law_drawn T.F__law_drawn.kp T.b__law_drawn rfl (dpa_cons (dp_var 0 (pv 0)) (dpa_cons (dp_var 1 (pv 1)) (dpa_cons (dp_var 4 (pv 4)) dpa_nil))))))
      (dss_cons (ds_set (i := 6) nd rfl (by first | exact Or.inl rfl | exact Or.inr rfl) (do_f (do_op op_addAll semO_add (dp_ix ix_seq sem_ix (dp_var 2 (pv 2)) dp_int (fun _ _ => rfl)) (dp_ix ix_seq sem_ix (dp_var 5 (pv 5)) dp_int (fun _ _ => rfl)))))
      (dss_cons (ds_set (i := 7) nd rfl (by first | exact Or.inl rfl | exact Or.inr rfl) (do_ix (do_lst (doa_cons (do_p dp_int) (doa_cons (do_p dp_int) (doa_cons (do_p dp_int) (doa_cons (do_p dp_int) (doa_cons (do_p dp_int) (doa_cons (do_p dp_int) (doa_cons (do_p dp_int) (doa_cons (do_p dp_int) (doa_cons (do_op op_addAll semO_add dp_int (dp_ix ix_seq sem_ix (dp_var 5 (pv 5)) dp_int (fun _ _ => rfl))) doa_nil)))))))))) (dp_ix ix_seq sem_ix (dp_var 5 (pv 5)) dp_int (fun _ _ => rfl)) (fun _ _ => rfl)))
      (dss_cons (ds_set (i := 8) nd rfl (by first | exact Or.inl rfl | exact Or.inr rfl) (do_f (do_slice (dp_call (takes_of rfl rfl rfl rfl) G__law_drawn (hr.mono (by decide)) (by rfl) T.g__law_drawn T.F__law_drawn.kp T.b__law_drawn rfl (dpa_cons (dp_var 0 (pv 0)) (dpa_cons (dp_var 1 (pv 1)) (dpa_cons (dp_op op_addAll sem_add (dp_var 4 (pv 4)) (dp_op op_mulAll (SemN.p sem_mul) (dp_o (do_lst (doa_cons (do_op op_addAll semO_add (dp_var 7 (pv 7)) dp_int) doa_nil))) (dp_op op_mulAll (SemN.p sem_mul) (dp_var 6 (pv 6)) (dp_ix ix_seq sem_ix (dp_var 5 (pv 5)) dp_int (fun _ _ => rfl))))) dpa_nil)))) (ds_some dp_int) ds_none)))
      (dss_cons (ds_set (i := 9) nd rfl (by first | exact Or.inl rfl | exact Or.inr rfl) (do_lst doa_nil))
      (dss_cons (ds_for (passes_of rfl) rfl (di_rng1 (by rfl) T.n_range (dpa_cons (dp_var 6 (pv 6)) dpa_nil)) (pg_name (i := 10) nd rfl (by first | exact Or.inl rfl | exact Or.inr rfl)) dg_name (dss_cons (ds_set (i := 11) nd rfl (by first | exact Or.inl rfl | exact Or.inr rfl) (do_f (do_opN op_mulAll sem_mul (dp_var 10 (pv 10)) (dp_ix ix_seq sem_ix (dp_var 5 (pv 5)) dp_int (fun _ _ => rfl)))))
      (dss_one (ds_app 9 (pv 9) (do_call (takes_of rfl rfl rfl rfl) G__law_cut (hr.mono (by decide)) (by rfl) T.g__law_cut T.F__law_cut.kp T.b__law_cut rfl (dpa_cons (dp_var 7 (pv 7)) (dpa_cons (dp_slice (dp_var 8 (pv 8)) (ds_some (dp_var 11 (pv 11))) (ds_some (dp_op op_addAll sem_add (dp_var 11 (pv 11)) (dp_ix ix_seq sem_ix (dp_var 5 (pv 5)) dp_int (fun _ _ => rfl))))) dpa_nil)))))))
      (dss_one (ds_frz 9 (ds_ret (do_tup (doa_cons (do_var 7 (pv 7)) (doa_cons (do_var 9 (pv 9)) doa_nil)))))))))))))
theorem ok_Lglass (T : Txt K mg a_is_whole a_common a_share a_stands a_two_stands a_is_steeper a_steps_of a_curve a__law_drawn a__law_common a__law_made a__law_cut a__law_rows a__law_glass a__law_whole a__law_is_share a__law_stands_for a__law_steeper a__law_steps a__law_corners a__law_near a__law_right a__law_is_no_fit a__law_parted a_law c_NoFit c_NoShare c_GlassError d_is_whole d_common d_share d_stands d_two_stands d_is_steeper d_steps_of d_curve d__law_drawn d__law_common d__law_made d__law_cut d__law_rows d__law_glass d__law_whole d__law_is_share d__law_stands_for d__law_steeper d__law_steps d__law_corners d__law_near d__law_right d__law_is_no_fit d__law_parted d_law) : FnOk P w K mg base (L2.CX P w) 3 a__law_glass d__law_glass ["_law_script", "_law_at", "_law_heights", "_law_most"] (spM K mg 4 m_Lglass_995d4) := by
  have G__law_made := ok_Lmade (P := P) (w := w) (base := base) T
  have G__law_rows := ok_Lrows (P := P) (w := w) (base := base) T
  refine ok_def (ms := b_Lglass_995d4) T.F__law_glass sc_Lglass rfl rfl fun cdv A outer s H E hr => ?_
  have nd := sc_Lglass.nd
  exact (dss_cons (ds_unp (is := [4, 5]) (do_f (do_call (takes_of rfl rfl rfl rfl) G__law_rows (hr.mono (by decide)) (by rfl) T.g__law_rows T.F__law_rows.kp T.b__law_rows rfl (dpa_cons (dp_var 0 (pv 0)) (dpa_cons (dp_var 1 (pv 1)) (dpa_cons (dp_var 2 (pv 2)) (dpa_cons (dp_var 3 (pv 3)) dpa_nil)))))) (pg_tup rfl (pgs_cons (pg_name (i := 4) nd rfl (by first | exact Or.inl rfl | exact Or.inr rfl)) (pgs_cons (pg_name (i := 5) nd rfl (by first | exact Or.inl rfl | exact Or.inr rfl)) pgs_nil))))
      (dss_one (ds_ret (do_call (takes_of rfl rfl rfl rfl) G__law_made (hr.mono (by decide)) (by rfl) T.g__law_made T.F__law_made.kp T.b__law_made rfl (dpa_cons (dp_var 4 (pv 4)) (dpa_cons (dp_var 5 (pv 5)) dpa_nil))))))
theorem ok_common (T : Txt K mg a_is_whole a_common a_share a_stands a_two_stands a_is_steeper a_steps_of a_curve a__law_drawn a__law_common a__law_made a__law_cut a__law_rows a__law_glass a__law_whole a__law_is_share a__law_stands_for a__law_steeper a__law_steps a__law_corners a__law_near a__law_right a__law_is_no_fit a__law_parted a_law c_NoFit c_NoShare c_GlassError d_is_whole d_common d_share d_stands d_two_stands d_is_steeper d_steps_of d_curve d__law_drawn d__law_common d__law_made d__law_cut d__law_rows d__law_glass d__law_whole d__law_is_share d__law_stands_for d__law_steeper d__law_steps d__law_corners d__law_near d__law_right d__law_is_no_fit d__law_parted d_law) : FnOk P w K mg base (L2.CX P w) 1 a_common d_common ["one", "other"] (spM K mg 2 m_common_73267) := by
  refine ok_def (ms := b_common_73267) T.F_common sc_common rfl rfl fun cdv A outer s H E hr => ?_
  have nd := sc_common.nd
  exact (dss_cons (ds_set (i := 0) nd rfl (by first | exact Or.inl rfl | exact Or.inr rfl) (do_p (dp_callB call_abs sem_abs (by rfl) T.n_abs (by decide +kernel) (dpa_cons (dp_var 0 (pv 0)) dpa_nil))))
      (dss_cons (ds_set (i := 1) nd rfl (by first | exact Or.inl rfl | exact Or.inr rfl) (do_p (dp_callB call_abs sem_abs (by rfl) T.n_abs (by decide +kernel) (dpa_cons (dp_var 1 (pv 1)) dpa_nil))))
      (dss_cons (ds_while (passes_of rfl) (dt_cmp op_gt sem_cmp (dp_var 1 (pv 1)) dp_int (nomark _)) (dss_cons (ds_set (i := 2) nd rfl (by first | exact Or.inl rfl | exact Or.inr rfl) (do_p (dp_op op_mod sem_mod (dp_var 0 (pv 0)) (dp_var 1 (pv 1)))))
      (dss_cons (ds_set (i := 0) nd rfl (by first | exact Or.inl rfl | exact Or.inr rfl) (do_var 1 (pv 1)))
      (dss_one (ds_set (i := 1) nd rfl (by first | exact Or.inl rfl | exact Or.inr rfl) (do_var 2 (pv 2)))))))
      (dss_one (ds_retV 0 (pv 0))))))
theorem ok_is_whole (T : Txt K mg a_is_whole a_common a_share a_stands a_two_stands a_is_steeper a_steps_of a_curve a__law_drawn a__law_common a__law_made a__law_cut a__law_rows a__law_glass a__law_whole a__law_is_share a__law_stands_for a__law_steeper a__law_steps a__law_corners a__law_near a__law_right a__law_is_no_fit a__law_parted a_law c_NoFit c_NoShare c_GlassError d_is_whole d_common d_share d_stands d_two_stands d_is_steeper d_steps_of d_curve d__law_drawn d__law_common d__law_made d__law_cut d__law_rows d__law_glass d__law_whole d__law_is_share d__law_stands_for d__law_steeper d__law_steps d__law_corners d__law_near d__law_right d__law_is_no_fit d__law_parted d_law) : FnOk P w K mg base (L2.CX P w) 1 a_is_whole d_is_whole ["thing"] (spM K mg 1 m_is_whole_c5d19) := by
  refine ok_def (ms := b_is_whole_c5d19) T.F_is_whole sc_is_whole rfl rfl fun cdv A outer s H E hr => ?_
  have nd := sc_is_whole.nd
  exact (dss_one (ds_ret (do_p (dp_and (dp_isi (by rfl) T.n_isinstance (by rfl) T.n_int (by decide +kernel) (dp_var 0 (pv 0))) (dp_one (dp_not (dp_isi (by rfl) T.n_isinstance (by rfl) T.n_bool (by decide +kernel) (dp_var 0 (pv 0)))))))))
theorem ok_share (T : Txt K mg a_is_whole a_common a_share a_stands a_two_stands a_is_steeper a_steps_of a_curve a__law_drawn a__law_common a__law_made a__law_cut a__law_rows a__law_glass a__law_whole a__law_is_share a__law_stands_for a__law_steeper a__law_steps a__law_corners a__law_near a__law_right a__law_is_no_fit a__law_parted a_law c_NoFit c_NoShare c_GlassError d_is_whole d_common d_share d_stands d_two_stands d_is_steeper d_steps_of d_curve d__law_drawn d__law_common d__law_made d__law_cut d__law_rows d__law_glass d__law_whole d__law_is_share d__law_stands_for d__law_steeper d__law_steps d__law_corners d__law_near d__law_right d__law_is_no_fit d__law_parted d_law) : FnOk P w K mg base (L2.CX P w) 2 a_share d_share ["top", "bottom"] (spM K mg 2 m_share_95521) := by
  have G_common := ok_common (P := P) (w := w) (base := base) T
  have G_is_whole := ok_is_whole (P := P) (w := w) (base := base) T
  refine ok_def (ms := b_share_95521) T.F_share sc_share rfl rfl fun cdv A outer s H E hr => ?_
  have nd := sc_share.nd
  exact (dss_cons (ds_if (PW.pt (dw_or (dt_not (dt_val (dp_call (takes_of rfl rfl rfl rfl) G_is_whole (hr.mono (by decide)) (by rfl) T.g_is_whole T.F_is_whole.kp T.b_is_whole rfl (dpa_cons (dp_var 0 (pv 0)) dpa_nil)))) (dw_or (dt_not (dt_val (dp_call (takes_of rfl rfl rfl rfl) G_is_whole (hr.mono (by decide)) (by rfl) T.g_is_whole T.F_is_whole.kp T.b_is_whole rfl (dpa_cons (dp_var 1 (pv 1)) dpa_nil)))) (dw_or1 (dt_cmp (op_eqD hr.units) sem_eq (dp_var 1 (pv 1)) dp_int (nomark _)))))) (dss_one (ds_raise rfl (takes_of rfl rfl rfl rfl) (pmk_own PySem.F.excBase_ValueError T.x_NoShare T.g_NoShare T.k_NoShare (raises_own T.s_NoShare T.t_NoShare) (by rfl)) T.g_NoShare)) dss_nil)
      (dss_cons (ds_set (i := 2) nd rfl (by first | exact Or.inl rfl | exact Or.inr rfl) (do_f (do_call (takes_of rfl rfl rfl rfl) G_common (hr.mono (by decide)) (by rfl) T.g_common T.F_common.kp T.b_common rfl (dpa_cons (dp_var 0 (pv 0)) (dpa_cons (dp_var 1 (pv 1)) dpa_nil)))))
      (dss_cons (ds_if (dt_cmp op_lt sem_cmp (dp_var 1 (pv 1)) dp_int (nomark _)) (dss_one (ds_set (i := 2) nd rfl (by first | exact Or.inl rfl | exact Or.inr rfl) (do_p (dp_op op_sub sem_sub dp_int (dp_var 2 (pv 2)))))) dss_nil)
      (dss_one (ds_ret (do_tup (doa_cons (do_p (dp_op op_dvW sem_div (dp_var 0 (pv 0)) (dp_var 2 (pv 2)))) (doa_cons (do_p (dp_op op_dvW sem_div (dp_var 1 (pv 1)) (dp_var 2 (pv 2)))) doa_nil))))))))
theorem ok_is_steeper (T : Txt K mg a_is_whole a_common a_share a_stands a_two_stands a_is_steeper a_steps_of a_curve a__law_drawn a__law_common a__law_made a__law_cut a__law_rows a__law_glass a__law_whole a__law_is_share a__law_stands_for a__law_steeper a__law_steps a__law_corners a__law_near a__law_right a__law_is_no_fit a__law_parted a_law c_NoFit c_NoShare c_GlassError d_is_whole d_common d_share d_stands d_two_stands d_is_steeper d_steps_of d_curve d__law_drawn d__law_common d__law_made d__law_cut d__law_rows d__law_glass d__law_whole d__law_is_share d__law_stands_for d__law_steeper d__law_steps d__law_corners d__law_near d__law_right d__law_is_no_fit d__law_parted d_law) : FnOk P w K mg base (L2.CX P w) 1 a_is_steeper d_is_steeper ["one", "other"] (spM K mg 2 m_is_steeper_9add5) := by
  refine ok_def (ms := b_is_steeper_9add5) T.F_is_steeper sc_is_steeper rfl rfl fun cdv A outer s H E hr => ?_
  have nd := sc_is_steeper.nd
  exact (dss_one (ds_ret (do_p (dp_cmp op_gt sem_cmp (dp_op op_mulAll (SemN.p sem_mul) (dp_ix ix_seq sem_ix (dp_var 0 (pv 0)) dp_int (fun _ _ => rfl)) (dp_ix ix_seq sem_ix (dp_var 1 (pv 1)) dp_int (fun _ _ => rfl))) (dp_op op_mulAll (SemN.p sem_mul) (dp_ix ix_seq sem_ix (dp_var 1 (pv 1)) dp_int (fun _ _ => rfl)) (dp_ix ix_seq sem_ix (dp_var 0 (pv 0)) dp_int (fun _ _ => rfl))) (nomark _)))))
theorem ok_steps_of (T : Txt K mg a_is_whole a_common a_share a_stands a_two_stands a_is_steeper a_steps_of a_curve a__law_drawn a__law_common a__law_made a__law_cut a__law_rows a__law_glass a__law_whole a__law_is_share a__law_stands_for a__law_steeper a__law_steps a__law_corners a__law_near a__law_right a__law_is_no_fit a__law_parted a_law c_NoFit c_NoShare c_GlassError d_is_whole d_common d_share d_stands d_two_stands d_is_steeper d_steps_of d_curve d__law_drawn d__law_common d__law_made d__law_cut d__law_rows d__law_glass d__law_whole d__law_is_share d__law_stands_for d__law_steeper d__law_steps d__law_corners d__law_near d__law_right d__law_is_no_fit d__law_parted d_law) : FnOk P w K mg base (L2.CX P w) 2 a_steps_of d_steps_of ["glass"] (spM K mg 1 m_steps_of_c2200) := by
  have G_is_steeper := ok_is_steeper (P := P) (w := w) (base := base) T
  refine ok_def (ms := b_steps_of_c2200) T.F_steps_of sc_steps_of rfl rfl fun cdv A outer s H E hr => ?_
  have nd := sc_steps_of.nd
  exact (dss_cons (ds_set (i := 1) nd rfl (by first | exact Or.inl rfl | exact Or.inr rfl) (do_lst doa_nil))
      (dss_cons (ds_for (passes_of rfl) rfl (di_zip1 (by rfl) T.n_zip (doa_cons (do_ix (do_ix (do_var 0 (pv 0)) dp_int (fun _ _ => rfl)) dp_int (fun _ _ => rfl)) (doa_cons (do_ix (do_ix (do_var 0 (pv 0)) dp_int (fun _ _ => rfl)) dp_int (fun _ _ => rfl)) doa_nil))) (pg_name (i := 2) nd rfl (by first | exact Or.inl rfl | exact Or.inr rfl)) dg_name (dss_one (ds_if (dt_cmp (op_neD hr.units) sem_ne (dp_var 2 (pv 2)) (dp_tup (dpa_cons dp_int (dpa_cons dp_int dpa_nil))) (nomark _)) (dss_cons (ds_set (i := 3) nd rfl (by first | exact Or.inl rfl | exact Or.inr rfl) (do_p dp_int))
      (dss_cons (ds_while (passes_of rfl) (PW.pt (dw_and (dt_cmp op_lt sem_cmp (dp_var 3 (pv 3)) (dp_callB call_len sem_len (by rfl) T.n_len (by decide +kernel) (dpa_cons (dp_var 1 (pv 1)) dpa_nil)) (nomark _)) (dw_and1 (dt_val (dp_call (takes_of rfl rfl rfl rfl) G_is_steeper (hr.mono (by decide)) (by rfl) T.g_is_steeper T.F_is_steeper.kp T.b_is_steeper rfl (dpa_cons (dp_ix ix_seq sem_ix (dp_var 1 (pv 1)) (dp_var 3 (pv 3)) (fun _ _ => rfl)) (dpa_cons (dp_var 2 (pv 2)) dpa_nil))))))) (dss_one (ds_set (i := 3) nd rfl (by first | exact Or.inl rfl | exact Or.inr rfl) (do_f (do_op op_addAll semO_add (dp_var 3 (pv 3)) dp_int)))))
      (dss_one (ds_if (PW.pt (dw_and (dt_cmp op_lt sem_cmp (dp_var 3 (pv 3)) (dp_callB call_len sem_len (by rfl) T.n_len (by decide +kernel) (dpa_cons (dp_var 1 (pv 1)) dpa_nil)) (nomark _)) (dw_and1 (dt_not (dt_val (dp_call (takes_of rfl rfl rfl rfl) G_is_steeper (hr.mono (by decide)) (by rfl) T.g_is_steeper T.F_is_steeper.kp T.b_is_steeper rfl (dpa_cons (dp_var 2 (pv 2)) (dpa_cons (dp_ix ix_seq sem_ix (dp_var 1 (pv 1)) (dp_var 3 (pv 3)) (fun _ _ => rfl)) dpa_nil)))))))) (dss_one (ds_sto 1 (pv 1) (dp_var 3 (pv 3)) (do_tup (doa_cons (do_op op_addAll semO_add (dp_ix ix_seq sem_ix (dp_ix ix_seq sem_ix (dp_var 1 (pv 1)) (dp_var 3 (pv 3)) (fun _ _ => rfl)) dp_int (fun _ _ => rfl)) (dp_ix ix_seq sem_ix (dp_var 2 (pv 2)) dp_int (fun _ _ => rfl))) (doa_cons (do_op op_addAll semO_add (dp_ix ix_seq sem_ix (dp_ix ix_seq sem_ix (dp_var 1 (pv 1)) (dp_var 3 (pv 3)) (fun _ _ => rfl)) dp_int (fun _ _ => rfl)) (dp_ix ix_seq sem_ix (dp_var 2 (pv 2)) dp_int (fun _ _ => rfl))) doa_nil))) (pg_sub (pv 1) (dp_var 3 (pv 3)) set_list))) (dss_one (ds_ins 1 (pv 1) (dp_var 3 (pv 3)) (do_var 2 (pv 2)))))))) dss_nil)))
      (dss_one (ds_retV 1 (pv 1)))))
theorem ok_stands (T : Txt K mg a_is_whole a_common a_share a_stands a_two_stands a_is_steeper a_steps_of a_curve a__law_drawn a__law_common a__law_made a__law_cut a__law_rows a__law_glass a__law_whole a__law_is_share a__law_stands_for a__law_steeper a__law_steps a__law_corners a__law_near a__law_right a__law_is_no_fit a__law_parted a_law c_NoFit c_NoShare c_GlassError d_is_whole d_common d_share d_stands d_two_stands d_is_steeper d_steps_of d_curve d__law_drawn d__law_common d__law_made d__law_cut d__law_rows d__law_glass d__law_whole d__law_is_share d__law_stands_for d__law_steeper d__law_steps d__law_corners d__law_near d__law_right d__law_is_no_fit d__law_parted d_law) : FnOk P w K mg base (L2.CX P w) 1 a_stands d_stands ["glass"] (spM K mg 1 m_stands_39d5e) := by
  refine ok_def (ms := b_stands_39d5e) T.F_stands sc_stands rfl rfl fun cdv A outer s H E hr => ?_
  have nd := sc_stands.nd
  exact (dss_one (ds_ret (do_p (dp_callB call_len sem_len (by rfl) T.n_len (by decide +kernel) (dpa_cons (dp_ix ix_seq sem_ix (dp_var 0 (pv 0)) dp_int (fun _ _ => rfl)) dpa_nil)))))
theorem ok_two_stands (T : Txt K mg a_is_whole a_common a_share a_stands a_two_stands a_is_steeper a_steps_of a_curve a__law_drawn a__law_common a__law_made a__law_cut a__law_rows a__law_glass a__law_whole a__law_is_share a__law_stands_for a__law_steeper a__law_steps a__law_corners a__law_near a__law_right a__law_is_no_fit a__law_parted a_law c_NoFit c_NoShare c_GlassError d_is_whole d_common d_share d_stands d_two_stands d_is_steeper d_steps_of d_curve d__law_drawn d__law_common d__law_made d__law_cut d__law_rows d__law_glass d__law_whole d__law_is_share d__law_stands_for d__law_steeper d__law_steps d__law_corners d__law_near d__law_right d__law_is_no_fit d__law_parted d_law) : FnOk P w K mg base (L2.CX P w) 2 a_two_stands d_two_stands ["glass"] (spM K mg 1 m_two_stands_04f69) := by
  have G_stands := ok_stands (P := P) (w := w) (base := base) T
  refine ok_def (ms := b_two_stands_04f69) T.F_two_stands sc_two_stands rfl rfl fun cdv A outer s H E hr => ?_
  have nd := sc_two_stands.nd
  exact (dss_one (ds_if (dt_cmp (op_neD hr.units) sem_ne (dp_call (takes_of rfl rfl rfl rfl) G_stands (hr.mono (by decide)) (by rfl) T.g_stands T.F_stands.kp T.b_stands rfl (dpa_cons (dp_var 0 (pv 0)) dpa_nil)) dp_int (nomark _)) (dss_one (ds_raise rfl (takes_of rfl rfl rfl rfl) (pmk_own PySem.F.excBase_ValueError T.x_NoFit T.g_NoFit T.k_NoFit (raises_own T.s_NoFit T.t_NoFit) (by rfl)) T.g_NoFit)) dss_nil))
theorem ok_curve (T : Txt K mg a_is_whole a_common a_share a_stands a_two_stands a_is_steeper a_steps_of a_curve a__law_drawn a__law_common a__law_made a__law_cut a__law_rows a__law_glass a__law_whole a__law_is_share a__law_stands_for a__law_steeper a__law_steps a__law_corners a__law_near a__law_right a__law_is_no_fit a__law_parted a_law c_NoFit c_NoShare c_GlassError d_is_whole d_common d_share d_stands d_two_stands d_is_steeper d_steps_of d_curve d__law_drawn d__law_common d__law_made d__law_cut d__law_rows d__law_glass d__law_whole d__law_is_share d__law_stands_for d__law_steeper d__law_steps d__law_corners d__law_near d__law_right d__law_is_no_fit d__law_parted d_law) : FnOk P w K mg base (L2.CX P w) 3 a_curve d_curve ["glass"] (spM K mg 1 m_curve_6c79e) := by
  have G_share := ok_share (P := P) (w := w) (base := base) T
  have G_steps_of := ok_steps_of (P := P) (w := w) (base := base) T
  have G_two_stands := ok_two_stands (P := P) (w := w) (base := base) T
  refine ok_def (ms := b_curve_6c79e) T.F_curve sc_curve rfl rfl fun cdv A outer s H E hr => ?_
  have nd := sc_curve.nd
  exact (dss_cons (ds_drop (dp_call (takes_of rfl rfl rfl rfl) G_two_stands (hr.mono (by decide)) (by rfl) T.g_two_stands T.F_two_stands.kp T.b_two_stands rfl (dpa_cons (dp_var 0 (pv 0)) dpa_nil)))
      (dss_cons (ds_set (i := 1) nd rfl (by first | exact Or.inl rfl | exact Or.inr rfl) (do_p dp_int))
      (dss_cons (ds_set (i := 2) nd rfl (by first | exact Or.inl rfl | exact Or.inr rfl) (do_p dp_int))
      (dss_cons (ds_set (i := 3) nd rfl (by first | exact Or.inl rfl | exact Or.inr rfl) (do_lst (doa_cons (do_tup (doa_cons (do_tup (doa_cons (do_p dp_int) (doa_cons (do_p dp_int) doa_nil))) (doa_cons (do_tup (doa_cons (do_p dp_int) (doa_cons (do_p dp_int) doa_nil))) doa_nil))) doa_nil)))
      (dss_cons (ds_for (passes_of rfl) rfl (di_seq (do_call (takes_of rfl rfl rfl rfl) G_steps_of (hr.mono (by decide)) (by rfl) T.g_steps_of T.F_steps_of.kp T.b_steps_of rfl (dpa_cons (dp_var 0 (pv 0)) dpa_nil))) (pg_name (i := 4) nd rfl (by first | exact Or.inl rfl | exact Or.inr rfl)) dg_name (dss_cons (ds_set (i := 1) nd rfl (by first | exact Or.inl rfl | exact Or.inr rfl) (do_f (do_op op_addAll semO_add (dp_var 1 (pv 1)) (dp_ix ix_seq sem_ix (dp_var 4 (pv 4)) dp_int (fun _ _ => rfl)))))
      (dss_cons (ds_set (i := 2) nd rfl (by first | exact Or.inl rfl | exact Or.inr rfl) (do_f (do_op op_addAll semO_add (dp_var 2 (pv 2)) (dp_ix ix_seq sem_ix (dp_var 4 (pv 4)) dp_int (fun _ _ => rfl)))))
      (dss_one (ds_app 3 (pv 3) (do_tup (doa_cons (do_call (takes_of rfl rfl rfl rfl) G_share (hr.mono (by decide)) (by rfl) T.g_share T.F_share.kp T.b_share rfl (dpa_cons (dp_var 1 (pv 1)) (dpa_cons (dp_ix ix_seq sem_ix (dp_var 0 (pv 0)) dp_int (fun _ _ => rfl)) dpa_nil))) (doa_cons (do_call (takes_of rfl rfl rfl rfl) G_share (hr.mono (by decide)) (by rfl) T.g_share T.F_share.kp T.b_share rfl (dpa_cons (dp_var 2 (pv 2)) (dpa_cons (dp_ix ix_seq sem_ix (dp_var 0 (pv 0)) dp_int (fun _ _ => rfl)) dpa_nil))) doa_nil))))))))
      (dss_one (ds_retV 3 (pv 3))))))))
theorem ok_Lis_no_fit (T : Txt K mg a_is_whole a_common a_share a_stands a_two_stands a_is_steeper a_steps_of a_curve a__law_drawn a__law_common a__law_made a__law_cut a__law_rows a__law_glass a__law_whole a__law_is_share a__law_stands_for a__law_steeper a__law_steps a__law_corners a__law_near a__law_right a__law_is_no_fit a__law_parted a_law c_NoFit c_NoShare c_GlassError d_is_whole d_common d_share d_stands d_two_stands d_is_steeper d_steps_of d_curve d__law_drawn d__law_common d__law_made d__law_cut d__law_rows d__law_glass d__law_whole d__law_is_share d__law_stands_for d__law_steeper d__law_steps d__law_corners d__law_near d__law_right d__law_is_no_fit d__law_parted d_law) : FnOk P w K mg base (L2.CX P w) 4 a__law_is_no_fit d__law_is_no_fit ["_law_glass_here"] (spM K mg 1 m_Lis_no_fit_45fb8) := by
  have G_curve := ok_curve (P := P) (w := w) (base := base) T
  refine ok_def (ms := b_Lis_no_fit_45fb8) T.F__law_is_no_fit sc_Lis_no_fit rfl rfl fun cdv A outer s H E hr => ?_
  have nd := sc_Lis_no_fit.nd
  exact (dss_cons (ds_set (i := 1) nd rfl (by first | exact Or.inl rfl | exact Or.inr rfl) (do_p dp_non))
      (dss_cons (ds_try (i := 2) (j := 1) (by decide) rfl rfl nd rfl rfl ⟨rfl, by decide, .inl T.g_GlassError⟩ (held_cons T.g_NoFit T.m_NoFit T.h_NoFit_GlassError (held_cons T.g_NoShare T.m_NoShare T.h_NoShare_GlassError held_nil)) (fun W pn xe tk _ => (dss_one (ds_drop (dp_call tk G_curve (hr.mono (by decide)) (by rfl) T.g_curve T.F_curve.kp T.b_curve rfl (dpa_cons (dp_var 0 (pv 0)) dpa_nil))))) (fun a oe pn => pss_one (ps_set (i := 1) nd rfl (by first | exact Or.inl rfl | exact Or.inr rfl) (pv 2))))
      (dss_one (ds_ret (do_p (dp_isiC (by rfl) T.n_isinstance (pe_glob (v := .ref c_NoFit) (by rfl) T.g_NoFit rfl) (.own c_NoFit) (ext_cons T.m_NoFit T.X_NoFit (ext_cons T.m_NoShare T.X_NoShare ext_nil)) (ist_cons T.m_NoFit T.k_NoFit_NoFit (by decide +kernel) (ist_cons T.m_NoShare T.k_NoShare_NoFit (by decide +kernel) (ist_nil T.kn_NoFit))) (dp_var 1 (pv 1))))))))
theorem ok_Lnear (T : Txt K mg a_is_whole a_common a_share a_stands a_two_stands a_is_steeper a_steps_of a_curve a__law_drawn a__law_common a__law_made a__law_cut a__law_rows a__law_glass a__law_whole a__law_is_share a__law_stands_for a__law_steeper a__law_steps a__law_corners a__law_near a__law_right a__law_is_no_fit a__law_parted a_law c_NoFit c_NoShare c_GlassError d_is_whole d_common d_share d_stands d_two_stands d_is_steeper d_steps_of d_curve d__law_drawn d__law_common d__law_made d__law_cut d__law_rows d__law_glass d__law_whole d__law_is_share d__law_stands_for d__law_steeper d__law_steps d__law_corners d__law_near d__law_right d__law_is_no_fit d__law_parted d_law) : FnOk P w K mg base (L2.CX P w) 3 a__law_near d__law_near ["_law_script", "_law_at"] (spM K mg 2 m_Lnear_4f673) := by
  have G__law_drawn := ok_Ldrawn (P := P) (w := w) (base := base) T
  have G__law_made := ok_Lmade (P := P) (w := w) (base := base) T
  refine ok_def (ms := b_Lnear_4f673) T.F__law_near sc_Lnear rfl rfl fun cdv A outer s H E hr => ?_
  have nd := sc_Lnear.nd
  exact (dss_cons (ds_set (i := 2) nd rfl (by first | exact Or.inl rfl | exact Or.inr rfl) (do_f (do_call (takes_of rfl rfl rfl rfl) G__law_drawn (hr.mono (by decide)) (by rfl) T.g__law_drawn T.F__law_drawn.kp T.b__law_drawn rfl (dpa_cons (dp_var 0 (pv 0)) (dpa_cons (dp_var 1 (pv 1)) (dpa_cons (dp_o (do_lst (doa_cons (do_p dp_int) (doa_cons (do_p (dp_op op_pow sem_pow dp_int dp_int)) (doa_cons (do_p (dp_op op_pow sem_pow dp_int dp_int)) (doa_cons (do_p (dp_op op_pow sem_pow dp_int dp_int)) (doa_cons (do_p dp_int) doa_nil))))))) dpa_nil))))))
      (dss_cons (ds_set (i := 3) nd rfl (by first | exact Or.inl rfl | exact Or.inr rfl) (do_ix (do_lst (doa_cons (do_op op_addAll semO_add dp_int (dp_op op_mod sem_mod (dp_ix ix_seq sem_ix (dp_var 2 (pv 2)) dp_int (fun _ _ => rfl)) dp_int)) (doa_cons (do_op op_addAll semO_add dp_int (dp_ix ix_seq sem_ix (dp_var 2 (pv 2)) dp_int (fun _ _ => rfl))) (doa_cons (do_op op_addAll semO_add (dp_op op_addAll sem_add (dp_op op_pow sem_pow dp_int dp_int) (dp_op op_mulAll (SemN.p sem_mul) (dp_ix ix_seq sem_ix (dp_var 2 (pv 2)) dp_int (fun _ _ => rfl)) (dp_op op_pow sem_pow dp_int dp_int))) (dp_ix ix_seq sem_ix (dp_var 2 (pv 2)) dp_int (fun _ _ => rfl))) doa_nil)))) (dp_ix ix_seq sem_ix (dp_var 2 (pv 2)) dp_int (fun _ _ => rfl)) (fun _ _ => rfl)))
      (dss_cons (ds_set (i := 4) nd rfl (by first | exact Or.inl rfl | exact Or.inr rfl) (do_f (do_opN op_mulAll sem_mul (dp_ix ix_seq sem_ix (dp_var 2 (pv 2)) dp_int (fun _ _ => rfl)) (dp_ix ix_seq sem_ix (dp_o (do_lst (doa_cons (do_p dp_int) (doa_cons (do_p dp_int) (doa_cons (do_p (dp_op op_pow sem_pow dp_int dp_int)) doa_nil))))) (dp_ix ix_seq sem_ix (dp_var 2 (pv 2)) dp_int (fun _ _ => rfl)) (fun _ _ => rfl)))))
      (dss_cons (ds_set (i := 5) nd rfl (by first | exact Or.inl rfl | exact Or.inr rfl) (do_f (do_lst (doa_cons (do_tup (doa_cons (do_var 3 (pv 3)) (doa_cons (do_op op_addAll semO_add (dp_var 3 (pv 3)) dp_int) doa_nil))) (doa_cons (do_tup (doa_cons (do_op op_addAll semO_add (dp_var 3 (pv 3)) dp_int) (doa_cons (do_op op_addAll semO_add (dp_var 3 (pv 3)) dp_int) doa_nil))) (doa_cons (do_tup (doa_cons (do_op op_addAll semO_add (dp_var 4 (pv 4)) dp_int) (doa_cons (do_var 4 (pv 4)) doa_nil))) doa_nil))))))
      (dss_cons (ds_set (i := 5) nd rfl (by first | exact Or.inl rfl | exact Or.inr rfl) (do_f (do_op op_addAll semO_add (dp_slice (dp_var 5 (pv 5)) (ds_some (dp_ix ix_seq sem_ix (dp_var 2 (pv 2)) dp_int (fun _ _ => rfl))) ds_none) (dp_slice (dp_var 5 (pv 5)) ds_none (ds_some (dp_ix ix_seq sem_ix (dp_var 2 (pv 2)) dp_int (fun _ _ => rfl)))))))
      (dss_cons (ds_set (i := 6) nd rfl (by first | exact Or.inl rfl | exact Or.inr rfl) (do_f (do_lst (doa_cons (do_comp (own := [("_law_pair", 7)]) rfl nd (di_seq (do_var 5 (pv 5))) (blkOk_by (own := [("_law_pair", 7)]) (N := names_Lnear) (by change blkC names_Lnear (defScope st_Lnear) _ _ = true; decide +kernel)) dg_name (by decide) (fun _ _ _ _ _ => (pg_name (i := 7) nd rfl (by first | exact Or.inl rfl | exact Or.inr rfl))) (fun _ _ _ _ _ => dts_nil) (fun _ _ _ _ _ => (do_ix (do_var 7 (pv 7)) dp_int (fun _ _ => rfl)))) (doa_cons (do_comp (own := [("_law_pair", 7)]) rfl nd (di_seq (do_var 5 (pv 5))) (blkOk_by (own := [("_law_pair", 7)]) (N := names_Lnear) (by change blkC names_Lnear (defScope st_Lnear) _ _ = true; decide +kernel)) dg_name (by decide) (fun _ _ _ _ _ => (pg_name (i := 7) nd rfl (by first | exact Or.inl rfl | exact Or.inr rfl))) (fun _ _ _ _ _ => dts_nil) (fun _ _ _ _ _ => (do_ix (do_var 7 (pv 7)) dp_int (fun _ _ => rfl)))) doa_nil)))))
      (dss_one (ds_ret (do_call (takes_of rfl rfl rfl rfl) G__law_made (hr.mono (by decide)) (by rfl) T.g__law_made T.F__law_made.kp T.b__law_made rfl (dpa_cons (dp_callB (cr_sumA rfl) sem_sum (by rfl) T.n_sum (by decide +kernel) (dpa_cons (dp_ix ix_seq sem_ix (dp_var 6 (pv 6)) dp_int (fun _ _ => rfl)) dpa_nil)) (dpa_cons (dp_var 6 (pv 6)) dpa_nil)))))))))))
theorem ok_Lparted (T : Txt K mg a_is_whole a_common a_share a_stands a_two_stands a_is_steeper a_steps_of a_curve a__law_drawn a__law_common a__law_made a__law_cut a__law_rows a__law_glass a__law_whole a__law_is_share a__law_stands_for a__law_steeper a__law_steps a__law_corners a__law_near a__law_right a__law_is_no_fit a__law_parted a_law c_NoFit c_NoShare c_GlassError d_is_whole d_common d_share d_stands d_two_stands d_is_steeper d_steps_of d_curve d__law_drawn d__law_common d__law_made d__law_cut d__law_rows d__law_glass d__law_whole d__law_is_share d__law_stands_for d__law_steeper d__law_steps d__law_corners d__law_near d__law_right d__law_is_no_fit d__law_parted d_law) : FnOk P w K mg base (L2.CX P w) 3 a__law_parted d__law_parted ["_law_glass_here", "_law_xs"] (spM K mg 2 m_Lparted_91e29) := by
  have G__law_made := ok_Lmade (P := P) (w := w) (base := base) T
  refine ok_def (ms := b_Lparted_91e29) T.F__law_parted sc_Lparted rfl rfl fun cdv A outer s H E hr => ?_
  have nd := sc_Lparted.nd
  exact (dss_cons (ds_set (i := 2) nd rfl (by first | exact Or.inl rfl | exact Or.inr rfl) (do_p (dp_callB call_len sem_len (by rfl) T.n_len (by decide +kernel) (dpa_cons (dp_ix ix_seq sem_ix (dp_ix ix_seq sem_ix (dp_var 0 (pv 0)) dp_int (fun _ _ => rfl)) dp_int (fun _ _ => rfl)) dpa_nil))))
      (dss_cons (ds_if (PW.pt (dw_or (dt_cmp op_gt sem_cmp (dp_ix ix_seq sem_ix (dp_var 1 (pv 1)) dp_int (fun _ _ => rfl)) dp_int (nomark _)) (dw_or1 (dt_cmp op_gt sem_cmp (dp_var 2 (pv 2)) dp_int (nomark _))))) (dss_one (ds_retV 0 (pv 0))) dss_nil)
      (dss_cons (ds_set (i := 3) nd rfl (by first | exact Or.inl rfl | exact Or.inr rfl) (do_lst doa_nil))
      (dss_cons (ds_for (passes_of rfl) rfl (di_seq (do_ix (do_var 0 (pv 0)) dp_int (fun _ _ => rfl))) (pg_name (i := 4) nd rfl (by first | exact Or.inl rfl | exact Or.inr rfl)) dg_name (dss_cons (ds_set (i := 5) nd rfl (by first | exact Or.inl rfl | exact Or.inr rfl) (do_f (do_lst doa_nil)))
      (dss_cons (ds_for (passes_of rfl) rfl (di_rng1 (by rfl) T.n_range (dpa_cons (dp_var 2 (pv 2)) dpa_nil)) (pg_name (i := 6) nd rfl (by first | exact Or.inl rfl | exact Or.inr rfl)) dg_name (dss_one (ds_set (i := 5) nd rfl (by first | exact Or.inl rfl | exact Or.inr rfl) (do_f (do_op op_addAll semO_add (dp_var 5 (pv 5)) (dp_o (do_lst (doa_cons (do_opN op_mulAll sem_mul (dp_ix ix_seq sem_ix (dp_var 4 (pv 4)) (dp_var 6 (pv 6)) (fun _ _ => rfl)) (dp_op op_mod sem_mod (dp_ix ix_seq sem_ix (dp_var 1 (pv 1)) dp_int (fun _ _ => rfl)) dp_int)) (doa_cons (do_opN op_mulAll sem_mul (dp_ix ix_seq sem_ix (dp_var 4 (pv 4)) (dp_var 6 (pv 6)) (fun _ _ => rfl)) (dp_op op_sub sem_sub dp_int (dp_op op_mod sem_mod (dp_ix ix_seq sem_ix (dp_var 1 (pv 1)) dp_int (fun _ _ => rfl)) dp_int))) doa_nil)))))))))
      (dss_one (ds_app 3 (pv 3) (do_op op_addAll semO_add (dp_step (dp_var 5 (pv 5)) ds_none (ds_some dp_int)) (dp_step (dp_var 5 (pv 5)) (ds_some dp_int) (ds_some dp_int))))))))
      (dss_one (ds_ret (do_call (takes_of rfl rfl rfl rfl) G__law_made (hr.mono (by decide)) (by rfl) T.g__law_made T.F__law_made.kp T.b__law_made rfl (dpa_cons (dp_op op_mulAll (SemN.p sem_mul) dp_int (dp_ix ix_seq sem_ix (dp_var 0 (pv 0)) dp_int (fun _ _ => rfl))) (dpa_cons (dp_var 3 (pv 3)) dpa_nil)))))))))
theorem ok_Lsteeper (T : Txt K mg a_is_whole a_common a_share a_stands a_two_stands a_is_steeper a_steps_of a_curve a__law_drawn a__law_common a__law_made a__law_cut a__law_rows a__law_glass a__law_whole a__law_is_share a__law_stands_for a__law_steeper a__law_steps a__law_corners a__law_near a__law_right a__law_is_no_fit a__law_parted a_law c_NoFit c_NoShare c_GlassError d_is_whole d_common d_share d_stands d_two_stands d_is_steeper d_steps_of d_curve d__law_drawn d__law_common d__law_made d__law_cut d__law_rows d__law_glass d__law_whole d__law_is_share d__law_stands_for d__law_steeper d__law_steps d__law_corners d__law_near d__law_right d__law_is_no_fit d__law_parted d_law) : FnOk P w K mg base (L2.CX P w) 1 a__law_steeper d__law_steeper ["_law_one", "_law_other"] (spM K mg 2 m_Lsteeper_c6160) := by
  refine ok_def (ms := b_Lsteeper_c6160) T.F__law_steeper sc_Lsteeper rfl rfl fun cdv A outer s H E hr => ?_
  have nd := sc_Lsteeper.nd
  exact (dss_one (ds_ret (do_p (dp_op op_sub sem_sub (dp_op op_mulAll (SemN.p sem_mul) (dp_ix ix_seq sem_ix (dp_var 0 (pv 0)) dp_int (fun _ _ => rfl)) (dp_ix ix_seq sem_ix (dp_var 1 (pv 1)) dp_int (fun _ _ => rfl))) (dp_op op_mulAll (SemN.p sem_mul) (dp_ix ix_seq sem_ix (dp_var 1 (pv 1)) dp_int (fun _ _ => rfl)) (dp_ix ix_seq sem_ix (dp_var 0 (pv 0)) dp_int (fun _ _ => rfl)))))))
theorem ok_Lsteps (T : Txt K mg a_is_whole a_common a_share a_stands a_two_stands a_is_steeper a_steps_of a_curve a__law_drawn a__law_common a__law_made a__law_cut a__law_rows a__law_glass a__law_whole a__law_is_share a__law_stands_for a__law_steeper a__law_steps a__law_corners a__law_near a__law_right a__law_is_no_fit a__law_parted a_law c_NoFit c_NoShare c_GlassError d_is_whole d_common d_share d_stands d_two_stands d_is_steeper d_steps_of d_curve d__law_drawn d__law_common d__law_made d__law_cut d__law_rows d__law_glass d__law_whole d__law_is_share d__law_stands_for d__law_steeper d__law_steps d__law_corners d__law_near d__law_right d__law_is_no_fit d__law_parted d_law) : FnOk P w K mg base (L2.CX P w) 2 a__law_steps d__law_steps ["_law_glass_here"] (spM K mg 1 m_Lsteps_35a56) := by
  have G__law_steeper := ok_Lsteeper (P := P) (w := w) (base := base) T
  refine ok_def (ms := b_Lsteps_35a56) T.F__law_steps sc_Lsteps rfl rfl fun cdv A outer s H E hr => ?_
  have nd := sc_Lsteps.nd
  exact (dss_cons (ds_set (i := 1) nd rfl (by first | exact Or.inl rfl | exact Or.inr rfl) (do_lst doa_nil))
      (dss_cons (ds_for (passes_of rfl) rfl (di_rng1 (by rfl) T.n_range (dpa_cons (dp_callB call_len sem_len (by rfl) T.n_len (by decide +kernel) (dpa_cons (dp_ix ix_seq sem_ix (dp_ix ix_seq sem_ix (dp_var 0 (pv 0)) dp_int (fun _ _ => rfl)) dp_int (fun _ _ => rfl)) dpa_nil)) dpa_nil)) (pg_name (i := 2) nd rfl (by first | exact Or.inl rfl | exact Or.inr rfl)) dg_name (dss_one (ds_if (dt_cmp op_gt sem_cmp (dp_op op_addAll sem_add (dp_ix ix_seq sem_ix (dp_ix ix_seq sem_ix (dp_ix ix_seq sem_ix (dp_var 0 (pv 0)) dp_int (fun _ _ => rfl)) dp_int (fun _ _ => rfl)) (dp_var 2 (pv 2)) (fun _ _ => rfl)) (dp_ix ix_seq sem_ix (dp_ix ix_seq sem_ix (dp_ix ix_seq sem_ix (dp_var 0 (pv 0)) dp_int (fun _ _ => rfl)) dp_int (fun _ _ => rfl)) (dp_var 2 (pv 2)) (fun _ _ => rfl))) dp_int (nomark _)) (dss_one (ds_app 1 (pv 1) (do_tup (doa_cons (do_ix (do_ix (do_ix (do_var 0 (pv 0)) dp_int (fun _ _ => rfl)) dp_int (fun _ _ => rfl)) (dp_var 2 (pv 2)) (fun _ _ => rfl)) (doa_cons (do_ix (do_ix (do_ix (do_var 0 (pv 0)) dp_int (fun _ _ => rfl)) dp_int (fun _ _ => rfl)) (dp_var 2 (pv 2)) (fun _ _ => rfl)) doa_nil))))) dss_nil)))
      (dss_cons (ds_set (i := 3) nd rfl (by first | exact Or.inl rfl | exact Or.inr rfl) (do_lst doa_nil))
      (dss_cons (ds_while (passes_of rfl) (dt_cmp (op_neD hr.units) sem_ne (dp_var 1 (pv 1)) (dp_o (do_lst doa_nil)) (nomark _)) (dss_cons (ds_set (i := 4) nd rfl (by first | exact Or.inl rfl | exact Or.inr rfl) (do_p (dp_ix ix_seq sem_ix (dp_var 1 (pv 1)) dp_int (fun _ _ => rfl))))
      (dss_cons (ds_frz 1 (ds_for (passes_of rfl) rfl (di_seq (do_var 1 (pv 1))) (pg_name (i := 5) nd rfl (by first | exact Or.inl rfl | exact Or.inr rfl)) dg_name (dss_one (ds_if (dt_cmp op_gt sem_cmp (dp_call (takes_of rfl rfl rfl rfl) G__law_steeper (hr.mono (by decide)) (by rfl) T.g__law_steeper T.F__law_steeper.kp T.b__law_steeper rfl (dpa_cons (dp_var 5 (pv 5)) (dpa_cons (dp_var 4 (pv 4)) dpa_nil))) dp_int (nomark _)) (dss_one (ds_set (i := 4) nd rfl (by first | exact Or.inl rfl | exact Or.inr rfl) (do_var 5 (pv 5)))) dss_nil))))
      (dss_cons (ds_frz 1 (ds_setLcF (i := 6) (own := [("_law_step", 5)]) rfl nd rfl rfl (sw_true rfl rfl rfl (by decide +kernel)) (di_seq (do_var 1 (pv 1))) (blkOk_by (own := [("_law_step", 5)]) (N := names_Lsteps) (by change blkC names_Lsteps (defScope st_Lsteps) _ _ = true; decide +kernel)) dg_name (by decide) (fun _ _ _ _ _ => (pg_name (i := 5) nd rfl (by first | exact Or.inl rfl | exact Or.inr rfl))) (fun _ _ _ _ _ => (dts_one (dt_cmp (op_eqD hr.units) sem_eq (dp_call takes0 G__law_steeper (hr.mono (by decide)) (by rfl) T.g__law_steeper T.F__law_steeper.kp T.b__law_steeper rfl (dpa_cons (dp_var 5 (pv 5)) (dpa_cons (dp_var 4 (pv 4)) dpa_nil))) dp_int (nomark _)))) (fun _ _ _ _ _ => (do_var 5 (pv 5)))))
      (dss_cons (ds_app 3 (pv 3) (do_tup (doa_cons (do_p (dp_callB (cr_sumA rfl) sem_sum (by rfl) T.n_sum (by decide +kernel) (dpa_cons (dp_o (do_comp (own := [("_law_step", 5)]) rfl nd (di_seq (do_var 6 (pv 6))) (blkOk_by (own := [("_law_step", 5)]) (N := names_Lsteps) (by change blkC names_Lsteps (defScope st_Lsteps) _ _ = true; decide +kernel)) dg_name (by decide) (fun _ _ _ _ _ => (pg_name (i := 5) nd rfl (by first | exact Or.inl rfl | exact Or.inr rfl))) (fun _ _ _ _ _ => dts_nil) (fun _ _ _ _ _ => (do_ix (do_var 5 (pv 5)) dp_int (fun _ _ => rfl))))) dpa_nil))) (doa_cons (do_p (dp_callB (cr_sumA rfl) sem_sum (by rfl) T.n_sum (by decide +kernel) (dpa_cons (dp_o (do_comp (own := [("_law_step", 5)]) rfl nd (di_seq (do_var 6 (pv 6))) (blkOk_by (own := [("_law_step", 5)]) (N := names_Lsteps) (by change blkC names_Lsteps (defScope st_Lsteps) _ _ = true; decide +kernel)) dg_name (by decide) (fun _ _ _ _ _ => (pg_name (i := 5) nd rfl (by first | exact Or.inl rfl | exact Or.inr rfl))) (fun _ _ _ _ _ => dts_nil) (fun _ _ _ _ _ => (do_ix (do_var 5 (pv 5)) dp_int (fun _ _ => rfl))))) dpa_nil))) doa_nil))))
      (dss_one (ds_frz 1 (ds_setLc (i := 1) (own := [("_law_step", 5)]) rfl nd rfl rfl (sw_true rfl rfl rfl (by decide +kernel)) (di_seq (do_var 1 (pv 1))) (blkOk_by (own := [("_law_step", 5)]) (N := names_Lsteps) (by change blkC names_Lsteps (defScope st_Lsteps) _ _ = true; decide +kernel)) dg_name (by decide) (fun _ _ _ _ _ => (pg_name (i := 5) nd rfl (by first | exact Or.inl rfl | exact Or.inr rfl))) (fun _ _ _ _ _ => (dts_one (dt_cmp (op_neD hr.units) sem_ne (dp_call takes0 G__law_steeper (hr.mono (by decide)) (by rfl) T.g__law_steeper T.F__law_steeper.kp T.b__law_steeper rfl (dpa_cons (dp_var 5 (pv 5)) (dpa_cons (dp_var 4 (pv 4)) dpa_nil))) dp_int (nomark _)))) (fun _ _ _ _ _ => (do_var 5 (pv 5)))))))))))
      (dss_one (ds_retV 3 (pv 3)))))))
theorem ok_Lcorners (T : Txt K mg a_is_whole a_common a_share a_stands a_two_stands a_is_steeper a_steps_of a_curve a__law_drawn a__law_common a__law_made a__law_cut a__law_rows a__law_glass a__law_whole a__law_is_share a__law_stands_for a__law_steeper a__law_steps a__law_corners a__law_near a__law_right a__law_is_no_fit a__law_parted a_law c_NoFit c_NoShare c_GlassError d_is_whole d_common d_share d_stands d_two_stands d_is_steeper d_steps_of d_curve d__law_drawn d__law_common d__law_made d__law_cut d__law_rows d__law_glass d__law_whole d__law_is_share d__law_stands_for d__law_steeper d__law_steps d__law_corners d__law_near d__law_right d__law_is_no_fit d__law_parted d_law) : FnOk P w K mg base (L2.CX P w) 3 a__law_corners d__law_corners ["_law_glass_here"] (spM K mg 1 m_Lcorners_3a844) := by
  have G__law_steps := ok_Lsteps (P := P) (w := w) (base := base) T
  refine ok_def (ms := b_Lcorners_3a844) T.F__law_corners sc_Lcorners rfl rfl fun cdv A outer s H E hr => ?_
  have nd := sc_Lcorners.nd
  exact (dss_cons (ds_set (i := 1) nd rfl (by first | exact Or.inl rfl | exact Or.inr rfl) (do_p dp_int))
      (dss_cons (ds_set (i := 2) nd rfl (by first | exact Or.inl rfl | exact Or.inr rfl) (do_p dp_int))
      (dss_cons (ds_set (i := 3) nd rfl (by first | exact Or.inl rfl | exact Or.inr rfl) (do_lst (doa_cons (do_tup (doa_cons (do_p dp_int) (doa_cons (do_p dp_int) doa_nil))) doa_nil)))
      (dss_cons (ds_for (passes_of rfl) rfl (di_seq (do_call (takes_of rfl rfl rfl rfl) G__law_steps (hr.mono (by decide)) (by rfl) T.g__law_steps T.F__law_steps.kp T.b__law_steps rfl (dpa_cons (dp_var 0 (pv 0)) dpa_nil))) (pg_name (i := 4) nd rfl (by first | exact Or.inl rfl | exact Or.inr rfl)) dg_name (dss_cons (ds_set (i := 1) nd rfl (by first | exact Or.inl rfl | exact Or.inr rfl) (do_f (do_op op_addAll semO_add (dp_var 1 (pv 1)) (dp_ix ix_seq sem_ix (dp_var 4 (pv 4)) dp_int (fun _ _ => rfl)))))
      (dss_cons (ds_set (i := 2) nd rfl (by first | exact Or.inl rfl | exact Or.inr rfl) (do_f (do_op op_addAll semO_add (dp_var 2 (pv 2)) (dp_ix ix_seq sem_ix (dp_var 4 (pv 4)) dp_int (fun _ _ => rfl)))))
      (dss_one (ds_app 3 (pv 3) (do_tup (doa_cons (do_var 1 (pv 1)) (doa_cons (do_var 2 (pv 2)) doa_nil))))))))
      (dss_one (ds_retV 3 (pv 3)))))))
theorem ok_Lwhole (T : Txt K mg a_is_whole a_common a_share a_stands a_two_stands a_is_steeper a_steps_of a_curve a__law_drawn a__law_common a__law_made a__law_cut a__law_rows a__law_glass a__law_whole a__law_is_share a__law_stands_for a__law_steeper a__law_steps a__law_corners a__law_near a__law_right a__law_is_no_fit a__law_parted a_law c_NoFit c_NoShare c_GlassError d_is_whole d_common d_share d_stands d_two_stands d_is_steeper d_steps_of d_curve d__law_drawn d__law_common d__law_made d__law_cut d__law_rows d__law_glass d__law_whole d__law_is_share d__law_stands_for d__law_steeper d__law_steps d__law_corners d__law_near d__law_right d__law_is_no_fit d__law_parted d_law) : FnOk P w K mg base (L2.CX P w) 1 a__law_whole d__law_whole ["_law_found"] (spM K mg 1 m_Lwhole_c5d19) := by
  refine ok_def (ms := b_Lwhole_c5d19) T.F__law_whole sc_Lwhole rfl rfl fun cdv A outer s H E hr => ?_
  have nd := sc_Lwhole.nd
  exact (dss_one (ds_ret (do_p (dp_and (dp_isi (by rfl) T.n_isinstance (by rfl) T.n_int (by decide +kernel) (dp_var 0 (pv 0))) (dp_one (dp_not (dp_isi (by rfl) T.n_isinstance (by rfl) T.n_bool (by decide +kernel) (dp_var 0 (pv 0)))))))))
theorem ok_Lis_share (T : Txt K mg a_is_whole a_common a_share a_stands a_two_stands a_is_steeper a_steps_of a_curve a__law_drawn a__law_common a__law_made a__law_cut a__law_rows a__law_glass a__law_whole a__law_is_share a__law_stands_for a__law_steeper a__law_steps a__law_corners a__law_near a__law_right a__law_is_no_fit a__law_parted a_law c_NoFit c_NoShare c_GlassError d_is_whole d_common d_share d_stands d_two_stands d_is_steeper d_steps_of d_curve d__law_drawn d__law_common d__law_made d__law_cut d__law_rows d__law_glass d__law_whole d__law_is_share d__law_stands_for d__law_steeper d__law_steps d__law_corners d__law_near d__law_right d__law_is_no_fit d__law_parted d_law) : FnOk P w K mg base (L2.CX P w) 2 a__law_is_share d__law_is_share ["_law_found"] (spM K mg 1 m_Lis_share_ad7b7) := by
  have G__law_whole := ok_Lwhole (P := P) (w := w) (base := base) T
  refine ok_def (ms := b_Lis_share_ad7b7) T.F__law_is_share sc_Lis_share rfl rfl fun cdv A outer s H E hr => ?_
  have nd := sc_Lis_share.nd
  exact (dss_cons (ds_if (PW.pt (dw_or (dt_not (dt_val (dp_isi (by rfl) T.n_isinstance (by rfl) T.n_tuple (by decide +kernel) (dp_var 0 (pv 0))))) (dw_or1 (dt_cmp (op_neD hr.units) sem_ne (dp_callB call_len sem_len (by rfl) T.n_len (by decide +kernel) (dpa_cons (dp_var 0 (pv 0)) dpa_nil)) dp_int (nomark _))))) (dss_one (ds_ret (do_p dp_bl))) dss_nil)
      (dss_cons (ds_if (PW.pt (dw_or (dt_not (dt_val (dp_call (takes_of rfl rfl rfl rfl) G__law_whole (hr.mono (by decide)) (by rfl) T.g__law_whole T.F__law_whole.kp T.b__law_whole rfl (dpa_cons (dp_ix ix_seq sem_ix (dp_var 0 (pv 0)) dp_int (fun _ _ => rfl)) dpa_nil)))) (dw_or1 (dt_not (dt_val (dp_call (takes_of rfl rfl rfl rfl) G__law_whole (hr.mono (by decide)) (by rfl) T.g__law_whole T.F__law_whole.kp T.b__law_whole rfl (dpa_cons (dp_ix ix_seq sem_ix (dp_var 0 (pv 0)) dp_int (fun _ _ => rfl)) dpa_nil))))))) (dss_one (ds_ret (do_p dp_bl))) dss_nil)
      (dss_cons (ds_set (i := 1) nd rfl (by first | exact Or.inl rfl | exact Or.inr rfl) (do_p (dp_callB call_abs sem_abs (by rfl) T.n_abs (by decide +kernel) (dpa_cons (dp_ix ix_seq sem_ix (dp_var 0 (pv 0)) dp_int (fun _ _ => rfl)) dpa_nil))))
      (dss_cons (ds_set (i := 2) nd rfl (by first | exact Or.inl rfl | exact Or.inr rfl) (do_ix (do_var 0 (pv 0)) dp_int (fun _ _ => rfl)))
      (dss_cons (ds_if (dt_cmp op_lt sem_cmp (dp_var 2 (pv 2)) dp_int (nomark _)) (dss_one (ds_ret (do_p dp_bl))) dss_nil)
      (dss_cons (ds_while (passes_of rfl) (dt_cmp op_gt sem_cmp (dp_var 2 (pv 2)) dp_int (nomark _)) (dss_cons (ds_set (i := 3) nd rfl (by first | exact Or.inl rfl | exact Or.inr rfl) (do_p (dp_op op_mod sem_mod (dp_var 1 (pv 1)) (dp_var 2 (pv 2)))))
      (dss_cons (ds_set (i := 1) nd rfl (by first | exact Or.inl rfl | exact Or.inr rfl) (do_var 2 (pv 2)))
      (dss_one (ds_set (i := 2) nd rfl (by first | exact Or.inl rfl | exact Or.inr rfl) (do_var 3 (pv 3)))))))
      (dss_one (ds_ret (do_p (dp_cmp (op_eqD hr.units) sem_eq (dp_var 1 (pv 1)) dp_int (nomark _)))))))))))
theorem ok_Lstands_for (T : Txt K mg a_is_whole a_common a_share a_stands a_two_stands a_is_steeper a_steps_of a_curve a__law_drawn a__law_common a__law_made a__law_cut a__law_rows a__law_glass a__law_whole a__law_is_share a__law_stands_for a__law_steeper a__law_steps a__law_corners a__law_near a__law_right a__law_is_no_fit a__law_parted a_law c_NoFit c_NoShare c_GlassError d_is_whole d_common d_share d_stands d_two_stands d_is_steeper d_steps_of d_curve d__law_drawn d__law_common d__law_made d__law_cut d__law_rows d__law_glass d__law_whole d__law_is_share d__law_stands_for d__law_steeper d__law_steps d__law_corners d__law_near d__law_right d__law_is_no_fit d__law_parted d_law) : FnOk P w K mg base (L2.CX P w) 3 a__law_stands_for d__law_stands_for ["_law_found", "_law_top", "_law_bottom"] (spM K mg 3 m_Lstands_for_a1c40) := by
  have G__law_is_share := ok_Lis_share (P := P) (w := w) (base := base) T
  refine ok_def (ms := b_Lstands_for_a1c40) T.F__law_stands_for sc_Lstands_for rfl rfl fun cdv A outer s H E hr => ?_
  have nd := sc_Lstands_for.nd
  exact (dss_one (ds_ret (do_p (dp_and (dp_call (takes_of rfl rfl rfl rfl) G__law_is_share (hr.mono (by decide)) (by rfl) T.g__law_is_share T.F__law_is_share.kp T.b__law_is_share rfl (dpa_cons (dp_var 0 (pv 0)) dpa_nil)) (dp_one (dp_cmp (op_eqD hr.units) sem_eq (dp_op op_mulAll (SemN.p sem_mul) (dp_ix ix_seq sem_ix (dp_var 0 (pv 0)) dp_int (fun _ _ => rfl)) (dp_var 2 (pv 2))) (dp_op op_mulAll (SemN.p sem_mul) (dp_var 1 (pv 1)) (dp_ix ix_seq sem_ix (dp_var 0 (pv 0)) dp_int (fun _ _ => rfl))) (nomark _)))))))
theorem ok_Lright (T : Txt K mg a_is_whole a_common a_share a_stands a_two_stands a_is_steeper a_steps_of a_curve a__law_drawn a__law_common a__law_made a__law_cut a__law_rows a__law_glass a__law_whole a__law_is_share a__law_stands_for a__law_steeper a__law_steps a__law_corners a__law_near a__law_right a__law_is_no_fit a__law_parted a_law c_NoFit c_NoShare c_GlassError d_is_whole d_common d_share d_stands d_two_stands d_is_steeper d_steps_of d_curve d__law_drawn d__law_common d__law_made d__law_cut d__law_rows d__law_glass d__law_whole d__law_is_share d__law_stands_for d__law_steeper d__law_steps d__law_corners d__law_near d__law_right d__law_is_no_fit d__law_parted d_law) : FnOk P w K mg base (L2.CX P w) 4 a__law_right d__law_right ["_law_glass_here"] (spM K mg 1 m_Lright_5da97) := by
  have G__law_corners := ok_Lcorners (P := P) (w := w) (base := base) T
  have G__law_stands_for := ok_Lstands_for (P := P) (w := w) (base := base) T
  have G_curve := ok_curve (P := P) (w := w) (base := base) T
  refine ok_def (ms := b_Lright_5da97) T.F__law_right sc_Lright rfl rfl fun cdv A outer s H E hr => ?_
  have nd := sc_Lright.nd
  exact (dss_cons (ds_set (i := 1) nd rfl (by first | exact Or.inl rfl | exact Or.inr rfl) (do_call (takes_of rfl rfl rfl rfl) G_curve (hr.mono (by decide)) (by rfl) T.g_curve T.F_curve.kp T.b_curve rfl (dpa_cons (dp_var 0 (pv 0)) dpa_nil)))
      (dss_cons (ds_set (i := 2) nd rfl (by first | exact Or.inl rfl | exact Or.inr rfl) (do_f (do_call (takes_of rfl rfl rfl rfl) G__law_corners (hr.mono (by decide)) (by rfl) T.g__law_corners T.F__law_corners.kp T.b__law_corners rfl (dpa_cons (dp_var 0 (pv 0)) dpa_nil))))
      (dss_cons (ds_if (PW.pt (dw_or (dt_not (dt_val (dp_isi (by rfl) T.n_isinstance (by rfl) T.n_list (by decide +kernel) (dp_var 1 (pv 1))))) (dw_or1 (dt_cmp (op_neD hr.units) sem_ne (dp_callB call_len sem_len (by rfl) T.n_len (by decide +kernel) (dpa_cons (dp_var 1 (pv 1)) dpa_nil)) (dp_callB call_len sem_len (by rfl) T.n_len (by decide +kernel) (dpa_cons (dp_var 2 (pv 2)) dpa_nil)) (nomark _))))) (dss_one (ds_ret (do_p dp_bl))) dss_nil)
      (dss_cons (ds_for (passes_of rfl) rfl (di_rng1 (by rfl) T.n_range (dpa_cons (dp_callB call_len sem_len (by rfl) T.n_len (by decide +kernel) (dpa_cons (dp_var 2 (pv 2)) dpa_nil)) dpa_nil)) (pg_name (i := 3) nd rfl (by first | exact Or.inl rfl | exact Or.inr rfl)) dg_name (dss_cons (ds_if (PW.pt (dw_or (dt_not (dt_val (dp_isi (by rfl) T.n_isinstance (by rfl) T.n_tuple (by decide +kernel) (dp_ix ix_seq sem_ix (dp_var 1 (pv 1)) (dp_var 3 (pv 3)) (fun _ _ => rfl))))) (dw_or1 (dt_cmp (op_neD hr.units) sem_ne (dp_callB call_len sem_len (by rfl) T.n_len (by decide +kernel) (dpa_cons (dp_ix ix_seq sem_ix (dp_var 1 (pv 1)) (dp_var 3 (pv 3)) (fun _ _ => rfl)) dpa_nil)) dp_int (nomark _))))) (dss_one (ds_ret (do_p dp_bl))) dss_nil)
      (dss_cons (ds_if (dt_not (dt_val (dp_call (takes_of rfl rfl rfl rfl) G__law_stands_for (hr.mono (by decide)) (by rfl) T.g__law_stands_for T.F__law_stands_for.kp T.b__law_stands_for rfl (dpa_cons (dp_ix ix_seq sem_ix (dp_ix ix_seq sem_ix (dp_var 1 (pv 1)) (dp_var 3 (pv 3)) (fun _ _ => rfl)) dp_int (fun _ _ => rfl)) (dpa_cons (dp_ix ix_seq sem_ix (dp_ix ix_seq sem_ix (dp_var 2 (pv 2)) (dp_var 3 (pv 3)) (fun _ _ => rfl)) dp_int (fun _ _ => rfl)) (dpa_cons (dp_ix ix_seq sem_ix (dp_var 0 (pv 0)) dp_int (fun _ _ => rfl)) dpa_nil)))))) (dss_one (ds_ret (do_p dp_bl))) dss_nil)
      (dss_one (ds_if (dt_not (dt_val (dp_call (takes_of rfl rfl rfl rfl) G__law_stands_for (hr.mono (by decide)) (by rfl) T.g__law_stands_for T.F__law_stands_for.kp T.b__law_stands_for rfl (dpa_cons (dp_ix ix_seq sem_ix (dp_ix ix_seq sem_ix (dp_var 1 (pv 1)) (dp_var 3 (pv 3)) (fun _ _ => rfl)) dp_int (fun _ _ => rfl)) (dpa_cons (dp_ix ix_seq sem_ix (dp_ix ix_seq sem_ix (dp_var 2 (pv 2)) (dp_var 3 (pv 3)) (fun _ _ => rfl)) dp_int (fun _ _ => rfl)) (dpa_cons (dp_ix ix_seq sem_ix (dp_var 0 (pv 0)) dp_int (fun _ _ => rfl)) dpa_nil)))))) (dss_one (ds_ret (do_p dp_bl))) dss_nil)))))
      (dss_cons (ds_set (i := 4) nd rfl (by first | exact Or.inl rfl | exact Or.inr rfl) (do_f (do_callT call_list_of sem_list (by rfl) T.n_list (by decide +kernel) (dpa_cons (dp_var 1 (pv 1)) dpa_nil))))
      (dss_cons (ds_app 1 (pv 1) (do_p dp_non))
      (dss_cons (ds_set (i := 5) nd rfl (by first | exact Or.inl rfl | exact Or.inr rfl) (do_f (do_tup (doa_cons (do_ix (do_var 0 (pv 0)) dp_int (fun _ _ => rfl)) (doa_cons (do_callT call_tuple_of sem_tuple (by rfl) T.n_tuple (by decide +kernel) (dpa_cons (dp_o (do_comp (own := [("_law_row", 6)]) rfl nd (di_seq (do_ix (do_var 0 (pv 0)) dp_int (fun _ _ => rfl))) (blkOk_by (own := [("_law_row", 6)]) (N := names_Lright) (by change blkC names_Lright (defScope st_Lright) _ _ = true; decide +kernel)) dg_name (by decide) (fun _ _ _ _ _ => (pg_name (i := 6) nd rfl (by first | exact Or.inl rfl | exact Or.inr rfl))) (fun _ _ _ _ _ => dts_nil) (fun _ _ _ _ _ => (do_step (dp_var 6 (pv 6)) ds_none (ds_some (dp_neg dp_int)))))) dpa_nil)) doa_nil)))))
      (dss_one (ds_ret (do_p (dp_and (dp_cmp (op_eqD hr.units) sem_eq (dp_ix ix_seq sem_ix (dp_var 4 (pv 4)) (dp_neg dp_int) (fun _ _ => rfl)) (dp_tup (dpa_cons (dp_tup (dpa_cons dp_int (dpa_cons dp_int dpa_nil))) (dpa_cons (dp_tup (dpa_cons dp_int (dpa_cons dp_int dpa_nil))) dpa_nil))) (nomark _)) (dp_and (dp_cmp (op_eqD hr.units) sem_eq (dp_call (takes_of rfl rfl rfl rfl) G_curve (hr.mono (by decide)) (by rfl) T.g_curve T.F_curve.kp T.b_curve rfl (dpa_cons (dp_var 0 (pv 0)) dpa_nil)) (dp_var 4 (pv 4)) (nomark _)) (dp_one (dp_cmp (op_eqD hr.units) sem_eq (dp_call (takes_of rfl rfl rfl rfl) G_curve (hr.mono (by decide)) (by rfl) T.g_curve T.F_curve.kp T.b_curve rfl (dpa_cons (dp_var 5 (pv 5)) dpa_nil)) (dp_var 4 (pv 4)) (nomark _)))))))))))))))
theorem ok_law (T : Txt K mg a_is_whole a_common a_share a_stands a_two_stands a_is_steeper a_steps_of a_curve a__law_drawn a__law_common a__law_made a__law_cut a__law_rows a__law_glass a__law_whole a__law_is_share a__law_stands_for a__law_steeper a__law_steps a__law_corners a__law_near a__law_right a__law_is_no_fit a__law_parted a_law c_NoFit c_NoShare c_GlassError d_is_whole d_common d_share d_stands d_two_stands d_is_steeper d_steps_of d_curve d__law_drawn d__law_common d__law_made d__law_cut d__law_rows d__law_glass d__law_whole d__law_is_share d__law_stands_for d__law_steeper d__law_steps d__law_corners d__law_near d__law_right d__law_is_no_fit d__law_parted d_law) : FnOk P w K mg base (L2.CX P w) 5 a_law d_law ["_law_script"] (spM K mg 1 m_law_0d8e6) := by
  have G__law_drawn := ok_Ldrawn (P := P) (w := w) (base := base) T
  have G__law_glass := ok_Lglass (P := P) (w := w) (base := base) T
  have G__law_is_no_fit := ok_Lis_no_fit (P := P) (w := w) (base := base) T
  have G__law_made := ok_Lmade (P := P) (w := w) (base := base) T
  have G__law_near := ok_Lnear (P := P) (w := w) (base := base) T
  have G__law_parted := ok_Lparted (P := P) (w := w) (base := base) T
  have G__law_right := ok_Lright (P := P) (w := w) (base := base) T
  refine ok_def (ms := b_law_0d8e6) T.F_law sc_law rfl rfl fun cdv A outer s H E hr => ?_
  have nd := sc_law.nd
  exact (dss_cons (ds_for (passes_of rfl) rfl (di_rng2 (by rfl) T.n_range (dpa_cons dp_int (dpa_cons (dp_callB (call_min2 rfl) sem_min2 (by rfl) T.n_min (by decide +kernel) (dpa_cons dp_int (dpa_cons (dp_callB (call_max2 rfl) sem_max2 (by rfl) T.n_max (by decide +kernel) (dpa_cons dp_int (dpa_cons (dp_callB call_len sem_len (by rfl) T.n_len (by decide +kernel) (dpa_cons (dp_var 0 (pv 0)) dpa_nil)) dpa_nil))) dpa_nil))) dpa_nil))) (pg_name (i := 1) nd rfl (by first | exact Or.inl rfl | exact Or.inr rfl)) dg_name (dss_cons (ds_set (i := 2) nd rfl (by first | exact Or.inl rfl | exact Or.inr rfl) (do_f (do_call (takes_of rfl rfl rfl rfl) G__law_glass (hr.mono (by decide)) (by rfl) T.g__law_glass T.F__law_glass.kp T.b__law_glass rfl (dpa_cons (dp_var 0 (pv 0)) (dpa_cons (dp_var 1 (pv 1)) (dpa_cons (dp_o (do_lst (doa_cons (do_p dp_int) (doa_cons (do_p dp_int) doa_nil)))) (dpa_cons dp_int dpa_nil)))))))
      (dss_cons (ds_set (i := 3) nd rfl (by first | exact Or.inl rfl | exact Or.inr rfl) (do_f (do_tup (doa_cons (do_ix (do_var 2 (pv 2)) dp_int (fun _ _ => rfl)) (doa_cons (do_slice (dp_ix ix_seq sem_ix (dp_var 2 (pv 2)) dp_int (fun _ _ => rfl)) ds_none (ds_some dp_int)) doa_nil)))))
      (dss_cons (ds_set (i := 3) nd rfl (by first | exact Or.inl rfl | exact Or.inr rfl) (do_f (do_call (takes_of rfl rfl rfl rfl) G__law_made (hr.mono (by decide)) (by rfl) T.g__law_made T.F__law_made.kp T.b__law_made rfl (dpa_cons (dp_ix ix_seq sem_ix (dp_var 3 (pv 3)) dp_int (fun _ _ => rfl)) (dpa_cons (dp_ix ix_seq sem_ix (dp_var 3 (pv 3)) dp_int (fun _ _ => rfl)) dpa_nil)))))
      (dss_cons (ds_if (dt_not (dt_val (dp_call (takes_of rfl rfl rfl rfl) G__law_right (hr.mono (by decide)) (by rfl) T.g__law_right T.F__law_right.kp T.b__law_right rfl (dpa_cons (dp_call (takes_of rfl rfl rfl rfl) G__law_parted (hr.mono (by decide)) (by rfl) T.g__law_parted T.F__law_parted.kp T.b__law_parted rfl (dpa_cons (dp_var 3 (pv 3)) (dpa_cons (dp_call (takes_of rfl rfl rfl rfl) G__law_drawn (hr.mono (by decide)) (by rfl) T.g__law_drawn T.F__law_drawn.kp T.b__law_drawn rfl (dpa_cons (dp_var 0 (pv 0)) (dpa_cons (dp_op op_addAll sem_add (dp_var 1 (pv 1)) dp_int) (dpa_cons (dp_o (do_lst (doa_cons (do_p dp_int) (doa_cons (do_p dp_int) doa_nil)))) dpa_nil)))) dpa_nil))) dpa_nil)))) (dss_one (ds_ret (do_p dp_bl))) dss_nil)
      (dss_cons (ds_if (PW.pt (dw_and (dt_cmp op_gt sem_cmp (dp_callB call_len sem_len (by rfl) T.n_len (by decide +kernel) (dpa_cons (dp_ix ix_seq sem_ix (dp_var 2 (pv 2)) dp_int (fun _ _ => rfl)) dpa_nil)) dp_int (nomark _)) (dw_and1 (dt_not (dt_val (dp_call (takes_of rfl rfl rfl rfl) G__law_is_no_fit (hr.mono (by decide)) (by rfl) T.g__law_is_no_fit T.F__law_is_no_fit.kp T.b__law_is_no_fit rfl (dpa_cons (dp_var 2 (pv 2)) dpa_nil))))))) (dss_one (ds_ret (do_p dp_bl))) dss_nil)
      (dss_one (ds_if (dt_not (dt_val (dp_call (takes_of rfl rfl rfl rfl) G__law_right (hr.mono (by decide)) (by rfl) T.g__law_right T.F__law_right.kp T.b__law_right rfl (dpa_cons (dp_call (takes_of rfl rfl rfl rfl) G__law_near (hr.mono (by decide)) (by rfl) T.g__law_near T.F__law_near.kp T.b__law_near rfl (dpa_cons (dp_var 0 (pv 0)) (dpa_cons (dp_var 1 (pv 1)) dpa_nil))) dpa_nil)))) (dss_one (ds_ret (do_p dp_bl))) dss_nil))))))))
      (dss_one (ds_ret (do_p dp_bl))))
theorem all_mk {l : PySem.W.OpenLaw} {fa : Addr} {h : Heap} {oc_is_whole kV_is_whole dc_is_whole pm_is_whole cd_is_whole ct_is_whole : Value} {od_is_whole an_is_whole : Option Addr} {sl_is_whole : Array (Option Value)} {oc_common kV_common dc_common pm_common cd_common ct_common : Value} {od_common an_common : Option Addr} {sl_common : Array (Option Value)} {oc_share kV_share dc_share pm_share cd_share ct_share : Value} {od_share an_share : Option Addr} {sl_share : Array (Option Value)} {oc_stands kV_stands dc_stands pm_stands cd_stands ct_stands : Value} {od_stands an_stands : Option Addr} {sl_stands : Array (Option Value)} {oc_two_stands kV_two_stands dc_two_stands pm_two_stands cd_two_stands ct_two_stands : Value} {od_two_stands an_two_stands : Option Addr} {sl_two_stands : Array (Option Value)} {oc_is_steeper kV_is_steeper dc_is_steeper pm_is_steeper cd_is_steeper ct_is_steeper : Value} {od_is_steeper an_is_steeper : Option Addr} {sl_is_steeper : Array (Option Value)} {oc_steps_of kV_steps_of dc_steps_of pm_steps_of cd_steps_of ct_steps_of : Value} {od_steps_of an_steps_of : Option Addr} {sl_steps_of : Array (Option Value)} {oc_curve kV_curve dc_curve pm_curve cd_curve ct_curve : Value} {od_curve an_curve : Option Addr} {sl_curve : Array (Option Value)} {oc__law_drawn kV__law_drawn dc__law_drawn pm__law_drawn cd__law_drawn ct__law_drawn : Value} {od__law_drawn an__law_drawn : Option Addr} {sl__law_drawn : Array (Option Value)} {oc__law_common kV__law_common dc__law_common pm__law_common cd__law_common ct__law_common : Value} {od__law_common an__law_common : Option Addr} {sl__law_common : Array (Option Value)} {oc__law_made kV__law_made dc__law_made pm__law_made cd__law_made ct__law_made : Value} {od__law_made an__law_made : Option Addr} {sl__law_made : Array (Option Value)} {oc__law_cut kV__law_cut dc__law_cut pm__law_cut cd__law_cut ct__law_cut : Value} {od__law_cut an__law_cut : Option Addr} {sl__law_cut : Array (Option Value)} {oc__law_rows kV__law_rows dc__law_rows pm__law_rows cd__law_rows ct__law_rows : Value} {od__law_rows an__law_rows : Option Addr} {sl__law_rows : Array (Option Value)} {oc__law_glass kV__law_glass dc__law_glass pm__law_glass cd__law_glass ct__law_glass : Value} {od__law_glass an__law_glass : Option Addr} {sl__law_glass : Array (Option Value)} {oc__law_whole kV__law_whole dc__law_whole pm__law_whole cd__law_whole ct__law_whole : Value} {od__law_whole an__law_whole : Option Addr} {sl__law_whole : Array (Option Value)} {oc__law_is_share kV__law_is_share dc__law_is_share pm__law_is_share cd__law_is_share ct__law_is_share : Value} {od__law_is_share an__law_is_share : Option Addr} {sl__law_is_share : Array (Option Value)} {oc__law_stands_for kV__law_stands_for dc__law_stands_for pm__law_stands_for cd__law_stands_for ct__law_stands_for : Value} {od__law_stands_for an__law_stands_for : Option Addr} {sl__law_stands_for : Array (Option Value)} {oc__law_steeper kV__law_steeper dc__law_steeper pm__law_steeper cd__law_steeper ct__law_steeper : Value} {od__law_steeper an__law_steeper : Option Addr} {sl__law_steeper : Array (Option Value)} {oc__law_steps kV__law_steps dc__law_steps pm__law_steps cd__law_steps ct__law_steps : Value} {od__law_steps an__law_steps : Option Addr} {sl__law_steps : Array (Option Value)} {oc__law_corners kV__law_corners dc__law_corners pm__law_corners cd__law_corners ct__law_corners : Value} {od__law_corners an__law_corners : Option Addr} {sl__law_corners : Array (Option Value)} {oc__law_near kV__law_near dc__law_near pm__law_near cd__law_near ct__law_near : Value} {od__law_near an__law_near : Option Addr} {sl__law_near : Array (Option Value)} {oc__law_right kV__law_right dc__law_right pm__law_right cd__law_right ct__law_right : Value} {od__law_right an__law_right : Option Addr} {sl__law_right : Array (Option Value)} {oc__law_is_no_fit kV__law_is_no_fit dc__law_is_no_fit pm__law_is_no_fit cd__law_is_no_fit ct__law_is_no_fit : Value} {od__law_is_no_fit an__law_is_no_fit : Option Addr} {sl__law_is_no_fit : Array (Option Value)} {oc__law_parted kV__law_parted dc__law_parted pm__law_parted cd__law_parted ct__law_parted : Value} {od__law_parted an__law_parted : Option Addr} {sl__law_parted : Array (Option Value)} {oc_law kV_law dc_law pm_law cd_law ct_law : Value} {od_law an_law : Option Addr} {sl_law : Array (Option Value)} (X : K.In h) (G : h.Ns mainGlobals mg) (hfa : mg "law" = some (.ref fa))
    (e1_is_whole : PySem.W.nsIn K mainGlobals "is_whole" = some (some (.ref a_is_whole))) (e2_is_whole : K.lookup a_is_whole = some ⟨oc_is_whole, od_is_whole, .func (PySem.W.fnOf "is_whole" "is_whole" (defArgs st_is_whole) (defBody st_is_whole) (defScope st_is_whole) .none kV_is_whole dc_is_whole pm_is_whole an_is_whole cd_is_whole ct_is_whole), sl_is_whole⟩) (e3_is_whole : PySem.W.codeIn K cd_is_whole "is_whole" = true) (e4_is_whole : PySem.W.keepIn K (.ref a_is_whole) = true)
    (e1_common : PySem.W.nsIn K mainGlobals "common" = some (some (.ref a_common))) (e2_common : K.lookup a_common = some ⟨oc_common, od_common, .func (PySem.W.fnOf "common" "common" (defArgs st_common) (defBody st_common) (defScope st_common) .none kV_common dc_common pm_common an_common cd_common ct_common), sl_common⟩) (e3_common : PySem.W.codeIn K cd_common "common" = true) (e4_common : PySem.W.keepIn K (.ref a_common) = true)
    (e1_share : PySem.W.nsIn K mainGlobals "share" = some (some (.ref a_share))) (e2_share : K.lookup a_share = some ⟨oc_share, od_share, .func (PySem.W.fnOf "share" "share" (defArgs st_share) (defBody st_share) (defScope st_share) .none kV_share dc_share pm_share an_share cd_share ct_share), sl_share⟩) (e3_share : PySem.W.codeIn K cd_share "share" = true) (e4_share : PySem.W.keepIn K (.ref a_share) = true)
    (e1_stands : PySem.W.nsIn K mainGlobals "stands" = some (some (.ref a_stands))) (e2_stands : K.lookup a_stands = some ⟨oc_stands, od_stands, .func (PySem.W.fnOf "stands" "stands" (defArgs st_stands) (defBody st_stands) (defScope st_stands) .none kV_stands dc_stands pm_stands an_stands cd_stands ct_stands), sl_stands⟩) (e3_stands : PySem.W.codeIn K cd_stands "stands" = true) (e4_stands : PySem.W.keepIn K (.ref a_stands) = true)
    (e1_two_stands : PySem.W.nsIn K mainGlobals "two_stands" = some (some (.ref a_two_stands))) (e2_two_stands : K.lookup a_two_stands = some ⟨oc_two_stands, od_two_stands, .func (PySem.W.fnOf "two_stands" "two_stands" (defArgs st_two_stands) (defBody st_two_stands) (defScope st_two_stands) .none kV_two_stands dc_two_stands pm_two_stands an_two_stands cd_two_stands ct_two_stands), sl_two_stands⟩) (e3_two_stands : PySem.W.codeIn K cd_two_stands "two_stands" = true) (e4_two_stands : PySem.W.keepIn K (.ref a_two_stands) = true)
    (e1_is_steeper : PySem.W.nsIn K mainGlobals "is_steeper" = some (some (.ref a_is_steeper))) (e2_is_steeper : K.lookup a_is_steeper = some ⟨oc_is_steeper, od_is_steeper, .func (PySem.W.fnOf "is_steeper" "is_steeper" (defArgs st_is_steeper) (defBody st_is_steeper) (defScope st_is_steeper) .none kV_is_steeper dc_is_steeper pm_is_steeper an_is_steeper cd_is_steeper ct_is_steeper), sl_is_steeper⟩) (e3_is_steeper : PySem.W.codeIn K cd_is_steeper "is_steeper" = true) (e4_is_steeper : PySem.W.keepIn K (.ref a_is_steeper) = true)
    (e1_steps_of : PySem.W.nsIn K mainGlobals "steps_of" = some (some (.ref a_steps_of))) (e2_steps_of : K.lookup a_steps_of = some ⟨oc_steps_of, od_steps_of, .func (PySem.W.fnOf "steps_of" "steps_of" (defArgs st_steps_of) (defBody st_steps_of) (defScope st_steps_of) .none kV_steps_of dc_steps_of pm_steps_of an_steps_of cd_steps_of ct_steps_of), sl_steps_of⟩) (e3_steps_of : PySem.W.codeIn K cd_steps_of "steps_of" = true) (e4_steps_of : PySem.W.keepIn K (.ref a_steps_of) = true)
    (e1_curve : PySem.W.nsIn K mainGlobals "curve" = some (some (.ref a_curve))) (e2_curve : K.lookup a_curve = some ⟨oc_curve, od_curve, .func (PySem.W.fnOf "curve" "curve" (defArgs st_curve) (defBody st_curve) (defScope st_curve) .none kV_curve dc_curve pm_curve an_curve cd_curve ct_curve), sl_curve⟩) (e3_curve : PySem.W.codeIn K cd_curve "curve" = true) (e4_curve : PySem.W.keepIn K (.ref a_curve) = true)
    (e1__law_drawn : PySem.W.nsIn K mainGlobals "_law_drawn" = some (some (.ref a__law_drawn))) (e2__law_drawn : K.lookup a__law_drawn = some ⟨oc__law_drawn, od__law_drawn, .func (PySem.W.fnOf "_law_drawn" "_law_drawn" (defArgs st_Ldrawn) (defBody st_Ldrawn) (defScope st_Ldrawn) .none kV__law_drawn dc__law_drawn pm__law_drawn an__law_drawn cd__law_drawn ct__law_drawn), sl__law_drawn⟩) (e3__law_drawn : PySem.W.codeIn K cd__law_drawn "_law_drawn" = true) (e4__law_drawn : PySem.W.keepIn K (.ref a__law_drawn) = true)
    (e1__law_common : PySem.W.nsIn K mainGlobals "_law_common" = some (some (.ref a__law_common))) (e2__law_common : K.lookup a__law_common = some ⟨oc__law_common, od__law_common, .func (PySem.W.fnOf "_law_common" "_law_common" (defArgs st_Lcommon) (defBody st_Lcommon) (defScope st_Lcommon) .none kV__law_common dc__law_common pm__law_common an__law_common cd__law_common ct__law_common), sl__law_common⟩) (e3__law_common : PySem.W.codeIn K cd__law_common "_law_common" = true) (e4__law_common : PySem.W.keepIn K (.ref a__law_common) = true)
    (e1__law_made : PySem.W.nsIn K mainGlobals "_law_made" = some (some (.ref a__law_made))) (e2__law_made : K.lookup a__law_made = some ⟨oc__law_made, od__law_made, .func (PySem.W.fnOf "_law_made" "_law_made" (defArgs st_Lmade) (defBody st_Lmade) (defScope st_Lmade) .none kV__law_made dc__law_made pm__law_made an__law_made cd__law_made ct__law_made), sl__law_made⟩) (e3__law_made : PySem.W.codeIn K cd__law_made "_law_made" = true) (e4__law_made : PySem.W.keepIn K (.ref a__law_made) = true)
    (e1__law_cut : PySem.W.nsIn K mainGlobals "_law_cut" = some (some (.ref a__law_cut))) (e2__law_cut : K.lookup a__law_cut = some ⟨oc__law_cut, od__law_cut, .func (PySem.W.fnOf "_law_cut" "_law_cut" (defArgs st_Lcut) (defBody st_Lcut) (defScope st_Lcut) .none kV__law_cut dc__law_cut pm__law_cut an__law_cut cd__law_cut ct__law_cut), sl__law_cut⟩) (e3__law_cut : PySem.W.codeIn K cd__law_cut "_law_cut" = true) (e4__law_cut : PySem.W.keepIn K (.ref a__law_cut) = true)
    (e1__law_rows : PySem.W.nsIn K mainGlobals "_law_rows" = some (some (.ref a__law_rows))) (e2__law_rows : K.lookup a__law_rows = some ⟨oc__law_rows, od__law_rows, .func (PySem.W.fnOf "_law_rows" "_law_rows" (defArgs st_Lrows) (defBody st_Lrows) (defScope st_Lrows) .none kV__law_rows dc__law_rows pm__law_rows an__law_rows cd__law_rows ct__law_rows), sl__law_rows⟩) (e3__law_rows : PySem.W.codeIn K cd__law_rows "_law_rows" = true) (e4__law_rows : PySem.W.keepIn K (.ref a__law_rows) = true)
    (e1__law_glass : PySem.W.nsIn K mainGlobals "_law_glass" = some (some (.ref a__law_glass))) (e2__law_glass : K.lookup a__law_glass = some ⟨oc__law_glass, od__law_glass, .func (PySem.W.fnOf "_law_glass" "_law_glass" (defArgs st_Lglass) (defBody st_Lglass) (defScope st_Lglass) .none kV__law_glass dc__law_glass pm__law_glass an__law_glass cd__law_glass ct__law_glass), sl__law_glass⟩) (e3__law_glass : PySem.W.codeIn K cd__law_glass "_law_glass" = true) (e4__law_glass : PySem.W.keepIn K (.ref a__law_glass) = true)
    (e1__law_whole : PySem.W.nsIn K mainGlobals "_law_whole" = some (some (.ref a__law_whole))) (e2__law_whole : K.lookup a__law_whole = some ⟨oc__law_whole, od__law_whole, .func (PySem.W.fnOf "_law_whole" "_law_whole" (defArgs st_Lwhole) (defBody st_Lwhole) (defScope st_Lwhole) .none kV__law_whole dc__law_whole pm__law_whole an__law_whole cd__law_whole ct__law_whole), sl__law_whole⟩) (e3__law_whole : PySem.W.codeIn K cd__law_whole "_law_whole" = true) (e4__law_whole : PySem.W.keepIn K (.ref a__law_whole) = true)
    (e1__law_is_share : PySem.W.nsIn K mainGlobals "_law_is_share" = some (some (.ref a__law_is_share))) (e2__law_is_share : K.lookup a__law_is_share = some ⟨oc__law_is_share, od__law_is_share, .func (PySem.W.fnOf "_law_is_share" "_law_is_share" (defArgs st_Lis_share) (defBody st_Lis_share) (defScope st_Lis_share) .none kV__law_is_share dc__law_is_share pm__law_is_share an__law_is_share cd__law_is_share ct__law_is_share), sl__law_is_share⟩) (e3__law_is_share : PySem.W.codeIn K cd__law_is_share "_law_is_share" = true) (e4__law_is_share : PySem.W.keepIn K (.ref a__law_is_share) = true)
    (e1__law_stands_for : PySem.W.nsIn K mainGlobals "_law_stands_for" = some (some (.ref a__law_stands_for))) (e2__law_stands_for : K.lookup a__law_stands_for = some ⟨oc__law_stands_for, od__law_stands_for, .func (PySem.W.fnOf "_law_stands_for" "_law_stands_for" (defArgs st_Lstands_for) (defBody st_Lstands_for) (defScope st_Lstands_for) .none kV__law_stands_for dc__law_stands_for pm__law_stands_for an__law_stands_for cd__law_stands_for ct__law_stands_for), sl__law_stands_for⟩) (e3__law_stands_for : PySem.W.codeIn K cd__law_stands_for "_law_stands_for" = true) (e4__law_stands_for : PySem.W.keepIn K (.ref a__law_stands_for) = true)
    (e1__law_steeper : PySem.W.nsIn K mainGlobals "_law_steeper" = some (some (.ref a__law_steeper))) (e2__law_steeper : K.lookup a__law_steeper = some ⟨oc__law_steeper, od__law_steeper, .func (PySem.W.fnOf "_law_steeper" "_law_steeper" (defArgs st_Lsteeper) (defBody st_Lsteeper) (defScope st_Lsteeper) .none kV__law_steeper dc__law_steeper pm__law_steeper an__law_steeper cd__law_steeper ct__law_steeper), sl__law_steeper⟩) (e3__law_steeper : PySem.W.codeIn K cd__law_steeper "_law_steeper" = true) (e4__law_steeper : PySem.W.keepIn K (.ref a__law_steeper) = true)
    (e1__law_steps : PySem.W.nsIn K mainGlobals "_law_steps" = some (some (.ref a__law_steps))) (e2__law_steps : K.lookup a__law_steps = some ⟨oc__law_steps, od__law_steps, .func (PySem.W.fnOf "_law_steps" "_law_steps" (defArgs st_Lsteps) (defBody st_Lsteps) (defScope st_Lsteps) .none kV__law_steps dc__law_steps pm__law_steps an__law_steps cd__law_steps ct__law_steps), sl__law_steps⟩) (e3__law_steps : PySem.W.codeIn K cd__law_steps "_law_steps" = true) (e4__law_steps : PySem.W.keepIn K (.ref a__law_steps) = true)
    (e1__law_corners : PySem.W.nsIn K mainGlobals "_law_corners" = some (some (.ref a__law_corners))) (e2__law_corners : K.lookup a__law_corners = some ⟨oc__law_corners, od__law_corners, .func (PySem.W.fnOf "_law_corners" "_law_corners" (defArgs st_Lcorners) (defBody st_Lcorners) (defScope st_Lcorners) .none kV__law_corners dc__law_corners pm__law_corners an__law_corners cd__law_corners ct__law_corners), sl__law_corners⟩) (e3__law_corners : PySem.W.codeIn K cd__law_corners "_law_corners" = true) (e4__law_corners : PySem.W.keepIn K (.ref a__law_corners) = true)
    (e1__law_near : PySem.W.nsIn K mainGlobals "_law_near" = some (some (.ref a__law_near))) (e2__law_near : K.lookup a__law_near = some ⟨oc__law_near, od__law_near, .func (PySem.W.fnOf "_law_near" "_law_near" (defArgs st_Lnear) (defBody st_Lnear) (defScope st_Lnear) .none kV__law_near dc__law_near pm__law_near an__law_near cd__law_near ct__law_near), sl__law_near⟩) (e3__law_near : PySem.W.codeIn K cd__law_near "_law_near" = true) (e4__law_near : PySem.W.keepIn K (.ref a__law_near) = true)
    (e1__law_right : PySem.W.nsIn K mainGlobals "_law_right" = some (some (.ref a__law_right))) (e2__law_right : K.lookup a__law_right = some ⟨oc__law_right, od__law_right, .func (PySem.W.fnOf "_law_right" "_law_right" (defArgs st_Lright) (defBody st_Lright) (defScope st_Lright) .none kV__law_right dc__law_right pm__law_right an__law_right cd__law_right ct__law_right), sl__law_right⟩) (e3__law_right : PySem.W.codeIn K cd__law_right "_law_right" = true) (e4__law_right : PySem.W.keepIn K (.ref a__law_right) = true)
    (e1__law_is_no_fit : PySem.W.nsIn K mainGlobals "_law_is_no_fit" = some (some (.ref a__law_is_no_fit))) (e2__law_is_no_fit : K.lookup a__law_is_no_fit = some ⟨oc__law_is_no_fit, od__law_is_no_fit, .func (PySem.W.fnOf "_law_is_no_fit" "_law_is_no_fit" (defArgs st_Lis_no_fit) (defBody st_Lis_no_fit) (defScope st_Lis_no_fit) .none kV__law_is_no_fit dc__law_is_no_fit pm__law_is_no_fit an__law_is_no_fit cd__law_is_no_fit ct__law_is_no_fit), sl__law_is_no_fit⟩) (e3__law_is_no_fit : PySem.W.codeIn K cd__law_is_no_fit "_law_is_no_fit" = true) (e4__law_is_no_fit : PySem.W.keepIn K (.ref a__law_is_no_fit) = true)
    (e1__law_parted : PySem.W.nsIn K mainGlobals "_law_parted" = some (some (.ref a__law_parted))) (e2__law_parted : K.lookup a__law_parted = some ⟨oc__law_parted, od__law_parted, .func (PySem.W.fnOf "_law_parted" "_law_parted" (defArgs st_Lparted) (defBody st_Lparted) (defScope st_Lparted) .none kV__law_parted dc__law_parted pm__law_parted an__law_parted cd__law_parted ct__law_parted), sl__law_parted⟩) (e3__law_parted : PySem.W.codeIn K cd__law_parted "_law_parted" = true) (e4__law_parted : PySem.W.keepIn K (.ref a__law_parted) = true)
    (e1_law : PySem.W.nsIn K mainGlobals "law" = some (some (.ref a_law))) (e2_law : K.lookup a_law = some ⟨oc_law, od_law, .func (PySem.W.fnOf "law" "law" (defArgs st_law) (defBody st_law) (defScope st_law) .none kV_law dc_law pm_law an_law cd_law ct_law), sl_law⟩) (e3_law : PySem.W.codeIn K cd_law "law" = true) (e4_law : PySem.W.keepIn K (.ref a_law) = true)
    (n_abs : PySem.W.nsIn K mainGlobals "abs" = some none)
    (n_bool : PySem.W.nsIn K mainGlobals "bool" = some none)
    (n_enumerate : PySem.W.nsIn K mainGlobals "enumerate" = some none)
    (n_int : PySem.W.nsIn K mainGlobals "int" = some none)
    (n_isinstance : PySem.W.nsIn K mainGlobals "isinstance" = some none)
    (n_len : PySem.W.nsIn K mainGlobals "len" = some none)
    (n_list : PySem.W.nsIn K mainGlobals "list" = some none)
    (n_max : PySem.W.nsIn K mainGlobals "max" = some none)
    (n_min : PySem.W.nsIn K mainGlobals "min" = some none)
    (n_range : PySem.W.nsIn K mainGlobals "range" = some none)
    (n_sorted : PySem.W.nsIn K mainGlobals "sorted" = some none)
    (n_sum : PySem.W.nsIn K mainGlobals "sum" = some none)
    (n_tuple : PySem.W.nsIn K mainGlobals "tuple" = some none)
    (n_zip : PySem.W.nsIn K mainGlobals "zip" = some none)
    (g_NoFit : PySem.W.nsIn K mainGlobals "NoFit" = some (some (.ref c_NoFit))) (x_NoFit : PySem.W.excIn K c_NoFit [.type "ValueError", .type "Exception", .type "BaseException", .type "object"] "ValueError.__new__" = true) (k_NoFit : PySem.W.keepIn K (.ref c_NoFit) = true) (s_NoFit : PySem.W.subIn K (.ref c_NoFit) (.type "BaseException") = some true) (t_NoFit : PySem.W.typeIn K (.ref c_NoFit) = some (.type "type"))
    (g_NoShare : PySem.W.nsIn K mainGlobals "NoShare" = some (some (.ref c_NoShare))) (x_NoShare : PySem.W.excIn K c_NoShare [.type "ValueError", .type "Exception", .type "BaseException", .type "object"] "ValueError.__new__" = true) (k_NoShare : PySem.W.keepIn K (.ref c_NoShare) = true) (s_NoShare : PySem.W.subIn K (.ref c_NoShare) (.type "BaseException") = some true) (t_NoShare : PySem.W.typeIn K (.ref c_NoShare) = some (.type "type"))
    (g_GlassError : PySem.W.nsIn K mainGlobals "GlassError" = some (some (.ref c_GlassError)))
    (Xhg_NoFit : PySem.W.findIn K (.ref c_NoFit) "__getattribute__" = some (some (.builtin "BaseException.__getattribute__")))
    (Xhk_NoFit : PySem.W.findIn K (.ref c_NoFit) "__getattr__" = some none)
    (Xhs_NoFit : PySem.W.subIn K (.ref c_NoFit) (.type "BaseException") = some true)
    (Xhd_NoFit : PySem.W.hasDictIn K c_NoFit = true)
    (Xha_NoFit : PySem.W.findIn K (.ref c_NoFit) "__class__" = some (some (.builtin "object.__class__")))
    (Xhn_NoFit : PySem.W.specialIn K (.builtin "object.__class__") "__get__" = some (some (.builtin "getset_descriptor.__get__")))
    (Xht_NoFit : PySem.W.takesIn K (.builtin "object.__class__") = some true)
    (Xhm_NoFit : PySem.W.mroIn K c_NoFit (.type "object") = some true)
    (Xhg_NoShare : PySem.W.findIn K (.ref c_NoShare) "__getattribute__" = some (some (.builtin "BaseException.__getattribute__")))
    (Xhk_NoShare : PySem.W.findIn K (.ref c_NoShare) "__getattr__" = some none)
    (Xhs_NoShare : PySem.W.subIn K (.ref c_NoShare) (.type "BaseException") = some true)
    (Xhd_NoShare : PySem.W.hasDictIn K c_NoShare = true)
    (Xha_NoShare : PySem.W.findIn K (.ref c_NoShare) "__class__" = some (some (.builtin "object.__class__")))
    (Xhn_NoShare : PySem.W.specialIn K (.builtin "object.__class__") "__get__" = some (some (.builtin "getset_descriptor.__get__")))
    (Xht_NoShare : PySem.W.takesIn K (.builtin "object.__class__") = some true)
    (Xhm_NoShare : PySem.W.mroIn K c_NoShare (.type "object") = some true)
    (d_c_GlassError : PySem.W.hasDictIn K c_GlassError = true)
    (ty_GlassError : PySem.W.typeIn K (.ref c_GlassError) = some (.type "type"))
    (d_c_NoFit : PySem.W.hasDictIn K c_NoFit = true)
    (ty_NoFit : PySem.W.typeIn K (.ref c_NoFit) = some (.type "type"))
    (bx_GlassError : PySem.W.subIn K (.ref c_GlassError) (.type "BaseException") = some true)
    (h_NoFit_GlassError : PySem.W.subIn K (.ref c_NoFit) (.ref c_GlassError) = some true)
    (h_NoShare_GlassError : PySem.W.subIn K (.ref c_NoShare) (.ref c_GlassError) = some true)
    (k_NoShare_NoFit : PySem.W.subIn K (.ref c_NoShare) (.ref c_NoFit) = some false)
    (ne_NoShare_NoFit : (c_NoShare == c_NoFit) = false)
    (kn_NoFit : PySem.W.subIn K (.type "NoneType") (.ref c_NoFit) = some false) :
    ∃ fd : FuncData, (∀ (s : Shared) (v : Value), BindsTo s fd ⟨[v], []⟩ [("_law_script", v)]) ∧ ∀ base : Heap, K.In base → base.Ns mainGlobals mg → FnOk l.prog w K mg base (L2.CX l.prog w) 5 fa fd ["_law_script"] (spM K mg 1 m_law_0d8e6) := by
  have e := hfa.symm.trans (PySem.W.mg_of X G e1_law)
  cases e
  have F_is_whole := fun_mk (st := st_is_whole) e2_is_whole e3_is_whole e4_is_whole
  have b_is_whole := F_is_whole.binds (ps := ["thing"]) fun _ _ _ _ _ _ us hl => match us, hl with | [_], _ => rfl
  have F_common := fun_mk (st := st_common) e2_common e3_common e4_common
  have b_common := F_common.binds (ps := ["one", "other"]) fun _ _ _ _ _ _ us hl => match us, hl with | [_, _], _ => rfl
  have F_share := fun_mk (st := st_share) e2_share e3_share e4_share
  have b_share := F_share.binds (ps := ["top", "bottom"]) fun _ _ _ _ _ _ us hl => match us, hl with | [_, _], _ => rfl
  have F_stands := fun_mk (st := st_stands) e2_stands e3_stands e4_stands
  have b_stands := F_stands.binds (ps := ["glass"]) fun _ _ _ _ _ _ us hl => match us, hl with | [_], _ => rfl
  have F_two_stands := fun_mk (st := st_two_stands) e2_two_stands e3_two_stands e4_two_stands
  have b_two_stands := F_two_stands.binds (ps := ["glass"]) fun _ _ _ _ _ _ us hl => match us, hl with | [_], _ => rfl
  have F_is_steeper := fun_mk (st := st_is_steeper) e2_is_steeper e3_is_steeper e4_is_steeper
  have b_is_steeper := F_is_steeper.binds (ps := ["one", "other"]) fun _ _ _ _ _ _ us hl => match us, hl with | [_, _], _ => rfl
  have F_steps_of := fun_mk (st := st_steps_of) e2_steps_of e3_steps_of e4_steps_of
  have b_steps_of := F_steps_of.binds (ps := ["glass"]) fun _ _ _ _ _ _ us hl => match us, hl with | [_], _ => rfl
  have F_curve := fun_mk (st := st_curve) e2_curve e3_curve e4_curve
  have b_curve := F_curve.binds (ps := ["glass"]) fun _ _ _ _ _ _ us hl => match us, hl with | [_], _ => rfl
  have F__law_drawn := fun_mk (st := st_Ldrawn) e2__law_drawn e3__law_drawn e4__law_drawn
  have b__law_drawn := F__law_drawn.binds (ps := ["_law_script", "_law_at", "_law_sizes"]) fun _ _ _ _ _ _ us hl => match us, hl with | [_, _, _], _ => rfl
  have F__law_common := fun_mk (st := st_Lcommon) e2__law_common e3__law_common e4__law_common
  have b__law_common := F__law_common.binds (ps := ["_law_one", "_law_other"]) fun _ _ _ _ _ _ us hl => match us, hl with | [_, _], _ => rfl
  have F__law_made := fun_mk (st := st_Lmade) e2__law_made e3__law_made e4__law_made
  have b__law_made := F__law_made.binds (ps := ["_law_bottom", "_law_rows_here"]) fun _ _ _ _ _ _ us hl => match us, hl with | [_, _], _ => rfl
  have F__law_cut := fun_mk (st := st_Lcut) e2__law_cut e3__law_cut e4__law_cut
  have b__law_cut := F__law_cut.binds (ps := ["_law_bottom", "_law_cuts"]) fun _ _ _ _ _ _ us hl => match us, hl with | [_, _], _ => rfl
  have F__law_rows := fun_mk (st := st_Lrows) e2__law_rows e3__law_rows e4__law_rows
  have b__law_rows := F__law_rows.binds (ps := ["_law_script", "_law_at", "_law_heights", "_law_most"]) fun _ _ _ _ _ _ us hl => match us, hl with | [_, _, _, _], _ => rfl
  have F__law_glass := fun_mk (st := st_Lglass) e2__law_glass e3__law_glass e4__law_glass
  have b__law_glass := F__law_glass.binds (ps := ["_law_script", "_law_at", "_law_heights", "_law_most"]) fun _ _ _ _ _ _ us hl => match us, hl with | [_, _, _, _], _ => rfl
  have F__law_whole := fun_mk (st := st_Lwhole) e2__law_whole e3__law_whole e4__law_whole
  have b__law_whole := F__law_whole.binds (ps := ["_law_found"]) fun _ _ _ _ _ _ us hl => match us, hl with | [_], _ => rfl
  have F__law_is_share := fun_mk (st := st_Lis_share) e2__law_is_share e3__law_is_share e4__law_is_share
  have b__law_is_share := F__law_is_share.binds (ps := ["_law_found"]) fun _ _ _ _ _ _ us hl => match us, hl with | [_], _ => rfl
  have F__law_stands_for := fun_mk (st := st_Lstands_for) e2__law_stands_for e3__law_stands_for e4__law_stands_for
  have b__law_stands_for := F__law_stands_for.binds (ps := ["_law_found", "_law_top", "_law_bottom"]) fun _ _ _ _ _ _ us hl => match us, hl with | [_, _, _], _ => rfl
  have F__law_steeper := fun_mk (st := st_Lsteeper) e2__law_steeper e3__law_steeper e4__law_steeper
  have b__law_steeper := F__law_steeper.binds (ps := ["_law_one", "_law_other"]) fun _ _ _ _ _ _ us hl => match us, hl with | [_, _], _ => rfl
  have F__law_steps := fun_mk (st := st_Lsteps) e2__law_steps e3__law_steps e4__law_steps
  have b__law_steps := F__law_steps.binds (ps := ["_law_glass_here"]) fun _ _ _ _ _ _ us hl => match us, hl with | [_], _ => rfl
  have F__law_corners := fun_mk (st := st_Lcorners) e2__law_corners e3__law_corners e4__law_corners
  have b__law_corners := F__law_corners.binds (ps := ["_law_glass_here"]) fun _ _ _ _ _ _ us hl => match us, hl with | [_], _ => rfl
  have F__law_near := fun_mk (st := st_Lnear) e2__law_near e3__law_near e4__law_near
  have b__law_near := F__law_near.binds (ps := ["_law_script", "_law_at"]) fun _ _ _ _ _ _ us hl => match us, hl with | [_, _], _ => rfl
  have F__law_right := fun_mk (st := st_Lright) e2__law_right e3__law_right e4__law_right
  have b__law_right := F__law_right.binds (ps := ["_law_glass_here"]) fun _ _ _ _ _ _ us hl => match us, hl with | [_], _ => rfl
  have F__law_is_no_fit := fun_mk (st := st_Lis_no_fit) e2__law_is_no_fit e3__law_is_no_fit e4__law_is_no_fit
  have b__law_is_no_fit := F__law_is_no_fit.binds (ps := ["_law_glass_here"]) fun _ _ _ _ _ _ us hl => match us, hl with | [_], _ => rfl
  have F__law_parted := fun_mk (st := st_Lparted) e2__law_parted e3__law_parted e4__law_parted
  have b__law_parted := F__law_parted.binds (ps := ["_law_glass_here", "_law_xs"]) fun _ _ _ _ _ _ us hl => match us, hl with | [_, _], _ => rfl
  have F_law := fun_mk (st := st_law) e2_law e3_law e4_law
  have b_law := F_law.binds (ps := ["_law_script"]) fun _ _ _ _ _ _ us hl => match us, hl with | [_], _ => rfl
  have T : Txt K mg a_is_whole a_common a_share a_stands a_two_stands a_is_steeper a_steps_of a_curve a__law_drawn a__law_common a__law_made a__law_cut a__law_rows a__law_glass a__law_whole a__law_is_share a__law_stands_for a__law_steeper a__law_steps a__law_corners a__law_near a__law_right a__law_is_no_fit a__law_parted a_law c_NoFit c_NoShare c_GlassError _ _ _ _ _ _ _ _ _ _ _ _ _ _ _ _ _ _ _ _ _ _ _ _ _ := ⟨PySem.W.mg_of X G e1_is_whole, F_is_whole, b_is_whole, PySem.W.mg_of X G e1_common, F_common, b_common, PySem.W.mg_of X G e1_share, F_share, b_share, PySem.W.mg_of X G e1_stands, F_stands, b_stands, PySem.W.mg_of X G e1_two_stands, F_two_stands, b_two_stands, PySem.W.mg_of X G e1_is_steeper, F_is_steeper, b_is_steeper, PySem.W.mg_of X G e1_steps_of, F_steps_of, b_steps_of, PySem.W.mg_of X G e1_curve, F_curve, b_curve, PySem.W.mg_of X G e1__law_drawn, F__law_drawn, b__law_drawn, PySem.W.mg_of X G e1__law_common, F__law_common, b__law_common, PySem.W.mg_of X G e1__law_made, F__law_made, b__law_made, PySem.W.mg_of X G e1__law_cut, F__law_cut, b__law_cut, PySem.W.mg_of X G e1__law_rows, F__law_rows, b__law_rows, PySem.W.mg_of X G e1__law_glass, F__law_glass, b__law_glass, PySem.W.mg_of X G e1__law_whole, F__law_whole, b__law_whole, PySem.W.mg_of X G e1__law_is_share, F__law_is_share, b__law_is_share, PySem.W.mg_of X G e1__law_stands_for, F__law_stands_for, b__law_stands_for, PySem.W.mg_of X G e1__law_steeper, F__law_steeper, b__law_steeper, PySem.W.mg_of X G e1__law_steps, F__law_steps, b__law_steps, PySem.W.mg_of X G e1__law_corners, F__law_corners, b__law_corners, PySem.W.mg_of X G e1__law_near, F__law_near, b__law_near, PySem.W.mg_of X G e1__law_right, F__law_right, b__law_right, PySem.W.mg_of X G e1__law_is_no_fit, F__law_is_no_fit, b__law_is_no_fit, PySem.W.mg_of X G e1__law_parted, F__law_parted, b__law_parted, PySem.W.mg_of X G e1_law, F_law, b_law, PySem.W.mg_none_of X G n_abs, PySem.W.mg_none_of X G n_bool, PySem.W.mg_none_of X G n_enumerate, PySem.W.mg_none_of X G n_int, PySem.W.mg_none_of X G n_isinstance, PySem.W.mg_none_of X G n_len, PySem.W.mg_none_of X G n_list, PySem.W.mg_none_of X G n_max, PySem.W.mg_none_of X G n_min, PySem.W.mg_none_of X G n_range, PySem.W.mg_none_of X G n_sorted, PySem.W.mg_none_of X G n_sum, PySem.W.mg_none_of X G n_tuple, PySem.W.mg_none_of X G n_zip, PySem.W.mg_of X G g_NoFit, x_NoFit, k_NoFit, s_NoFit, t_NoFit, PySem.W.mg_of X G g_NoShare, x_NoShare, k_NoShare, s_NoShare, t_NoShare, PySem.W.mg_of X G g_GlassError, g_NoFit, ⟨Xhg_NoFit, Xhk_NoFit, Xhs_NoFit, Xhd_NoFit, Xha_NoFit, Xhn_NoFit, Xht_NoFit, Xhm_NoFit⟩, g_NoShare, ⟨Xhg_NoShare, Xhk_NoShare, Xhs_NoShare, Xhd_NoShare, Xha_NoShare, Xhn_NoShare, Xht_NoShare, Xhm_NoShare⟩, PySem.W.exm_ref bx_GlassError d_c_GlassError ty_GlassError h_NoFit_GlassError, PySem.W.exm_ref bx_GlassError d_c_GlassError ty_GlassError h_NoShare_GlassError, kit_same, kit_own ne_NoShare_NoFit d_c_NoFit ty_NoFit k_NoShare_NoFit, kit_non d_c_NoFit ty_NoFit kn_NoFit⟩
  exact ⟨PySem.W.fnOf "law" "law" (defArgs st_law) (defBody st_law) (defScope st_law) .none kV_law dc_law pm_law an_law cd_law ct_law, fun s v => .of_eq rfl, fun base _ _ => ok_law T⟩
end
end Dg

set_option Elab.async false
set_option linter.all false
set_option maxRecDepth 100000
open PySem PySem.W PyProof.Rows
set_option maxHeartbeats 0 in
theorem PySem.Challenge.cw_dullglass_k43_curves_holds : PySem.Challenge.rw_dullglass_k43_curves.Holds := by
  w_on; o_law; k_head; (case hw => w_witness2)
  k_fill
  refine Dg.walk_law (l := PySem.Challenge.rw_dullglass_k43_curves) (k := 5) (x := "_law_script") (m := Dg.m_law_0d8e6) rfl rfl ⟨rfl, by decide, by decide⟩ (fun w h Y => PySem.W.kIn_of Y) Dg.law_right ?F
  case F =>
    intro w mg fa h KX G hmg
    refine' Dg.all_mk KX G hmg ?e1_is_whole ?e2_is_whole ?e3_is_whole ?e4_is_whole ?e1_common ?e2_common ?e3_common ?e4_common ?e1_share ?e2_share ?e3_share ?e4_share ?e1_stands ?e2_stands ?e3_stands ?e4_stands ?e1_two_stands ?e2_two_stands ?e3_two_stands ?e4_two_stands ?e1_is_steeper ?e2_is_steeper ?e3_is_steeper ?e4_is_steeper ?e1_steps_of ?e2_steps_of ?e3_steps_of ?e4_steps_of ?e1_curve ?e2_curve ?e3_curve ?e4_curve ?e1__law_drawn ?e2__law_drawn ?e3__law_drawn ?e4__law_drawn ?e1__law_common ?e2__law_common ?e3__law_common ?e4__law_common ?e1__law_made ?e2__law_made ?e3__law_made ?e4__law_made ?e1__law_cut ?e2__law_cut ?e3__law_cut ?e4__law_cut ?e1__law_rows ?e2__law_rows ?e3__law_rows ?e4__law_rows ?e1__law_glass ?e2__law_glass ?e3__law_glass ?e4__law_glass ?e1__law_whole ?e2__law_whole ?e3__law_whole ?e4__law_whole ?e1__law_is_share ?e2__law_is_share ?e3__law_is_share ?e4__law_is_share ?e1__law_stands_for ?e2__law_stands_for ?e3__law_stands_for ?e4__law_stands_for ?e1__law_steeper ?e2__law_steeper ?e3__law_steeper ?e4__law_steeper ?e1__law_steps ?e2__law_steps ?e3__law_steps ?e4__law_steps ?e1__law_corners ?e2__law_corners ?e3__law_corners ?e4__law_corners ?e1__law_near ?e2__law_near ?e3__law_near ?e4__law_near ?e1__law_right ?e2__law_right ?e3__law_right ?e4__law_right ?e1__law_is_no_fit ?e2__law_is_no_fit ?e3__law_is_no_fit ?e4__law_is_no_fit ?e1__law_parted ?e2__law_parted ?e3__law_parted ?e4__law_parted ?e1_law ?e2_law ?e3_law ?e4_law ?n_abs ?n_bool ?n_enumerate ?n_int ?n_isinstance ?n_len ?n_list ?n_max ?n_min ?n_range ?n_sorted ?n_sum ?n_tuple ?n_zip ?g_NoFit ?x_NoFit ?k_NoFit ?s_NoFit ?t_NoFit ?g_NoShare ?x_NoShare ?k_NoShare ?s_NoShare ?t_NoShare ?g_GlassError ?Xhg_NoFit ?Xhk_NoFit ?Xhs_NoFit ?Xhd_NoFit ?Xha_NoFit ?Xhn_NoFit ?Xht_NoFit ?Xhm_NoFit ?Xhg_NoShare ?Xhk_NoShare ?Xhs_NoShare ?Xhd_NoShare ?Xha_NoShare ?Xhn_NoShare ?Xht_NoShare ?Xhm_NoShare ?d_c_GlassError ?ty_GlassError ?d_c_NoFit ?ty_NoFit ?bx_GlassError ?h_NoFit_GlassError ?h_NoShare_GlassError ?k_NoShare_NoFit ?ne_NoShare_NoFit ?kn_NoFit
    (case e1_is_whole => k_is)
    (case e2_is_whole => k_is)
    (case e3_is_whole => k_is)
    (case e4_is_whole => k_is)
    (case e1_common => k_is)
    (case e2_common => k_is)
    (case e3_common => k_is)
    (case e4_common => k_is)
    (case e1_share => k_is)
    (case e2_share => k_is)
    (case e3_share => k_is)
    (case e4_share => k_is)
    (case e1_stands => k_is)
    (case e2_stands => k_is)
    (case e3_stands => k_is)
    (case e4_stands => k_is)
    (case e1_two_stands => k_is)
    (case e2_two_stands => k_is)
    (case e3_two_stands => k_is)
    (case e4_two_stands => k_is)
    (case e1_is_steeper => k_is)
    (case e2_is_steeper => k_is)
    (case e3_is_steeper => k_is)
    (case e4_is_steeper => k_is)
    (case e1_steps_of => k_is)
    (case e2_steps_of => k_is)
    (case e3_steps_of => k_is)
    (case e4_steps_of => k_is)
    (case e1_curve => k_is)
    (case e2_curve => k_is)
    (case e3_curve => k_is)
    (case e4_curve => k_is)
    (case e1__law_drawn => k_is)
    (case e2__law_drawn => k_is)
    (case e3__law_drawn => k_is)
    (case e4__law_drawn => k_is)
    (case e1__law_common => k_is)
    (case e2__law_common => k_is)
    (case e3__law_common => k_is)
    (case e4__law_common => k_is)
    (case e1__law_made => k_is)
    (case e2__law_made => k_is)
    (case e3__law_made => k_is)
    (case e4__law_made => k_is)
    (case e1__law_cut => k_is)
    (case e2__law_cut => k_is)
    (case e3__law_cut => k_is)
    (case e4__law_cut => k_is)
    (case e1__law_rows => k_is)
    (case e2__law_rows => k_is)
    (case e3__law_rows => k_is)
    (case e4__law_rows => k_is)
    (case e1__law_glass => k_is)
    (case e2__law_glass => k_is)
    (case e3__law_glass => k_is)
    (case e4__law_glass => k_is)
    (case e1__law_whole => k_is)
    (case e2__law_whole => k_is)
    (case e3__law_whole => k_is)
    (case e4__law_whole => k_is)
    (case e1__law_is_share => k_is)
    (case e2__law_is_share => k_is)
    (case e3__law_is_share => k_is)
    (case e4__law_is_share => k_is)
    (case e1__law_stands_for => k_is)
    (case e2__law_stands_for => k_is)
    (case e3__law_stands_for => k_is)
    (case e4__law_stands_for => k_is)
    (case e1__law_steeper => k_is)
    (case e2__law_steeper => k_is)
    (case e3__law_steeper => k_is)
    (case e4__law_steeper => k_is)
    (case e1__law_steps => k_is)
    (case e2__law_steps => k_is)
    (case e3__law_steps => k_is)
    (case e4__law_steps => k_is)
    (case e1__law_corners => k_is)
    (case e2__law_corners => k_is)
    (case e3__law_corners => k_is)
    (case e4__law_corners => k_is)
    (case e1__law_near => k_is)
    (case e2__law_near => k_is)
    (case e3__law_near => k_is)
    (case e4__law_near => k_is)
    (case e1__law_right => k_is)
    (case e2__law_right => k_is)
    (case e3__law_right => k_is)
    (case e4__law_right => k_is)
    (case e1__law_is_no_fit => k_is)
    (case e2__law_is_no_fit => k_is)
    (case e3__law_is_no_fit => k_is)
    (case e4__law_is_no_fit => k_is)
    (case e1__law_parted => k_is)
    (case e2__law_parted => k_is)
    (case e3__law_parted => k_is)
    (case e4__law_parted => k_is)
    (case e1_law => k_is)
    (case e2_law => k_is)
    (case e3_law => k_is)
    (case e4_law => k_is)
    (case n_abs => k_is)
    (case n_bool => k_is)
    (case n_enumerate => k_is)
    (case n_int => k_is)
    (case n_isinstance => k_is)
    (case n_len => k_is)
    (case n_list => k_is)
    (case n_max => k_is)
    (case n_min => k_is)
    (case n_range => k_is)
    (case n_sorted => k_is)
    (case n_sum => k_is)
    (case n_tuple => k_is)
    (case n_zip => k_is)
    (case g_NoFit => k_is)
    (case x_NoFit => k_exc)
    (case k_NoFit => k_is)
    (case s_NoFit => k_is)
    (case t_NoFit => k_is)
    (case g_NoShare => k_is)
    (case x_NoShare => k_exc)
    (case k_NoShare => k_is)
    (case s_NoShare => k_is)
    (case t_NoShare => k_is)
    (case g_GlassError => k_is)
    (case Xhg_NoFit => k_is)
    (case Xhk_NoFit => k_is)
    (case Xhs_NoFit => k_is)
    (case Xhd_NoFit => k_is)
    (case Xha_NoFit => k_is)
    (case Xhn_NoFit => k_is)
    (case Xht_NoFit => k_is)
    (case Xhm_NoFit => k_is)
    (case Xhg_NoShare => k_is)
    (case Xhk_NoShare => k_is)
    (case Xhs_NoShare => k_is)
    (case Xhd_NoShare => k_is)
    (case Xha_NoShare => k_is)
    (case Xhn_NoShare => k_is)
    (case Xht_NoShare => k_is)
    (case Xhm_NoShare => k_is)
    (case d_c_GlassError => k_is)
    (case ty_GlassError => k_is)
    (case d_c_NoFit => k_is)
    (case ty_NoFit => k_is)
    (case bx_GlassError => k_is)
    (case h_NoFit_GlassError => k_is)
    (case h_NoShare_GlassError => k_is)
    (case k_NoShare_NoFit => k_is)
    (case ne_NoShare_NoFit => decide +kernel)
    (case kn_NoFit => k_is)

