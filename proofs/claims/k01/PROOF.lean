import PyProof.Rows.All
import Wide.All
import OpenK.AllK
import Wide.FinOn
import HandS.ForMost
import HandS.ForExc
import HandS.EndTab
import HandS.EndBits
import HandS.Style
import HandS.Wide
import HandS.SuiteRaise
import HandS.RaiseFrom
import HandS.TryMany
import HandS.AnyAll
import HandS.TupAny
import HandS.TupMul
import HandS.SortRule
import HandS.ListEq
import HandS.FStr
import HandS.Nested
import HandS.Codes
import HandS.Text
import HandS.GenList
import HandS.Conv
import HandS.Lambda
import HandS.Iter
import HandS.HeadHook4
import HandS.HeadWalk
import HandS.Head0
import HandS.Head1
import HandS.Head2
import HandS.HeadEnd
import HandS.Defaults
import PySem.Challenge.RW_linkstack_k01_words_as_bytes
set_option Elab.async false
set_option linter.all false
set_option maxRecDepth 100000
/-! PvA: data, what a value stands for, growth of heaps. -/
namespace Pv
open PySem PySem.Spec PyProof.Rows L2

/-- who owns a node: nobody (frozen), the holder (what is in it is frozen), the holder, and what is in it too; ex: it stands outside (the script, the written part) -/
inductive Ow where
  | fz | own | deep | ex
  deriving Inhabited, DecidableEq
inductive D where
  | non | bl (b : Bool) | int (i : Int) | str (x : List Nat)
  | tup (ds : List D)
  | lst (o : Ow) (ds : List D)
  | dic (o : Ow) (ks : List Key) (ds : List D)
  | dit (o : Ow) (ks : List (List Key)) (ds : List D)
  | obj (o : Ow) (c : Nat) (fs : List Str) (ds : List D)
  deriving Inhabited

/-- neither a table nor a thing of another kind -/
def Plain (o : HO) : Prop := (∀ ps, o ≠ .tbl ps) ∧ ∀ φ, o ≠ .ext φ
/-- where classes stand, the tables of lambdas and of generator expressions -/
structure Cb where
  K : PySem.W.Frag
  cls : Nat → Addr
  exc : Nat → Addr
  TL : List (Addr × Str)
  TG : List Addr

def strV (x : List Nat) : Str := ⟨x.toArray⟩

mutual
def Rep (C : Cb) (G H : Hp) (v : V) (d : D) (f : List Addr) : Prop :=
  match d with
  | .non => v = .non ∧ f = []
  | .bl b => v = .bl b ∧ f = []
  | .int i => v = .int i ∧ f = []
  | .str x => v = .str (strV x) ∧ f = []
  | .tup ds => ∃ a vs, v = .ref a ∧ SqT C.K G a vs ∧ Reps C G H vs ds f
  | .lst .deep ds => ∃ a vs g, v = .ref a ∧ H a = some (.lst vs) ∧ Reps C G H vs ds g ∧ f = a :: g
  | .lst .own ds => ∃ a vs, v = .ref a ∧ H a = some (.lst vs) ∧ Reps C G H vs ds [] ∧ f = [a]
  | .lst .fz ds => ∃ a vs, v = .ref a ∧ G a = some (.lst vs) ∧ Reps C G H vs ds [] ∧ f = []
  | .lst .ex ds => ∃ a vs, v = .ref a ∧ SqL C.K G a vs ∧ Reps C G H vs ds [] ∧ f = []
  | .dic .deep ks ds => ∃ a kvs g, v = .ref a ∧ H a = some (.dK kvs) ∧ kvs.map (·.1) = ks ∧ Reps C G H (kvs.map (·.2)) ds g ∧ f = a :: g
  | .dic .own ks ds => ∃ a kvs, v = .ref a ∧ H a = some (.dK kvs) ∧ kvs.map (·.1) = ks ∧ Reps C G H (kvs.map (·.2)) ds [] ∧ f = [a]
  | .dic .fz ks ds => ∃ a kvs, v = .ref a ∧ G a = some (.dK kvs) ∧ kvs.map (·.1) = ks ∧ Reps C G H (kvs.map (·.2)) ds [] ∧ f = []
  | .dic .ex ks ds => False
  | .dit .deep ks ds => ∃ a kvs g, v = .ref a ∧ H a = some (.dT kvs) ∧ kvs.map (·.1) = ks ∧ Reps C G H (kvs.map (·.2)) ds g ∧ f = a :: g
  | .dit .own ks ds => ∃ a kvs, v = .ref a ∧ H a = some (.dT kvs) ∧ kvs.map (·.1) = ks ∧ Reps C G H (kvs.map (·.2)) ds [] ∧ f = [a]
  | .dit .fz ks ds => ∃ a kvs, v = .ref a ∧ G a = some (.dT kvs) ∧ kvs.map (·.1) = ks ∧ Reps C G H (kvs.map (·.2)) ds [] ∧ f = []
  | .dit .ex ks ds => False
  | .obj .deep c fs ds => ∃ a dx ys g, v = .ref a ∧ H a = some (.ins (C.cls c) dx ys) ∧ ys.map (·.1) = fs ∧ Reps C G H (ys.map (·.2)) ds g ∧ f = a :: g
  | .obj .own c fs ds => ∃ a dx ys, v = .ref a ∧ H a = some (.ins (C.cls c) dx ys) ∧ ys.map (·.1) = fs ∧ Reps C G H (ys.map (·.2)) ds [] ∧ f = [a]
  | .obj .fz c fs ds => ∃ a dx ys, v = .ref a ∧ G a = some (.ins (C.cls c) dx ys) ∧ ys.map (·.1) = fs ∧ Reps C G H (ys.map (·.2)) ds [] ∧ f = []
  | .obj .ex c fs ds => False
def Reps (C : Cb) (G H : Hp) (vs : List V) (ds : List D) (f : List Addr) : Prop :=
  match ds, vs with
  | [], [] => f = []
  | d :: ds, v :: vs => ∃ f1 f2, Rep C G H v d f1 ∧ Reps C G H vs ds f2 ∧ f = f1 ++ f2
  | _, _ => False
end

theorem sqT_mono {K : PySem.W.Frag} {G G' : Hp} (h : ∀ a o, G a = some o → G' a = some o) {a : Addr} {xs : List V} : SqT K G a xs → SqT K G' a xs
  | .inl (.inl q) => .inl (.inl (h _ _ q))
  | .inl (.inr ⟨o, q⟩) => .inl (.inr ⟨o, h _ _ q⟩)
  | .inr q => .inr q
theorem sqL_mono {K : PySem.W.Frag} {G G' : Hp} (h : ∀ a o, G a = some o → G' a = some o) {a : Addr} {xs : List V} : SqL K G a xs → SqL K G' a xs
  | .inl (.inl q) => .inl (.inl (h _ _ q))
  | .inl (.inr ⟨o, q⟩) => .inl (.inr ⟨o, h _ _ q⟩)
  | .inr q => .inr q

section
variable {C : Cb} {G H G' H' : Hp}
mutual
theorem Rep.mono (hG : ∀ a o, G a = some o → G' a = some o) : ∀ {d : D} {v : V} {f : List Addr}, (∀ a o, a ∈ f → H a = some o → (∀ ps, o ≠ .tbl ps) → H' a = some o) → Rep C G H v d f → Rep C G' H' v d f
  | .non, _, _, _, r => r
  | .bl _, _, _, _, r => r
  | .int _, _, _, _, r => r
  | .str _, _, _, _, r => r
  | .tup ds, _, _, hH, r => by
    simp only [Rep] at r ⊢
    obtain ⟨a, vs, e, q, rs⟩ := r
    exact ⟨a, vs, e, sqT_mono hG q, Reps.mono hG hH rs⟩
  | .lst .deep ds, _, _, hH, r => by
    simp only [Rep] at r ⊢
    obtain ⟨a, vs, g, e, q, rs, rfl⟩ := r
    exact ⟨a, vs, g, e, hH _ _ List.mem_cons_self q (fun _ z => by cases z), Reps.mono hG (fun a o m => hH a o (List.mem_cons_of_mem _ m)) rs, rfl⟩
  | .lst .own ds, _, _, hH, r => by
    simp only [Rep] at r ⊢
    obtain ⟨a, vs, e, q, rs, rfl⟩ := r
    exact ⟨a, vs, e, hH _ _ List.mem_cons_self q (fun _ z => by cases z), Reps.mono hG (fun a o m => by cases m) rs, rfl⟩
  | .lst .fz ds, _, _, hH, r => by
    simp only [Rep] at r ⊢
    obtain ⟨a, vs, e, q, rs, rfl⟩ := r
    exact ⟨a, vs, e, hG _ _ q, Reps.mono hG hH rs, rfl⟩
  | .lst .ex ds, _, _, hH, r => by
    simp only [Rep] at r ⊢
    obtain ⟨a, vs, e, q, rs, rfl⟩ := r
    exact ⟨a, vs, e, sqL_mono hG q, Reps.mono hG hH rs, rfl⟩
  | .dic .deep ks ds, _, _, hH, r => by
    simp only [Rep] at r ⊢
    obtain ⟨a, vs, g, e, q, ek, rs, rfl⟩ := r
    exact ⟨a, vs, g, e, hH _ _ List.mem_cons_self q (fun _ z => by cases z), ek, Reps.mono hG (fun a o m => hH a o (List.mem_cons_of_mem _ m)) rs, rfl⟩
  | .dic .own ks ds, _, _, hH, r => by
    simp only [Rep] at r ⊢
    obtain ⟨a, vs, e, q, ek, rs, rfl⟩ := r
    exact ⟨a, vs, e, hH _ _ List.mem_cons_self q (fun _ z => by cases z), ek, Reps.mono hG (fun a o m => by cases m) rs, rfl⟩
  | .dic .fz ks ds, _, _, hH, r => by
    simp only [Rep] at r ⊢
    obtain ⟨a, vs, e, q, ek, rs, rfl⟩ := r
    exact ⟨a, vs, e, hG _ _ q, ek, Reps.mono hG hH rs, rfl⟩
  | .dic .ex ks ds, _, _, _, r => by simp only [Rep] at r
  | .dit .deep ks ds, _, _, hH, r => by
    simp only [Rep] at r ⊢
    obtain ⟨a, vs, g, e, q, ek, rs, rfl⟩ := r
    exact ⟨a, vs, g, e, hH _ _ List.mem_cons_self q (fun _ z => by cases z), ek, Reps.mono hG (fun a o m => hH a o (List.mem_cons_of_mem _ m)) rs, rfl⟩
  | .dit .own ks ds, _, _, hH, r => by
    simp only [Rep] at r ⊢
    obtain ⟨a, vs, e, q, ek, rs, rfl⟩ := r
    exact ⟨a, vs, e, hH _ _ List.mem_cons_self q (fun _ z => by cases z), ek, Reps.mono hG (fun a o m => by cases m) rs, rfl⟩
  | .dit .fz ks ds, _, _, hH, r => by
    simp only [Rep] at r ⊢
    obtain ⟨a, vs, e, q, ek, rs, rfl⟩ := r
    exact ⟨a, vs, e, hG _ _ q, ek, Reps.mono hG hH rs, rfl⟩
  | .dit .ex ks ds, _, _, _, r => by simp only [Rep] at r
  | .obj .deep c fs ds, _, _, hH, r => by
    simp only [Rep] at r ⊢
    obtain ⟨a, dx, ys, g, e, q, ek, rs, rfl⟩ := r
    exact ⟨a, dx, ys, g, e, hH _ _ List.mem_cons_self q (fun _ z => by cases z), ek, Reps.mono hG (fun a o m => hH a o (List.mem_cons_of_mem _ m)) rs, rfl⟩
  | .obj .own c fs ds, _, _, hH, r => by
    simp only [Rep] at r ⊢
    obtain ⟨a, dx, ys, e, q, ek, rs, rfl⟩ := r
    exact ⟨a, dx, ys, e, hH _ _ List.mem_cons_self q (fun _ z => by cases z), ek, Reps.mono hG (fun a o m => by cases m) rs, rfl⟩
  | .obj .fz c fs ds, _, _, hH, r => by
    simp only [Rep] at r ⊢
    obtain ⟨a, dx, ys, e, q, ek, rs, rfl⟩ := r
    exact ⟨a, dx, ys, e, hG _ _ q, ek, Reps.mono hG hH rs, rfl⟩
  | .obj .ex c fs ds, _, _, _, r => by simp only [Rep] at r
theorem Reps.mono (hG : ∀ a o, G a = some o → G' a = some o) : ∀ {ds : List D} {vs : List V} {f : List Addr}, (∀ a o, a ∈ f → H a = some o → (∀ ps, o ≠ .tbl ps) → H' a = some o) → Reps C G H vs ds f → Reps C G' H' vs ds f
  | [], [], _, _, r => r
  | [], _ :: _, _, _, r => by simp only [Reps] at r
  | _ :: _, [], _, _, r => by simp only [Reps] at r
  | d :: ds, v :: vs, f, hH, r => by
    simp only [Reps] at r ⊢
    obtain ⟨f1, f2, r1, r2, rfl⟩ := r
    exact ⟨f1, f2, Rep.mono hG (fun a o m => hH a o (List.mem_append_left _ m)) r1, Reps.mono hG (fun a o m => hH a o (List.mem_append_right _ m)) r2, rfl⟩
end
/-! what is owned stands -/
mutual
theorem Rep.there : ∀ {d : D} {v : V} {f : List Addr}, Rep C G H v d f → ∀ a ∈ f, ∃ o, H a = some o ∧ Plain o
  | .non, _, _, r => by simp only [Rep] at r; rw [r.2]; intro a h; cases h
  | .bl _, _, _, r => by simp only [Rep] at r; rw [r.2]; intro a h; cases h
  | .int _, _, _, r => by simp only [Rep] at r; rw [r.2]; intro a h; cases h
  | .str _, _, _, r => by simp only [Rep] at r; rw [r.2]; intro a h; cases h
  | .tup ds, _, _, r => by
    simp only [Rep] at r
    obtain ⟨a, vs, e, q, rs⟩ := r
    exact Reps.there rs
  | .lst .deep ds, _, _, r => by
    simp only [Rep] at r
    obtain ⟨a, vs, g, e, q, rs, rfl⟩ := r
    intro b hb
    rcases List.mem_cons.mp hb with rfl | hb
    · exact ⟨_, q, fun _ z => (by cases z), fun _ z => (by cases z)⟩
    · exact Reps.there rs b hb
  | .lst .own ds, _, _, r => by
    simp only [Rep] at r
    obtain ⟨a, vs, e, q, rs, rfl⟩ := r
    intro b hb
    rcases List.mem_cons.mp hb with rfl | hb
    · exact ⟨_, q, fun _ z => (by cases z), fun _ z => (by cases z)⟩
    · exact Reps.there rs b hb
  | .lst .fz ds, _, _, r => by
    simp only [Rep] at r
    obtain ⟨a, vs, e, q, rs, rfl⟩ := r
    intro a h; cases h
  | .lst .ex ds, _, _, r => by
    simp only [Rep] at r
    obtain ⟨a, vs, e, q, rs, rfl⟩ := r
    intro a h; cases h
  | .dic .deep ks ds, _, _, r => by
    simp only [Rep] at r
    obtain ⟨a, vs, g, e, q, ek, rs, rfl⟩ := r
    intro b hb
    rcases List.mem_cons.mp hb with rfl | hb
    · exact ⟨_, q, fun _ z => (by cases z), fun _ z => (by cases z)⟩
    · exact Reps.there rs b hb
  | .dic .own ks ds, _, _, r => by
    simp only [Rep] at r
    obtain ⟨a, vs, e, q, ek, rs, rfl⟩ := r
    intro b hb
    rcases List.mem_cons.mp hb with rfl | hb
    · exact ⟨_, q, fun _ z => (by cases z), fun _ z => (by cases z)⟩
    · exact Reps.there rs b hb
  | .dic .fz ks ds, _, _, r => by
    simp only [Rep] at r
    obtain ⟨a, vs, e, q, ek, rs, rfl⟩ := r
    intro a h; cases h
  | .dic .ex ks ds, _, _, r => by simp only [Rep] at r
  | .dit .deep ks ds, _, _, r => by
    simp only [Rep] at r
    obtain ⟨a, vs, g, e, q, ek, rs, rfl⟩ := r
    intro b hb
    rcases List.mem_cons.mp hb with rfl | hb
    · exact ⟨_, q, fun _ z => (by cases z), fun _ z => (by cases z)⟩
    · exact Reps.there rs b hb
  | .dit .own ks ds, _, _, r => by
    simp only [Rep] at r
    obtain ⟨a, vs, e, q, ek, rs, rfl⟩ := r
    intro b hb
    rcases List.mem_cons.mp hb with rfl | hb
    · exact ⟨_, q, fun _ z => (by cases z), fun _ z => (by cases z)⟩
    · exact Reps.there rs b hb
  | .dit .fz ks ds, _, _, r => by
    simp only [Rep] at r
    obtain ⟨a, vs, e, q, ek, rs, rfl⟩ := r
    intro a h; cases h
  | .dit .ex ks ds, _, _, r => by simp only [Rep] at r
  | .obj .deep c fs ds, _, _, r => by
    simp only [Rep] at r
    obtain ⟨a, dx, ys, g, e, q, ek, rs, rfl⟩ := r
    intro b hb
    rcases List.mem_cons.mp hb with rfl | hb
    · exact ⟨_, q, fun _ z => (by cases z), fun _ z => (by cases z)⟩
    · exact Reps.there rs b hb
  | .obj .own c fs ds, _, _, r => by
    simp only [Rep] at r
    obtain ⟨a, dx, ys, e, q, ek, rs, rfl⟩ := r
    intro b hb
    rcases List.mem_cons.mp hb with rfl | hb
    · exact ⟨_, q, fun _ z => (by cases z), fun _ z => (by cases z)⟩
    · exact Reps.there rs b hb
  | .obj .fz c fs ds, _, _, r => by
    simp only [Rep] at r
    obtain ⟨a, dx, ys, e, q, ek, rs, rfl⟩ := r
    intro a h; cases h
  | .obj .ex c fs ds, _, _, r => by simp only [Rep] at r
theorem Reps.there : ∀ {ds : List D} {vs : List V} {f : List Addr}, Reps C G H vs ds f → ∀ a ∈ f, ∃ o, H a = some o ∧ Plain o
  | [], [], _, r => by simp only [Reps] at r; rw [r]; intro a h; cases h
  | [], _ :: _, _, r => by simp only [Reps] at r
  | _ :: _, [], _, r => by simp only [Reps] at r
  | d :: ds, v :: vs, f, r => by
    simp only [Reps] at r
    obtain ⟨f1, f2, r1, r2, rfl⟩ := r
    intro b hb
    rcases List.mem_append.mp hb with hb | hb
    · exact Rep.there r1 b hb
    · exact Reps.there r2 b hb
end

/-! ### freezing -/
mutual
def fz : D → D
  | .non => .non
  | .bl b => .bl b
  | .int i => .int i
  | .str x => .str x
  | .tup ds => .tup (fzs ds)
  | .lst .ex ds => .lst .ex (fzs ds)
  | .lst _ ds => .lst .fz (fzs ds)
  | .dic _ ks ds => .dic .fz ks (fzs ds)
  | .dit _ ks ds => .dit .fz ks (fzs ds)
  | .obj _ c fs ds => .obj .fz c fs (fzs ds)
def fzs : List D → List D
  | [] => []
  | d :: ds => fz d :: fzs ds
end
mutual
theorem Rep.freeze (hG : ∀ a o, G a = some o → G' a = some o) : ∀ {d : D} {v : V} {f : List Addr}, (∀ a ∈ f, ∀ o, H a = some o → G' a = some o) → Rep C G H v d f → Rep C G' H v (fz d) []
  | .non, _, _, _, r => by simp only [Rep, fz] at r ⊢; exact ⟨r.1, trivial⟩
  | .bl _, _, _, _, r => by simp only [Rep, fz] at r ⊢; exact ⟨r.1, trivial⟩
  | .int _, _, _, _, r => by simp only [Rep, fz] at r ⊢; exact ⟨r.1, trivial⟩
  | .str _, _, _, _, r => by simp only [Rep, fz] at r ⊢; exact ⟨r.1, trivial⟩
  | .tup ds, _, _, hH, r => by
    simp only [Rep, fz] at r ⊢
    obtain ⟨a, vs, e, q, rs⟩ := r
    exact ⟨a, vs, e, sqT_mono hG q, Reps.freeze hG hH rs⟩
  | .lst .deep ds, _, _, hH, r => by
    simp only [Rep, fz] at r ⊢
    obtain ⟨a, vs, g, e, q, rs, rfl⟩ := r
    exact ⟨a, vs, e, hH a List.mem_cons_self _ q, Reps.freeze hG (fun a m => hH a (List.mem_cons_of_mem _ m)) rs, trivial⟩
  | .lst .own ds, _, _, hH, r => by
    simp only [Rep, fz] at r ⊢
    obtain ⟨a, vs, e, q, rs, rfl⟩ := r
    exact ⟨a, vs, e, hH a List.mem_cons_self _ q, Reps.freeze hG (fun a m => by cases m) rs, trivial⟩
  | .lst .fz ds, _, _, hH, r => by
    simp only [Rep, fz] at r ⊢
    obtain ⟨a, vs, e, q, rs, rfl⟩ := r
    exact ⟨a, vs, e, hG _ _ q, Reps.freeze hG hH rs, trivial⟩
  | .lst .ex ds, _, _, hH, r => by
    simp only [Rep, fz] at r ⊢
    obtain ⟨a, vs, e, q, rs, rfl⟩ := r
    exact ⟨a, vs, e, sqL_mono hG q, Reps.freeze hG hH rs, trivial⟩
  | .dic .deep ks ds, _, _, hH, r => by
    simp only [Rep, fz] at r ⊢
    obtain ⟨a, vs, g, e, q, ek, rs, rfl⟩ := r
    exact ⟨a, vs, e, hH a List.mem_cons_self _ q, ek, Reps.freeze hG (fun a m => hH a (List.mem_cons_of_mem _ m)) rs, trivial⟩
  | .dic .own ks ds, _, _, hH, r => by
    simp only [Rep, fz] at r ⊢
    obtain ⟨a, vs, e, q, ek, rs, rfl⟩ := r
    exact ⟨a, vs, e, hH a List.mem_cons_self _ q, ek, Reps.freeze hG (fun a m => by cases m) rs, trivial⟩
  | .dic .fz ks ds, _, _, hH, r => by
    simp only [Rep, fz] at r ⊢
    obtain ⟨a, vs, e, q, ek, rs, rfl⟩ := r
    exact ⟨a, vs, e, hG _ _ q, ek, Reps.freeze hG hH rs, trivial⟩
  | .dic .ex ks ds, _, _, _, r => by simp only [Rep] at r
  | .dit .deep ks ds, _, _, hH, r => by
    simp only [Rep, fz] at r ⊢
    obtain ⟨a, vs, g, e, q, ek, rs, rfl⟩ := r
    exact ⟨a, vs, e, hH a List.mem_cons_self _ q, ek, Reps.freeze hG (fun a m => hH a (List.mem_cons_of_mem _ m)) rs, trivial⟩
  | .dit .own ks ds, _, _, hH, r => by
    simp only [Rep, fz] at r ⊢
    obtain ⟨a, vs, e, q, ek, rs, rfl⟩ := r
    exact ⟨a, vs, e, hH a List.mem_cons_self _ q, ek, Reps.freeze hG (fun a m => by cases m) rs, trivial⟩
  | .dit .fz ks ds, _, _, hH, r => by
    simp only [Rep, fz] at r ⊢
    obtain ⟨a, vs, e, q, ek, rs, rfl⟩ := r
    exact ⟨a, vs, e, hG _ _ q, ek, Reps.freeze hG hH rs, trivial⟩
  | .dit .ex ks ds, _, _, _, r => by simp only [Rep] at r
  | .obj .deep c fs ds, _, _, hH, r => by
    simp only [Rep, fz] at r ⊢
    obtain ⟨a, dx, ys, g, e, q, ek, rs, rfl⟩ := r
    exact ⟨a, dx, ys, e, hH a List.mem_cons_self _ q, ek, Reps.freeze hG (fun a m => hH a (List.mem_cons_of_mem _ m)) rs, trivial⟩
  | .obj .own c fs ds, _, _, hH, r => by
    simp only [Rep, fz] at r ⊢
    obtain ⟨a, dx, ys, e, q, ek, rs, rfl⟩ := r
    exact ⟨a, dx, ys, e, hH a List.mem_cons_self _ q, ek, Reps.freeze hG (fun a m => by cases m) rs, trivial⟩
  | .obj .fz c fs ds, _, _, hH, r => by
    simp only [Rep, fz] at r ⊢
    obtain ⟨a, dx, ys, e, q, ek, rs, rfl⟩ := r
    exact ⟨a, dx, ys, e, hG _ _ q, ek, Reps.freeze hG hH rs, trivial⟩
  | .obj .ex c fs ds, _, _, _, r => by simp only [Rep] at r
theorem Reps.freeze (hG : ∀ a o, G a = some o → G' a = some o) : ∀ {ds : List D} {vs : List V} {f : List Addr}, (∀ a ∈ f, ∀ o, H a = some o → G' a = some o) → Reps C G H vs ds f → Reps C G' H vs (fzs ds) []
  | [], [], _, _, r => by simp only [Reps, fzs]
  | [], _ :: _, _, _, r => by simp only [Reps] at r
  | _ :: _, [], _, _, r => by simp only [Reps] at r
  | d :: ds, v :: vs, f, hH, r => by
    simp only [Reps, fzs] at r ⊢
    obtain ⟨f1, f2, r1, r2, rfl⟩ := r
    exact ⟨[], [], Rep.freeze hG (fun a m => hH a (List.mem_append_left _ m)) r1, Reps.freeze hG (fun a m => hH a (List.mem_append_right _ m)) r2, rfl⟩
end
end
end Pv

set_option Elab.async false
set_option linter.all false
set_option maxRecDepth 100000
/-! PvB: worlds, slots, the uniform reading. -/
namespace Pv
open PySem PySem.Spec L2

structure Wd (G H : Hp) (F : List Addr) : Prop where
  le : ∀ a o, G a = some o → H a = some o
  tb : ∀ a ps, G a ≠ some (.tbl ps)
  nd : F.Nodup
  out : ∀ a ∈ F, G a = none
  inn : ∀ a ∈ F, ∃ o, H a = some o ∧ Plain o

/-- the tables stand -/
def Tbs (C : Cb) (H : Hp) : Prop := LamX.Tabs C.TL H ∧ ∀ P ∈ C.TG, GxR.TabG H P

structure Fw (C : Cb) (G H : Hp) (F : List Addr) (G' H' : Hp) (F' : List Addr) : Prop where
  wd : Wd G' H' F'
  gs : ∀ a o, G a = some o → G' a = some o
  hs : ∀ a o, H a = some o → a ∉ F → (∀ ps, o ≠ .tbl ps) → H' a = some o
  dm : ∀ a, H' a = none → H a = none
  gn : ∀ a o, G' a = some o → G a = some o ∨ a ∈ F ∨ H a = none ∨ ¬ Plain o
  fn : ∀ a ∈ F', a ∈ F ∨ H a = none
  tt : Tbs C H → Tbs C H'

section
variable {C : Cb} {G H G' H' G1 H1 G2 H2 : Hp} {F F' F1 F2 A B : List Addr}
theorem Wd.sub (w : Wd G H F) (nd : F'.Nodup) (s : ∀ a ∈ F', a ∈ F) : Wd G H F' := ⟨w.le, w.tb, nd, fun a h => w.out a (s a h), fun a h => w.inn a (s a h)⟩
theorem Wd.left (w : Wd G H (A ++ B)) : Wd G H A := w.sub (List.nodup_append.mp w.nd).1 fun a h => List.mem_append_left _ h
theorem Wd.right (w : Wd G H (A ++ B)) : Wd G H B := w.sub (List.nodup_append.mp w.nd).2.1 fun a h => List.mem_append_right _ h
theorem Wd.dis (w : Wd G H (A ++ B)) : ∀ a ∈ A, a ∉ B := fun a ha hb => (List.nodup_append.mp w.nd).2.2 a ha a hb rfl
theorem Wd.perm (w : Wd G H F) (p : F.Perm F') : Wd G H F' := w.sub (p.nodup_iff.mp w.nd) fun a h => p.mem_iff.mpr h
theorem Wd.nin (w : Wd G H F) {p : Addr} (h : H p = none) : p ∉ F := fun hm => by
  obtain ⟨o, e, _⟩ := w.inn p hm
  rw [h] at e; cases e
theorem Wd.gnone (w : Wd G H F) {p : Addr} (h : H p = none) : G p = none := by
  cases e : G p with
  | none => rfl
  | some o => rw [w.le _ _ e] at h; cases h
theorem Fw.refl (w : Wd G H F) : Fw C G H F G H F := ⟨w, fun _ _ h => h, fun _ _ h _ _ => h, fun _ h => h, fun _ _ h => .inl h, fun _ h => .inl h, fun h => h⟩
theorem Fw.trans (a : Fw C G H F G1 H1 F1) (b : Fw C G1 H1 F1 G2 H2 F2) : Fw C G H F G2 H2 F2 where
  wd := b.wd
  gs := fun c o h => b.gs c o (a.gs c o h)
  hs := fun c o h n t => b.hs c o (a.hs c o h n t) (fun m => (a.fn c m).elim n fun z => by rw [h] at z; cases z) t
  dm := fun c h => a.dm c (b.dm c h)
  gn := fun c o h => by
    rcases b.gn c o h with h | h | h | h
    · exact a.gn c o h
    · rcases a.fn c h with h | h
      · exact .inr (.inl h)
      · exact .inr (.inr (.inl h))
    · exact .inr (.inr (.inl (a.dm c h)))
    · exact .inr (.inr (.inr h))
  fn := fun c h => by
    rcases b.fn c h with h | h
    · exact a.fn c h
    · exact .inr (a.dm c h)
  tt := fun h => b.tt (a.tt h)
theorem Fw.sub (a : Fw C G H F G1 H1 F1) (nd : F'.Nodup) (s : ∀ c ∈ F', c ∈ F1) : Fw C G H F G1 H1 F' := ⟨a.wd.sub nd s, a.gs, a.hs, a.dm, a.gn, fun c h => a.fn c (s c h), a.tt⟩
theorem Fw.perm (a : Fw C G H F G1 H1 F1) (p : F1.Perm F') : Fw C G H F G1 H1 F' := a.sub (p.nodup_iff.mp a.wd.nd) fun c h => p.mem_iff.mpr h
theorem Fw.left (a : Fw C G H F G1 H1 (A ++ B)) : Fw C G H F G1 H1 A := a.sub (List.nodup_append.mp a.wd.nd).1 fun c h => List.mem_append_left _ h
theorem Fw.right (a : Fw C G H F G1 H1 (A ++ B)) : Fw C G H F G1 H1 B := a.sub (List.nodup_append.mp a.wd.nd).2.1 fun c h => List.mem_append_right _ h
theorem Fw.more (a : Fw C G H F G1 H1 F1) (s : ∀ c ∈ F, c ∈ F') : Fw C G H F' G1 H1 F1 :=
  ⟨a.wd, a.gs, fun c o h n t => a.hs c o h (fun m => n (s c m)) t, a.dm, fun c o h => (a.gn c o h).imp id (·.imp (s c) id), fun c h => (a.fn c h).imp (s c) id, a.tt⟩
/-- what else is owned stays beside it -/
theorem Fw.frame (a : Fw C G H F G1 H1 F1) (w : Wd G H (F ++ B)) : Fw C G H (F ++ B) G1 H1 (F1 ++ B) where
  wd := by
    have hB : ∀ b ∈ B, ∃ o, H1 b = some o ∧ Plain o := fun b hb => by
      obtain ⟨o, e, t⟩ := w.inn b (List.mem_append_right _ hb)
      exact ⟨o, a.hs b o e (fun m => w.dis b m hb) t.1, t⟩
    refine ⟨a.wd.le, a.wd.tb, List.nodup_append.mpr ⟨a.wd.nd, (List.nodup_append.mp w.nd).2.1, fun x hx y hy e => ?_⟩, fun c hc => ?_, fun c hc => ?_⟩
    · subst e
      rcases a.fn x hx with h | h
      · exact w.dis x h hy
      · obtain ⟨o, e, _⟩ := w.inn x (List.mem_append_right _ hy)
        rw [h] at e; cases e
    · rcases List.mem_append.mp hc with h | h
      · exact a.wd.out c h
      · cases e : G1 c with
        | none => rfl
        | some o =>
          rcases a.gn c o e with z | z | z | z
          · rw [w.out c (List.mem_append_right _ h)] at z; cases z
          · exact absurd h (w.dis c z)
          · obtain ⟨o', e', _⟩ := w.inn c (List.mem_append_right _ h)
            rw [z] at e'; cases e'
          · obtain ⟨o', e', t'⟩ := hB c h
            have := a.wd.le c o e
            rw [e'] at this
            cases this
            exact absurd t' z
    · rcases List.mem_append.mp hc with h | h
      · exact a.wd.inn c h
      · exact hB c h
  gs := a.gs
  hs := fun c o h n t => a.hs c o h (fun m => n (List.mem_append_left _ m)) t
  dm := a.dm
  gn := fun c o h => (a.gn c o h).imp id (·.imp (fun m => List.mem_append_left _ m) id)
  fn := fun c h => by
    rcases List.mem_append.mp h with h | h
    · exact (a.fn c h).imp (fun m => List.mem_append_left _ m) id
    · exact .inl (List.mem_append_right _ h)
  tt := a.tt
theorem Rep.fw {v : V} {d : D} {g : List Addr} (r : Rep C G H v d g) (a : Fw C G H F G1 H1 F1) (n : ∀ b ∈ g, b ∉ F) : Rep C G1 H1 v d g := r.mono a.gs fun b o hb h t => a.hs b o h (n b hb) t
theorem Reps.fw {v : List V} {d : List D} {g : List Addr} (r : Reps C G H v d g) (a : Fw C G H F G1 H1 F1) (n : ∀ b ∈ g, b ∉ F) : Reps C G1 H1 v d g := r.mono a.gs fun b o hb h t => a.hs b o h (n b hb) t
end

/-! ### slots -/
/-- a datum: frozen, or owned (in part) by who holds it -/
inductive DV where
  | fr (d : D) | ow (d : D)
  deriving Inhabited
def RepV (C : Cb) (G H : Hp) (v : V) (x : DV) (f : List Addr) : Prop := match x with
  | .fr d => Rep C G H v d [] ∧ f = []
  | .ow d => Rep C G H v d f
/-- a slot; p: it holds a parameter that is handed back -/
inductive Sl where
  | un | s (p : Bool) (x : DV)
  | lm (is : List Nat)
  deriving Inhabited
abbrev Sls := List Sl
/-- the closures of a frame -/
structure Cc extends Cb where
  pin : List (Option V)
  lam : Nat → V → Hp → Prop
  lamUp : ∀ i v H H', lam i v H → (∀ a o, H a = some o → (∀ ps, o ≠ .tbl ps) → H' a = some o) → lam i v H'
instance : Coe Cc Cb := ⟨Cc.toCb⟩
/-- the closures of a list -/
def Lams (C : Cc) (G : Hp) : List V → List Nat → Prop
  | [], [] => True
  | v :: vs, i :: is => C.lam i v G ∧ Lams C G vs is
  | _, _ => False
def Slot (C : Cc) (G H : Hp) (pin x : Option V) (s : Sl) (f : List Addr) : Prop := match s with
  | .un => f = []
  | .s p d => ∃ v, x = some v ∧ RepV C.toCb G H v d f ∧ (p = true → pin = some v)
  | .lm is => ∃ a vs, x = some (.ref a) ∧ G a = some (.lst vs) ∧ Lams C G vs is ∧ f = []
def SlotsP (C : Cc) (G H : Hp) : List (Option V) → List (Option V) → Sls → List (List Addr) → Prop
  | [], [], [], [] => True
  | p :: ps, x :: xs, s :: ss, f :: fs => Slot C G H p x s f ∧ SlotsP C G H ps xs ss fs
  | _, _, _, _ => False
abbrev Slots (C : Cc) (G H : Hp) (σ : List (Option V)) (δ : Sls) (Fs : List (List Addr)) : Prop := SlotsP C G H C.pin σ δ Fs
section
variable {C : Cb} {G H G' H' G1 H1 : Hp} {F : List Addr}
theorem RepV.mono {x : DV} {v : V} {f : List Addr} (r : RepV C G H v x f) (hG : ∀ a o, G a = some o → G' a = some o) (hH : ∀ a o, a ∈ f → H a = some o → (∀ ps, o ≠ .tbl ps) → H' a = some o) : RepV C G' H' v x f := by
  cases x with
  | fr d => exact ⟨r.1.mono hG (fun a o m => by cases m), r.2⟩
  | ow d => exact Rep.mono hG hH r
theorem RepV.there {x : DV} {v : V} {f : List Addr} (r : RepV C G H v x f) : ∀ a ∈ f, ∃ o, H a = some o ∧ Plain o := by
  cases x with
  | fr d => rw [r.2]; intro a h; cases h
  | ow d => exact Rep.there r
theorem RepV.fw {v : V} {d : DV} {g : List Addr} (r : RepV C G H v d g) (a : Fw C G H F G1 H1 F1) (n : ∀ b ∈ g, b ∉ F) : RepV C G1 H1 v d g := r.mono a.gs fun b o hb h t => a.hs b o h (n b hb) t
end
section
variable {C : Cc} {G H G' H' : Hp} {F F' : List Addr}
theorem Lams.mono (hG : ∀ a o, G a = some o → G' a = some o) : ∀ {vs : List V} {is : List Nat}, Lams C G vs is → Lams C G' vs is
  | [], [], _ => trivial
  | v :: vs, i :: is, r => ⟨C.lamUp _ _ _ _ r.1 fun a o e _ => hG a o e, Lams.mono hG r.2⟩
  | [], _ :: _, r => r.elim
  | _ :: _, [], r => r.elim
theorem Slot.mono {pin x : Option V} {s : Sl} {f : List Addr} (r : Slot C G H pin x s f) (hG : ∀ a o, G a = some o → G' a = some o) (hH : ∀ a o, a ∈ f → H a = some o → (∀ ps, o ≠ .tbl ps) → H' a = some o) : Slot C G' H' pin x s f := by
  cases s with
  | un => exact r
  | s p d =>
    obtain ⟨v, e, r, hp⟩ := r
    exact ⟨v, e, r.mono hG hH, hp⟩
  | lm is =>
    obtain ⟨a, vs, e, q, l, ef⟩ := r
    exact ⟨a, vs, e, hG _ _ q, l.mono hG, ef⟩
theorem SlotsP.mono (hG : ∀ a o, G a = some o → G' a = some o) : ∀ {ps σ : List (Option V)} {δ : Sls} {Fs : List (List Addr)}, SlotsP C G H ps σ δ Fs → (∀ a o, a ∈ Fs.flatten → H a = some o → (∀ ps, o ≠ .tbl ps) → H' a = some o) → SlotsP C G' H' ps σ δ Fs
  | [], [], [], [], _, _ => trivial
  | p :: ps, x :: xs, s :: ss, f :: fs, r, hH => ⟨r.1.mono hG fun a o m => hH a o (by rw [List.flatten_cons]; exact List.mem_append_left _ m), SlotsP.mono hG r.2 fun a o m => hH a o (by rw [List.flatten_cons]; exact List.mem_append_right _ m)⟩
  | [], [], [], _ :: _, r, _ | [], [], _ :: _, _, r, _ | [], _ :: _, _, _, r, _ | _ :: _, [], _, _, r, _ | _ :: _, _ :: _, [], _, r, _ | _ :: _, _ :: _, _ :: _, [], r, _ => r.elim
theorem SlotsP.len : ∀ {ps σ : List (Option V)} {δ : Sls} {Fs : List (List Addr)}, SlotsP C G H ps σ δ Fs → σ.length = δ.length ∧ Fs.length = δ.length ∧ ps.length = δ.length
  | [], [], [], [], _ => ⟨rfl, rfl, rfl⟩
  | p :: ps, x :: xs, s :: ss, f :: fs, r => by
    have := SlotsP.len r.2
    simp [this.1, this.2.1, this.2.2]
  | [], [], [], _ :: _, r | [], [], _ :: _, _, r | [], _ :: _, _, _, r | _ :: _, [], _, _, r | _ :: _, _ :: _, [], _, r | _ :: _, _ :: _, _ :: _, [], r => r.elim
theorem SlotsP.get : ∀ {ps σ : List (Option V)} {δ : Sls} {Fs : List (List Addr)} {i : Nat} {s : Sl}, SlotsP C G H ps σ δ Fs → δ[i]? = some s → ∃ p x f, ps[i]? = some p ∧ σ[i]? = some x ∧ Fs[i]? = some f ∧ Slot C G H p x s f
  | p :: ps, x :: xs, s :: ss, f :: fs, 0, _, r, e => by
    simp at e; subst e
    exact ⟨p, x, f, rfl, rfl, rfl, r.1⟩
  | p :: ps, x :: xs, s :: ss, f :: fs, i + 1, _, r, e => by
    obtain ⟨q, y, g, h0, h1, h2, h3⟩ := SlotsP.get (i := i) r.2 (by simpa using e)
    exact ⟨q, y, g, by simpa using h0, by simpa using h1, by simpa using h2, h3⟩
  | [], [], [], [], _, _, _, e => by simp at e
  | [], [], [], _ :: _, _, _, r, _ | [], [], _ :: _, _, _, _, r, _ | [], _ :: _, _, _, _, _, r, _ | _ :: _, [], _, _, _, _, r, _ | _ :: _, _ :: _, [], _, _, _, r, _ | _ :: _, _ :: _, _ :: _, [], _, _, r, _ => r.elim
/-- a slot that isn't held is stored -/
theorem SlotsP.set {x : Option V} {s : Sl} {f : List Addr} : ∀ {ps σ : List (Option V)} {δ : Sls} {Fs : List (List Addr)} (i : Nat), SlotsP C G H ps σ δ Fs → (∀ p, ps[i]? = some p → Slot C G H p x s f) → SlotsP C G H ps (σ.set i x) (δ.set i s) (Fs.set i f)
  | p :: ps, x :: xs, s :: ss, f :: fs, 0, r, q => ⟨q p rfl, r.2⟩
  | p :: ps, x :: xs, s :: ss, f :: fs, i + 1, r, q => ⟨r.1, SlotsP.set i r.2 fun p h => q p (by simpa using h)⟩
  | [], [], [], [], _, _, _ => trivial
  | [], [], [], _ :: _, _, r, _ | [], [], _ :: _, _, _, r, _ | [], _ :: _, _, _, _, r, _ | _ :: _, [], _, _, _, r, _ | _ :: _, _ :: _, [], _, _, r, _ | _ :: _, _ :: _, _ :: _, [], _, r, _ => r.elim
theorem set_self {α : Type} : ∀ {l : List α} {i : Nat} {x : α}, l[i]? = some x → l.set i x = l
  | [], _, _, _ => rfl
  | y :: l, 0, x, e => by simp at e; subst e; rfl
  | y :: l, i + 1, x, e => by
    have := set_self (l := l) (i := i) (x := x) (by simpa using e)
    simp [this]
/-- the slot's description changes, its value stays -/
theorem SlotsP.setD {x : Option V} {s : Sl} {f : List Addr} {ps σ : List (Option V)} {δ : Sls} {Fs : List (List Addr)} {i : Nat} (r : SlotsP C G H ps σ δ Fs) (e : σ[i]? = some x) (q : ∀ p, ps[i]? = some p → Slot C G H p x s f) : SlotsP C G H ps σ (δ.set i s) (Fs.set i f) := by
  have := SlotsP.set i r q
  rwa [set_self e] at this
theorem flat_perm : ∀ {Fs : List (List Addr)} {i : Nat} {f : List Addr}, Fs[i]? = some f → Fs.flatten.Perm (f ++ (Fs.set i []).flatten)
  | [], _, _, e => by simp at e
  | g :: Fs, 0, f, e => by
    simp at e; subst e
    simp
  | g :: Fs, i + 1, f, e => by
    have h := flat_perm (Fs := Fs) (i := i) (f := f) (by simpa using e)
    simp only [List.set_cons_succ, List.flatten_cons]
    refine (List.Perm.append_left g h).trans ?_
    rw [← List.append_assoc, ← List.append_assoc]
    exact List.Perm.append_right _ List.perm_append_comm
theorem flat_set {Fs : List (List Addr)} {i : Nat} {g : List Addr} (h : i < Fs.length) : (Fs.set i g).flatten.Perm (g ++ (Fs.set i []).flatten) := by
  have := flat_perm (Fs := Fs.set i g) (i := i) (f := g) (by simp [h])
  rwa [List.set_set] at this
theorem mem_flat {Fs : List (List Addr)} {i : Nat} {f : List Addr} (e : Fs[i]? = some f) : ∀ a ∈ f, a ∈ Fs.flatten := fun a h => List.mem_flatten.mpr ⟨f, List.mem_of_getElem? e, h⟩
end

/-! ### outcomes -/
inductive Res (α : Type) where
  | ok (a : α) (δ : Sls) | er (c : Nat) (δ : Sls) | bad
  deriving Inhabited
def Res.bind {α β : Type} (m : Res α) (k : α → Sls → Res β) : Res β := match m with
  | .ok a δ => k a δ
  | .er c δ => .er c δ
  | .bad => .bad

/-- slots outside T are as they were -/
def Kp (T : List Nat) (δ : Sls) (Fs : List (List Addr)) (H : Hp) (δ' : Sls) (Fs' : List (List Addr)) (H' : Hp) : Prop :=
  ∀ j, j ∉ T → δ'[j]? = δ[j]? ∧ Fs'[j]? = Fs[j]? ∧ ∀ f, Fs[j]? = some f → ∀ a ∈ f, ∀ o, H a = some o → (∀ ps, o ≠ .tbl ps) → H' a = some o
theorem Kp.refl {T : List Nat} {δ : Sls} {Fs : List (List Addr)} {H : Hp} : Kp T δ Fs H δ Fs H := fun _ _ => ⟨rfl, rfl, fun _ _ _ _ _ h _ => h⟩
theorem Kp.trans {T U : List Nat} {δ δ1 δ2 : Sls} {Fs Fs1 Fs2 : List (List Addr)} {H H1 H2 : Hp} (a : Kp T δ Fs H δ1 Fs1 H1) (b : Kp U δ1 Fs1 H1 δ2 Fs2 H2) : Kp (T ++ U) δ Fs H δ2 Fs2 H2 := fun j hj => by
  obtain ⟨a1, a2, a3⟩ := a j fun m => hj (List.mem_append_left _ m)
  obtain ⟨b1, b2, b3⟩ := b j fun m => hj (List.mem_append_right _ m)
  exact ⟨b1.trans a1, b2.trans a2, fun f e x hx o ho ht => b3 f (a2.trans e) x hx o (a3 f e x hx o ho ht) ht⟩
theorem Kp.more {T U : List Nat} {δ δ1 : Sls} {Fs Fs1 : List (List Addr)} {H H1 : Hp} (a : Kp T δ Fs H δ1 Fs1 H1) (h : ∀ j ∈ T, j ∈ U) : Kp U δ Fs H δ1 Fs1 H1 := fun j hj => a j fun m => hj (h j m)

/-- how values of a kind stand for what mirrors hand out -/
abbrev RepOf (β α : Type) := L2.St → Cc → Hp → Hp → β → α → List Addr → Prop

/-- what is wanted behind an outcome, from a state with the footprint F at hand -/
def Out {α β : Type} (C : Cc) (R : RepOf β α) (W : WX) (T : List Nat) (σ : L2.St) (G H : Hp) (δ : Sls) (Fs : List (List Addr)) (F : List Addr) (Q : β → Hp → Prop) : Res α → Prop
  | .ok a δ' => ∀ x G' H' Fs' g, Fw C G H F G' H' (Fs'.flatten ++ g) → Slots C G' H' σ δ' Fs' → Kp T δ Fs H δ' Fs' H' → R σ C G' H' x a g → Q x H'
  | .er c δ' => ∀ G' H' Fs', Fw C G H F G' H' Fs'.flatten → Slots C G' H' σ δ' Fs' → W (.ref (C.exc c)) none σ H'
  | .bad => False

/-- THE READING -/
def tG {α β : Type} (C : Cc) (R : RepOf β α) (W : WX) (T : List Nat) (f : Sls → Res α)   : L2.St → Hp → (β → Hp → Prop) → Prop := fun σ H Q =>
  ∃ G δ Fs, Wd G H Fs.flatten ∧ Tbs C H ∧ Slots C G H σ δ Fs ∧ Out C R W T σ G H δ Fs Fs.flatten Q (f δ)

section
variable {α β γ η : Type} {C : Cc} {R : RepOf β α} {R2 : RepOf η γ} {W : WX} {T U V : List Nat} {σ : L2.St} {G H G1 H1 : Hp} {δ δ1 : Sls} {Fs Fs1 : List (List Addr)} {F F1 : List Addr} {Q : β → Hp → Prop} {m : Res α}
/-- further on -/
theorem Out.step (h : Out C R W V σ G H δ Fs F Q m) (w : Fw C G H F G1 H1 F1) (k : Kp T δ Fs H δ1 Fs1 H1) (hT : ∀ j, j ∈ T ∨ j ∈ U → j ∈ V) : Out C R W U σ G1 H1 δ1 Fs1 F1 Q m := by
  cases m with
  | ok a δ' => exact fun x G' H' Fs' g w' s k' r => h x G' H' Fs' g (w.trans w') s ((k.trans k').more fun j hj => hT j (List.mem_append.mp hj)) r
  | er c δ' => exact fun G' H' Fs' w' s => h G' H' Fs' (w.trans w') s
  | bad => exact h
/-- a part, then the rest: what is pending is framed -/
theorem tG_of {f : Sls → Res α} {k : α → Sls → Res γ} {P : List Addr} {Qf : η → Hp → Prop} (wd : Wd G H (Fs.flatten ++ P)) (tt : Tbs C H) (sl : Slots C G H σ δ Fs)
    (h : Out C R2 W V σ G H δ Fs (Fs.flatten ++ P) Qf ((f δ).bind k)) (hT : ∀ j, j ∈ T ∨ j ∈ U → j ∈ V)
    (hk : ∀ x a δ1 G1 H1 Fs1 g, Fw C G H (Fs.flatten ++ P) G1 H1 (Fs1.flatten ++ (g ++ P)) → Wd G1 H1 (Fs1.flatten ++ (g ++ P)) → Tbs C H1 → Slots C G1 H1 σ δ1 Fs1 → Kp T δ Fs H δ1 Fs1 H1 → R σ C G1 H1 x a g → (∀ b o, b ∈ P → H b = some o → (∀ ps, o ≠ .tbl ps) → H1 b = some o) →
      Out C R2 W U σ G1 H1 δ1 Fs1 (Fs1.flatten ++ (g ++ P)) Qf (k a δ1) → Q x H1) : tG C R W T f σ H Q := by
  refine ⟨G, δ, Fs, wd.left, tt, sl, ?_⟩
  cases e : f δ with
  | bad => rw [e] at h; exact h
  | er c δ' =>
    rw [e] at h
    intro G' H' Fs' w s
    exact h G' H' Fs' (w.frame wd).left s
  | ok a δ' =>
    rw [e] at h
    intro x G' H' Fs' g w s kp r
    have w2 := w.frame wd
    rw [List.append_assoc] at w2
    exact hk x a δ' G' H' Fs' g w2 w2.wd (w.tt tt) s kp r (fun b o hb e t => w.hs b o e (fun m => wd.dis b m hb) t) (Out.step h w2 kp hT)
end

/-! ### growth -/
section
variable {C : Cb} {G H G' H' : Hp} {F B f : List Addr} {p : Addr} {o : HO}
theorem Tbs.ext (h : ∀ a o, H a = some o → H' a = some o) : Tbs C H → Tbs C H' := fun t => ⟨t.1.ext h, fun P hP => by
  obtain ⟨ps, e, k⟩ := t.2 P hP
  exact ⟨ps, h _ _ e, k⟩⟩
theorem upd_keep (hp : H p = none) : ∀ a o', H a = some o' → upd H p o a = some o' := fun a o' e => by rw [upd_ne (ne_of_none e hp)]; exact e
theorem upd_none {a : Addr} (h : upd H p o a = none) : a ≠ p ∧ H a = none := by
  by_cases e : a = p
  · rw [e, upd_same] at h; cases h
  · rw [upd_ne e] at h; exact ⟨e, h⟩
theorem upd_some {a : Addr} {o' : HO} (h : upd H p o a = some o') : (a = p ∧ o' = o) ∨ (a ≠ p ∧ H a = some o') := by
  by_cases e : a = p
  · rw [e, upd_same] at h; cases h; exact .inl ⟨e, rfl⟩
  · rw [upd_ne e] at h; exact .inr ⟨e, h⟩
/-- a new object, owned -/
theorem Fw.new (w : Wd G H []) (hp : H p = none) (ho : Plain o) : Fw C G H [] G (upd H p o) [p] where
  wd := ⟨fun a u e => upd_keep hp a u (w.le a u e), w.tb, List.nodup_cons.mpr ⟨by simp, List.nodup_nil⟩, fun a h => by
      rw [List.mem_singleton.mp h]; exact w.gnone hp, fun a h => by
      rw [List.mem_singleton.mp h]; exact ⟨o, upd_same, ho⟩⟩
  gs := fun _ _ h => h
  hs := fun a u e _ _ => upd_keep hp a u e
  dm := fun a e => (upd_none e).2
  gn := fun _ _ h => .inl h
  fn := fun a h => by rw [List.mem_singleton.mp h]; exact .inr hp
  tt := Tbs.ext (upd_keep hp)
/-- a new object, frozen -/
theorem Fw.newG (w : Wd G H []) (hp : H p = none) (ho : ∀ ps, o ≠ .tbl ps) : Fw C G H [] (upd G p o) (upd H p o) [] := by
  have hle : ∀ a u, upd G p o a = some u → upd H p o a = some u := fun a u e => by
    rcases upd_some e with ⟨rfl, rfl⟩ | ⟨n, e⟩
    · exact upd_same
    · rw [upd_ne n]; exact w.le _ _ e
  have htb : ∀ a ps, upd G p o a ≠ some (.tbl ps) := fun a ps e => by
    rcases upd_some e with ⟨rfl, q⟩ | ⟨n, e⟩
    · exact ho ps q.symm
    · exact w.tb _ _ e
  refine ⟨⟨hle, htb, List.nodup_nil, fun a h => (by cases h), fun a h => (by cases h)⟩, upd_keep (w.gnone hp), fun a u e _ _ => upd_keep hp a u e, fun a e => (upd_none e).2, fun a u e => ?_, fun a h => (by cases h), Tbs.ext (upd_keep hp)⟩
  rcases upd_some e with ⟨rfl, _⟩ | ⟨_, e⟩
  · exact .inr (.inr (.inl hp))
  · exact .inl e
/-- what is owned at f is frozen -/
theorem Fw.freeze (w : Wd G H (f ++ B)) : ∃ G', Fw C G H (f ++ B) G' H B ∧ ∀ a ∈ f, ∀ o, H a = some o → G' a = some o := by
  obtain ⟨G', hG⟩ : ∃ G' : Hp, G' = fun a => if a ∈ f then H a else G a := ⟨_, rfl⟩
  have pos : ∀ a, a ∈ f → G' a = H a := fun a h => by rw [hG]; exact if_pos h
  have neg : ∀ a, a ∉ f → G' a = G a := fun a h => by rw [hG]; exact if_neg h
  refine ⟨G', ⟨⟨fun a o e => ?_, fun a ps e => ?_, (List.nodup_append.mp w.nd).2.1, fun a h => ?_, fun a h => w.inn a (List.mem_append_right _ h)⟩, fun a o e => ?_, fun _ _ e _ _ => e, fun _ e => e, fun a o e => ?_, fun a h => .inl (List.mem_append_right _ h), fun t => t⟩, fun a h o e => by rw [pos a h]; exact e⟩
  · by_cases m : a ∈ f
    · rw [pos a m] at e; exact e
    · rw [neg a m] at e; exact w.le _ _ e
  · by_cases m : a ∈ f
    · rw [pos a m] at e
      obtain ⟨o, e', t⟩ := w.inn a (List.mem_append_left _ m)
      rw [e] at e'; cases e'; exact t.1 ps rfl
    · rw [neg a m] at e; exact w.tb _ _ e
  · rw [neg a fun m => w.dis a m h]
    exact w.out a (List.mem_append_right _ h)
  · by_cases m : a ∈ f
    · rw [pos a m]; exact w.le _ _ e
    · rw [neg a m]; exact e
  · by_cases m : a ∈ f
    · exact .inr (.inl (List.mem_append_left _ m))
    · rw [neg a m] at e; exact .inl e
end
end Pv

set_option Elab.async false
set_option linter.all false
set_option maxRecDepth 100000
/-! PvC: expressions. -/
namespace Pv
open PySem PySem.Spec L2

abbrev rV : RepOf V DV := fun _ C G H v x g => RepV C.toCb G H v x g
abbrev rB : RepOf Bool Bool := fun _ _ _ _ b a g => b = a ∧ g = []
inductive OV where
  | val (x : DV) | at (i : Nat)
def RepO (σ : L2.St) (C : Cc) (G H : Hp) (v : V) (o : OV) (g : List Addr) : Prop := match o with
  | .val x => RepV C G H v x g
  | .at i => σ[i]? = some (some v) ∧ g = []
abbrev rO : RepOf V OV := RepO
def RepVs (C : Cb) (G H : Hp) : List V → List DV → List Addr → Prop
  | [], [], g => g = []
  | v :: vs, x :: xs, g => ∃ f1 f2, RepV C G H v x f1 ∧ RepVs C G H vs xs f2 ∧ g = f1 ++ f2
  | _, _, _ => False
def RepOs (σ : L2.St) (C : Cc) (G H : Hp) : List V → List OV → List Addr → Prop
  | [], [], g => g = []
  | v :: vs, x :: xs, g => ∃ f1 f2, RepO σ C G H v x f1 ∧ RepOs σ C G H vs xs f2 ∧ g = f1 ++ f2
  | _, _, _ => False
abbrev rOs : RepOf (List V) (List OV) := RepOs

structure SE (X : Cx) (C : Cc) (T : List Nat) (e : Expr) (f : Sls → Res DV) : Prop where
  run : ∀ W, Takes X W → PE X e (tG C rV W T f)
structure SO (X : Cx) (C : Cc) (T : List Nat) (e : Expr) (f : Sls → Res OV) : Prop where
  run : ∀ W, Takes X W → PE X e (tG C rO W T f)
structure ST (X : Cx) (C : Cc) (T : List Nat) (e : Expr) (f : Sls → Res Bool) : Prop where
  run : ∀ W, Takes X W → PT X e (tG C rB W T f)
structure SW (X : Cx) (C : Cc) (T : List Nat) (e : Expr) (f : Sls → Res Bool) : Prop where
  run : ∀ W, Takes X W → PW X e (tG C rB W T f)
structure SA (X : Cx) (C : Cc) (T : List Nat) (es : List Expr) (f : Sls → Res (List OV)) : Prop where
  run : ∀ W, Takes X W → PA X es (tG C rOs W T f)

def DV.d : DV → D
  | .fr d => d
  | .ow d => d
def see (δ : Sls) : OV → Option DV
  | .val x => some x
  | .at i => match δ[i]? with
    | some (.s _ x) => some x
    | _ => none

section
variable {X : Cx} {C : Cc} {T U : List Nat} {e a b : Expr} {pos : Pos}
theorem PE.imp {t t' : TE} (h : PE X e t) (i : ∀ σ H Q, t' σ H Q → t σ H Q) : PE X e t' := ⟨fun pins s σ H Q I q => h.run pins s σ H Q I (i σ H Q q)⟩
theorem PT.imp {t t' : TT} (h : PT X e t) (i : ∀ σ H Q, t' σ H Q → t σ H Q) : PT X e t' := ⟨fun pins s σ H Q I q => h.run pins s σ H Q I (i σ H Q q)⟩
theorem PW.imp {t t' : TT} (h : PW X e t) (i : ∀ σ H Q, t' σ H Q → t σ H Q) : PW X e t' := ⟨fun w pins s σ H Q I q => h.run w pins s σ H Q I (i σ H Q q)⟩
theorem PA.imp {es : List Expr} {t t' : TA} (h : PA X es t) (i : ∀ σ H Q, t' σ H Q → t σ H Q) : PA X es t' := ⟨fun p pins s σ H Q I q => h.run p pins s σ H Q I (i σ H Q q)⟩
theorem RepV.d {C : Cb} {G H : Hp} {v : V} {x : DV} {f : List Addr} (r : RepV C G H v x f) : Rep C G H v x.d f := by
  cases x with
  | fr d => rw [r.2]; exact r.1
  | ow d => exact r
theorem RepO.mono {σ : L2.St} {G H G' H' : Hp} {v : V} {x : OV} {f : List Addr} (r : RepO σ C G H v x f) (hG : ∀ a o, G a = some o → G' a = some o) (hH : ∀ a o, a ∈ f → H a = some o → (∀ ps, o ≠ .tbl ps) → H' a = some o) : RepO σ C G' H' v x f := by
  cases x with
  | val x => exact RepV.mono r hG hH
  | «at» i => exact r
theorem RepOs.mono {σ : L2.St} {G H G' H' : Hp} (hG : ∀ a o, G a = some o → G' a = some o) : ∀ {vs : List V} {xs : List OV} {f : List Addr}, RepOs σ C G H vs xs f → (∀ a o, a ∈ f → H a = some o → (∀ ps, o ≠ .tbl ps) → H' a = some o) → RepOs σ C G' H' vs xs f
  | [], [], _, r, _ => r
  | v :: vs, x :: xs, f, r, hH => by
    obtain ⟨f1, f2, r1, r2, rfl⟩ := r
    exact ⟨f1, f2, r1.mono hG fun a o m => hH a o (List.mem_append_left _ m), RepOs.mono hG r2 (fun a o m => hH a o (List.mem_append_right _ m)), rfl⟩
  | [], _ :: _, _, r, _ => r.elim
  | _ :: _, [], _, r, _ => r.elim
theorem RepO.fw {σ : L2.St} {G H G1 H1 : Hp} {F F1 : List Addr} {v : V} {d : OV} {g : List Addr} (r : RepO σ C G H v d g) (a : Fw C G H F G1 H1 F1) (n : ∀ b ∈ g, b ∉ F) : RepO σ C G1 H1 v d g := r.mono a.gs fun b o hb h t => a.hs b o h (n b hb) t
theorem RepOs.fw {σ : L2.St} {G H G1 H1 : Hp} {F F1 : List Addr} {v : List V} {d : List OV} {g : List Addr} (r : RepOs σ C G H v d g) (a : Fw C G H F G1 H1 F1) (n : ∀ b ∈ g, b ∉ F) : RepOs σ C G1 H1 v d g := r.mono a.gs fun b o hb h t => a.hs b o h (n b hb) t
/-- an operand, looked at in the end -/
theorem RepO.see {σ : L2.St} {G H : Hp} {v : V} {o : OV} {g : List Addr} {δ : Sls} {Fs : List (List Addr)} {x : DV} (r : RepO σ C G H v o g) (s : Slots C G H σ δ Fs) (h : Pv.see δ o = some x) : ∃ f, RepV C G H v x f ∧ ((o = .val x ∧ f = g) ∨ ∃ i p, o = .at i ∧ δ[i]? = some (.s p x) ∧ Fs[i]? = some f) := by
  cases o with
  | val y =>
    simp only [Pv.see] at h
    cases h
    exact ⟨g, r, .inl ⟨rfl, rfl⟩⟩
  | «at» i =>
    simp only [Pv.see] at h
    split at h
    · rename_i p y hy
      cases h
      obtain ⟨pp, z, f, h0, h1, h2, v', e, q, hp⟩ := SlotsP.get s hy
      rw [r.1] at h1
      cases h1
      cases e
      exact ⟨f, q, .inr ⟨i, p, rfl, hy, h2⟩⟩
    · cases h

/-! ### constants, names -/
def mC (x : D) : Sls → Res DV := fun δ => .ok (.fr x) δ
theorem se_const {v : V} {d : D} (h : PE X e (tC v)) (r : ∀ G H, Rep C G H v d []) : SE X C [] e (mC d) :=
  ⟨fun W tk => PE.imp h fun σ H Q ⟨G, δ, Fs, wd, tt, sl, out⟩ => out v G H Fs [] (by rw [List.append_nil]; exact Fw.refl wd) sl Kp.refl ⟨r G H, rfl⟩⟩
theorem se_int {i : Int} {j} : SE X C [] (.Constant (.int i) j pos) (mC (.int i)) := se_const pe_int fun _ _ => ⟨rfl, rfl⟩
theorem se_bl {i : Bool} {j} : SE X C [] (.Constant (.bool i) j pos) (mC (.bl i)) := se_const pe_bl fun _ _ => ⟨rfl, rfl⟩
theorem se_non {j} : SE X C [] (.Constant .none j pos) (mC .non) := se_const pe_non fun _ _ => ⟨rfl, rfl⟩
theorem se_str {x : Str} {y : List Nat} {j} (h : x = strV y) : SE X C [] (.Constant (.str x) j pos) (mC (.str y)) := by
  subst h
  exact se_const pe_str fun _ _ => ⟨rfl, rfl⟩

def mRd (i : Nat) : Sls → Res DV := fun δ => match δ[i]? with
  | some (.s _ (.fr d)) => .ok (.fr d) δ
  | _ => .bad
/-- a name whose datum is frozen -/
theorem se_rd {x : Str} (i : Nat) (h : PE X (.Name x pos) (tVar i)) : SE X C [] (.Name x pos) (mRd i) := by
  refine ⟨fun W tk => PE.imp h fun σ H Q ⟨G, δ, Fs, wd, tt, sl, out⟩ => ?_⟩
  unfold mRd at out
  split at out
  · rename_i p d hd
    obtain ⟨pp, y, f, h0, h1, h2, v, rfl, q, hp⟩ := SlotsP.get sl hd
    exact ⟨v, h1, out v G H Fs [] (by rw [List.append_nil]; exact Fw.refl wd) sl Kp.refl ⟨q.1, rfl⟩⟩
  · exact out.elim
def frz (i : Nat) (p : Bool) (d : D) (δ : Sls) : Res DV := .ok (.fr (fz d)) (δ.set i (.s p (.fr (fz d))))
def mFz (i : Nat) : Sls → Res DV := fun δ => match δ[i]? with
  | some (.s _ (.fr d)) => .ok (.fr d) δ
  | some (.s p (.ow d)) => frz i p d δ
  | _ => .bad
theorem freeze_slot {σ : L2.St} {G H : Hp} {δ : Sls} {Fs : List (List Addr)} {i : Nat} {p : Bool} {d : D} {v : V} {f : List Addr} {pp : Option V} (wd : Wd G H Fs.flatten) (sl : Slots C G H σ δ Fs) (h0 : C.pin[i]? = some pp) (hp : p = true → pp = some v) (h1 : σ[i]? = some (some v)) (h2 : Fs[i]? = some f) (q : Rep C G H v d f) :
    ∃ G', Fw C G H Fs.flatten G' H (Fs.set i []).flatten ∧ Slots C G' H σ (δ.set i (.s p (.fr (fz d)))) (Fs.set i []) ∧ Rep C G' H v (fz d) [] := by
  have pm := flat_perm h2
  obtain ⟨G', w, k⟩ := Fw.freeze (C := C) (wd.perm pm)
  have r := Rep.freeze w.gs (fun a m o e => k a m o e) q
  refine ⟨G', w.more fun c hc => pm.mem_iff.mpr hc, ?_, r⟩
  exact SlotsP.setD (sl.mono w.gs fun _ _ _ h _ => h) h1 fun p' hp' => ⟨v, rfl, ⟨r, rfl⟩, fun e => by rw [h0] at hp'; cases hp'; exact hp e⟩
theorem kp_set {T : List Nat} {δ : Sls} {Fs : List (List Addr)} {H H' : Hp} {i : Nat} {s : Sl} {f : List Addr} (hi : i ∈ T) (h : ∀ a o, a ∈ (Fs.set i []).flatten → H a = some o → (∀ ps, o ≠ .tbl ps) → H' a = some o) : Kp T δ Fs H (δ.set i s) (Fs.set i f) H' := fun j hj => by
  have ne : i ≠ j := fun e => hj (e ▸ hi)
  refine ⟨List.getElem?_set_ne ne, List.getElem?_set_ne ne, fun g e a m o ho t => h a o (mem_flat (i := j) (f := g) ?_ a m) ho t⟩
  rw [List.getElem?_set_ne ne]; exact e
theorem se_fz {x : Str} (i : Nat) (h : PE X (.Name x pos) (tVar i)) : SE X C [i] (.Name x pos) (mFz i) := by
  refine ⟨fun W tk => PE.imp h fun σ H Q ⟨G, δ, Fs, wd, tt, sl, out⟩ => ?_⟩
  unfold mFz at out
  split at out
  · rename_i p d hd
    obtain ⟨pp, y, f, h0, h1, h2, v, rfl, q, hp⟩ := SlotsP.get sl hd
    exact ⟨v, h1, out v G H Fs [] (by rw [List.append_nil]; exact Fw.refl wd) sl Kp.refl ⟨q.1, rfl⟩⟩
  · rename_i p d hd
    obtain ⟨pp, y, f, h0, h1, h2, v, rfl, q, hp⟩ := SlotsP.get sl hd
    obtain ⟨G', w, s', r⟩ := freeze_slot (p := p) wd sl h0 hp h1 h2 q
    exact ⟨v, h1, out v G' H _ [] (by rw [List.append_nil]; exact w) s' (kp_set (by simp) fun _ _ _ h _ => h) ⟨r, rfl⟩⟩
  · exact out.elim
def mMv (i : Nat) : Sls → Res DV := fun δ => match δ[i]? with
  | some (.s _ (.fr d)) => .ok (.fr d) δ
  | some (.s false (.ow d)) => .ok (.ow d) (δ.set i .un)
  | some (.s true (.ow d)) => frz i true d δ
  | _ => .bad
/-- a name read for the last time: what it owns goes on -/
theorem se_mv {x : Str} (i : Nat) (h : PE X (.Name x pos) (tVar i)) : SE X C [i] (.Name x pos) (mMv i) := by
  refine ⟨fun W tk => PE.imp h fun σ H Q ⟨G, δ, Fs, wd, tt, sl, out⟩ => ?_⟩
  unfold mMv at out
  split at out
  · rename_i p d hd
    obtain ⟨pp, y, f, h0, h1, h2, v, rfl, q, hp⟩ := SlotsP.get sl hd
    exact ⟨v, h1, out v G H Fs [] (by rw [List.append_nil]; exact Fw.refl wd) sl Kp.refl ⟨q.1, rfl⟩⟩
  · rename_i d hd
    obtain ⟨pp, y, f, h0, h1, h2, v, rfl, q, hp⟩ := SlotsP.get sl hd
    have pm := flat_perm h2
    exact ⟨v, h1, out v G H (Fs.set i []) f ((Fw.refl wd).perm (pm.trans List.perm_append_comm)) (SlotsP.setD sl h1 fun _ _ => rfl) (kp_set (by simp) fun _ _ _ h _ => h) q⟩
  · rename_i d hd
    obtain ⟨pp, y, f, h0, h1, h2, v, rfl, q, hp⟩ := SlotsP.get sl hd
    obtain ⟨G', w, s', r⟩ := freeze_slot (p := true) wd sl h0 hp h1 h2 q
    exact ⟨v, h1, out v G' H _ [] (by rw [List.append_nil]; exact w) s' (kp_set (by simp) fun _ _ _ h _ => h) ⟨r, rfl⟩⟩
  · exact out.elim

/-! ### operands -/
def mVal (f : Sls → Res DV) : Sls → Res OV := fun δ => (f δ).bind fun x δ => .ok (.val x) δ
theorem so_val {f : Sls → Res DV} (h : SE X C T e f) : SO X C T e (mVal f) := by
  refine ⟨fun W tk => PE.imp (h.run W tk) fun σ H Q ⟨G, δ, Fs, wd, tt, sl, out⟩ => ⟨G, δ, Fs, wd, tt, sl, ?_⟩⟩
  unfold mVal at out
  cases e : f δ with
  | ok x δ' => rw [e] at out; exact out
  | er c δ' => rw [e] at out; exact out
  | bad => rw [e] at out; exact out
def mAt (i : Nat) : Sls → Res OV := fun δ => match δ[i]? with
  | some (.s _ _) => .ok (.at i) δ
  | _ => .bad
theorem so_at {x : Str} (i : Nat) (h : PE X (.Name x pos) (tVar i)) : SO X C [] (.Name x pos) (mAt i) := by
  refine ⟨fun W tk => PE.imp h fun σ H Q ⟨G, δ, Fs, wd, tt, sl, out⟩ => ?_⟩
  unfold mAt at out
  split at out
  · rename_i p d hd
    obtain ⟨pp, y, f, h0, h1, h2, v, rfl, q, hp⟩ := SlotsP.get sl hd
    exact ⟨v, h1, out v G H Fs [] (by rw [List.append_nil]; exact Fw.refl wd) sl Kp.refl ⟨h1, rfl⟩⟩
  · exact out.elim

/-! ### operations -/
/-- what a new value wants -/
def Wt (C : Cb) (G H : Hp) (z : DV) (Q : VK) : Prop := ∀ v G' H' h, Fw C G H [] G' H' h → RepV C G' H' v z h → Q v H'
/-- g tells what the operation r gives -/
def Op2 (C : Cb) (r : R2) (g : DV → DV → Option DV) : Prop := ∀ (G H : Hp) (x y : V) (d e : DV) (f1 f2 : List Addr) (z : DV) (Q : VK), Wd G H [] → RepV C G H x d f1 → RepV C G H y e f2 → g d e = some z → Wt C G H z Q → r x y H Q
def Op1 (C : Cb) (r : V → Hp → VK → Prop) (g : DV → Option DV) : Prop := ∀ (G H : Hp) (x : V) (d : DV) (f : List Addr) (z : DV) (Q : VK), Wd G H [] → RepV C G H x d f → g d = some z → Wt C G H z Q → r x H Q
def fin (o : Option DV) (δ : Sls) : Res DV := match o with
  | some z => .ok z δ
  | none => .bad
def mOp2 (g : DV → DV → Option DV) (fa fb : Sls → Res OV) : Sls → Res DV := fun δ => (fa δ).bind fun a δ1 => (fb δ1).bind fun b δ2 => fin ((see δ2 a).bind fun x => (see δ2 b).bind fun y => g x y) δ2
def mOp1 (g : DV → Option DV) (fa : Sls → Res OV) : Sls → Res DV := fun δ => (fa δ).bind fun a δ1 => fin ((see δ1 a).bind fun x => g x) δ1
/-- the end of an operation: what it makes is new -/
theorem fin_out {W : WX} {σ : L2.St} {G H : Hp} {δ : Sls} {Fs : List (List Addr)} {B : List Addr} {Q : VK} {z : DV} {G' H' : Hp} {h : List Addr} {v : V} (wd : Wd G H (Fs.flatten ++ B)) (sl : Slots C G H σ δ Fs) (out : Out C rV W T σ G H δ Fs (Fs.flatten ++ B) Q (.ok z δ))
    (w : Fw C G H [] G' H' h) (r : RepV C G' H' v z h) : Q v H' := by
  have w2 := Fw.frame (B := Fs.flatten) w (by rw [List.nil_append]; exact wd.left)
  rw [List.nil_append] at w2
  refine out v G' H' Fs h ((w2.perm List.perm_append_comm).more fun c hc => List.mem_append_left _ hc) (sl.mono w.gs fun a o _ e t => w.hs a o e (by simp) t) (fun j _ => ⟨rfl, rfl, fun f e a m o e2 t => w.hs a o e2 (by simp) t⟩) r
theorem wd_nil {G H : Hp} {F : List Addr} (w : Wd G H F) : Wd G H [] := w.sub List.nodup_nil fun a h => by cases h
/-- two operands, then an operation by values -/
theorem two_out {r : R2} {g : DV → DV → Option DV} {fa fb : Sls → Res OV} (hg : Op2 C r g) {W : WX} {σ : L2.St} {H : Hp} {Q : VK} (h : tG C rV W (T ++ U) (mOp2 g fa fb) σ H Q) : tOp r (tG C rO W T fa) (tG C rO W U fb) σ H Q := by
  obtain ⟨G, δ, Fs, wd, tt, sl, out⟩ := h
  refine tG_of (P := []) (U := U) (by rw [List.append_nil]; exact wd) tt sl (k := fun a δ1 => (fb δ1).bind fun b δ2 => fin ((see δ2 a).bind fun x => (see δ2 b).bind fun y => g x y) δ2) (by rw [List.append_nil]; exact out) (fun j => List.mem_append.mpr) fun x ox δ1 G1 H1 Fs1 g1 w1 wd1 tt1 sl1 kp1 r1 _ out1 => ?_
  refine tG_of (U := []) wd1 tt1 sl1 (k := fun b δ2 => fin ((see δ2 ox).bind fun x => (see δ2 b).bind fun y => g x y) δ2) out1 (fun j h => h.elim id fun h => by cases h) fun y oy δ2 G2 H2 Fs2 g2 w2 wd2 tt2 sl2 kp2 r2 st2 out2 => ?_
  have r1' : RepO σ C G2 H2 x ox g1 := r1.mono w2.gs fun b o hb h t => st2 b o (List.mem_append_left _ hb) h t
  cases e1 : see δ2 ox with
  | none => simp only [e1, Option.bind_none] at out2; exact out2.elim
  | some dx =>
    cases e2 : see δ2 oy with
    | none => simp only [e1, e2, Option.bind_some, Option.bind_none] at out2; exact out2.elim
    | some dy =>
      simp only [e1, e2, Option.bind_some] at out2
      cases e3 : g dx dy with
      | none => rw [e3] at out2; exact out2.elim
      | some z =>
        rw [e3] at out2
        obtain ⟨f1, q1, _⟩ := r1'.see sl2 e1
        obtain ⟨f2, q2, _⟩ := r2.see sl2 e2
        exact hg G2 H2 x y dx dy f1 f2 z Q (wd_nil wd2) q1 q2 e3 fun v G' H' h w r => fin_out wd2 sl2 out2 w r
theorem one_out {r : V → Hp → VK → Prop} {g : DV → Option DV} {fa : Sls → Res OV} (hg : Op1 C r g) {W : WX} {σ : L2.St} {H : Hp} {Q : VK} (h : tG C rV W T (mOp1 g fa) σ H Q) : tUn r (tG C rO W T fa) σ H Q := by
  obtain ⟨G, δ, Fs, wd, tt, sl, out⟩ := h
  refine tG_of (P := []) (U := []) (by rw [List.append_nil]; exact wd) tt sl (k := fun a δ1 => fin ((see δ1 a).bind fun x => g x) δ1) (by rw [List.append_nil]; exact out) (fun j h => h.elim id fun h => by cases h) fun x ox δ1 G1 H1 Fs1 g1 w1 wd1 tt1 sl1 kp1 r1 _ out1 => ?_
  cases e1 : see δ1 ox with
  | none => simp only [e1, Option.bind_none] at out1; exact out1.elim
  | some dx =>
    simp only [e1, Option.bind_some] at out1
    cases e3 : g dx with
    | none => rw [e3] at out1; exact out1.elim
    | some z =>
      rw [e3] at out1
      obtain ⟨f1, q1, _⟩ := r1.see sl1 e1
      exact hg G1 H1 x dx f1 z Q (wd_nil wd1) q1 e3 fun v G' H' h w r => fin_out wd1 sl1 out1 w r
theorem se_op2 {op : Operator} {r : R2} {g : DV → DV → Option DV} {fa fb : Sls → Res OV} (ho : OpR X (binaryOp op) r) (hg : Op2 C r g) (ha : SO X C T a fa) (hb : SO X C U b fb) : SE X C (T ++ U) (.BinOp a op b pos) (mOp2 g fa fb) :=
  ⟨fun W tk => PE.imp (pe_op ho (ha.run W tk) (hb.run W tk)) fun _ _ _ => two_out hg⟩
theorem se_un {op : UnaryOp} {r : V → Hp → VK → Prop} {g : DV → Option DV} {fa : Sls → Res OV} (ho : UnR X (unaryOp op) r) (hg : Op1 C r g) (ha : SO X C T a fa) : SE X C T (.UnaryOp op a pos) (mOp1 g fa) :=
  ⟨fun W tk => PE.imp (pe_un ho (ha.run W tk)) fun _ _ _ => one_out hg⟩
theorem se_cmp {op : CmpOp} {r : R2} {g : DV → DV → Option DV} {fa fb : Sls → Res OV} (ho : OpR X (compareOp op) r) (hg : Op2 C r g) (ha : SO X C T a fa) (hb : SO X C U b fb) (hm : behindInMarks op b = false) : SE X C (T ++ U) (.Compare a [op] [b] pos) (mOp2 g fa fb) :=
  ⟨fun W tk => PE.imp (pe_cmpR ho (ha.run W tk) (hb.run W tk) hm) fun _ _ _ => two_out hg⟩
theorem se_ix {r : R2} {g : DV → DV → Option DV} {fa fb : Sls → Res OV} (hr : IxR X r) (hg : Op2 C r g) (ha : SO X C T a fa) (hb : SO X C U b fb) (hs : PlainIx b) : SE X C (T ++ U) (.Subscript a b pos) (mOp2 g fa fb) :=
  ⟨fun W tk => PE.imp (pe_ix hr (ha.run W tk) (hb.run W tk) hs) fun _ _ _ => two_out hg⟩

/-! ### tests -/
def tst (f : Sls → Res DV) : Sls → Res Bool := fun δ => (f δ).bind fun x δ => match x with
  | .fr (.bl b) => .ok b δ
  | _ => .bad
/-- an expression's True or False as a test -/
theorem tst_out {f : Sls → Res DV} {W : WX} {σ : L2.St} {H : Hp} {Q : Bool → Hp → Prop} (h : tG C rB W T (tst f) σ H Q) : tG C rV W T f σ H fun x H1 => ∃ k, x = .bl k ∧ Q k H1 := by
  obtain ⟨G, δ, Fs, wd, tt, sl, out⟩ := h
  refine ⟨G, δ, Fs, wd, tt, sl, ?_⟩
  unfold tst at out
  cases e : f δ with
  | bad => rw [e] at out; exact out
  | er c δ' => rw [e] at out; exact out
  | ok x δ' =>
    rw [e] at out
    simp only [Res.bind] at out
    split at out
    · rename_i b
      intro v G' H' Fs' g w s k r
      refine ⟨b, r.1.1, out b G' H' Fs' g w s k ⟨rfl, r.2⟩⟩
    · exact out.elim
theorem st_val {f : Sls → Res DV} (h : SE X C T e f) (he : ∀ whole, isTrue e X.env whole = (do let v ← whole; standAt e.pos; holding [v] (truthy v)) := by intro _; rfl) : ST X C T e (tst f) :=
  ⟨fun W tk => PT.imp (pt_val (h.run W tk) he) fun _ _ _ => tst_out⟩
theorem st_cmp {op : CmpOp} {r : R2} {g : DV → DV → Option DV} {fa fb : Sls → Res OV} (ho : OpR X (compareOp op) r) (hg : Op2 C r g) (ha : SO X C T a fa) (hb : SO X C U b fb) (hm : behindInMarks op b = false) : ST X C (T ++ U) (.Compare a [op] [b] pos) (tst (mOp2 g fa fb)) := by
  refine ⟨fun W tk => PT.imp (pt_cmpR ho (ha.run W tk) (hb.run W tk) hm) fun σ H Q h => ?_⟩
  have := tst_out h
  exact two_out hg this

/-- nothing is done -/
theorem tG_pure {α β : Type} {R : RepOf β α} {W : WX} {σ : L2.St} {H : Hp} {Q : β → Hp → Prop} {a : α} {x : β} (h : tG C R W T (fun δ => .ok a δ) σ H Q) (r : ∀ G, R σ C G H x a []) : Q x H := by
  obtain ⟨G, δ, Fs, wd, tt, sl, out⟩ := h
  exact out x G H Fs [] (by rw [List.append_nil]; exact Fw.refl wd) sl Kp.refl (r G)
def cond {α : Type} (fa : Sls → Res Bool) (fb fc : Sls → Res α) : Sls → Res α := fun δ => (fa δ).bind fun c δ1 => if c = true then fb δ1 else fc δ1
/-- a test, then one of two ways -/
theorem cond_out {α β : Type} {R : RepOf β α} {W : WX} {σ : L2.St} {H : Hp} {Q : β → Hp → Prop} {fa : Sls → Res Bool} {fb fc : Sls → Res α} (h : tG C R W (T ++ U) (cond fa fb fc) σ H Q) :
    tG C rB W T fa σ H fun c H1 => if c = true then tG C R W U fb σ H1 Q else tG C R W U fc σ H1 Q := by
  obtain ⟨G, δ, Fs, wd, tt, sl, out⟩ := h
  refine tG_of (P := []) (U := U) (by rw [List.append_nil]; exact wd) tt sl (k := fun c δ1 => if c = true then fb δ1 else fc δ1) (by rw [List.append_nil]; exact out) (fun j => List.mem_append.mpr) fun x c δ1 G1 H1 Fs1 g1 w1 wd1 tt1 sl1 kp1 r1 _ out1 => ?_
  obtain ⟨rfl, rfl⟩ := r1
  simp only [List.nil_append, List.append_nil] at out1 wd1
  split
  · rename_i hc
    rw [if_pos hc] at out1
    exact ⟨G1, δ1, Fs1, wd1, tt1, sl1, out1⟩
  · rename_i hc
    rw [if_neg hc] at out1
    exact ⟨G1, δ1, Fs1, wd1, tt1, sl1, out1⟩
theorem tG_imp {α β : Type} {R : RepOf β α} {W : WX} {f : Sls → Res α} {σ : L2.St} {H : Hp} {Q Q' : β → Hp → Prop} (h : tG C R W T f σ H Q) (i : ∀ x H', Q x H' → Q' x H') : tG C R W T f σ H Q' := by
  obtain ⟨G, δ, Fs, wd, tt, sl, out⟩ := h
  refine ⟨G, δ, Fs, wd, tt, sl, ?_⟩
  cases e : f δ with
  | bad => rw [e] at out; exact out
  | er c δ' => rw [e] at out; exact out
  | ok x δ' => rw [e] at out; exact fun v G' H' Fs' g w s k r => i _ _ (out v G' H' Fs' g w s k r)
theorem if_imp {c : Prop} [Decidable c] {A B A' B' : Prop} (h : if c then A else B) (ha : A → A') (hb : B → B') : if c then A' else B' := by
  split
  · rename_i hc; rw [if_pos hc] at h; exact ha h
  · rename_i hc; rw [if_neg hc] at h; exact hb h
def mT (b : Bool) : Sls → Res Bool := fun δ => .ok b δ
theorem sw_and1 {f : Sls → Res Bool} (h : ST X C T a f) : SW X C T (.BoolOp .And [a] pos) f := ⟨fun W tk => pw_and1 (h.run W tk)⟩
theorem sw_or1 {f : Sls → Res Bool} (h : ST X C T a f) : SW X C T (.BoolOp .Or [a] pos) f := ⟨fun W tk => pw_or1 (h.run W tk)⟩
theorem sw_and {rest : List Expr} {f g : Sls → Res Bool} (h : ST X C T a f) (h' : SW X C U (.BoolOp .And (b :: rest) pos) g) : SW X C (T ++ U) (.BoolOp .And (a :: b :: rest) pos) (cond f g (mT false)) :=
  ⟨fun W tk => PW.imp (pw_and (h.run W tk) (h'.run W tk)) fun σ H Q q => tG_imp (cond_out q) fun c H1 z => if_imp z id fun z => tG_pure z fun _ => ⟨rfl, rfl⟩⟩
theorem sw_or {rest : List Expr} {f g : Sls → Res Bool} (h : ST X C T a f) (h' : SW X C U (.BoolOp .Or (b :: rest) pos) g) : SW X C (T ++ U) (.BoolOp .Or (a :: b :: rest) pos) (cond f (mT true) g) :=
  ⟨fun W tk => PW.imp (pw_or (h.run W tk) (h'.run W tk)) fun σ H Q q => tG_imp (cond_out q) fun c H1 z => if_imp z (fun z => tG_pure z fun _ => ⟨rfl, rfl⟩) id⟩
theorem st_bool {f : Sls → Res Bool} (h : SW X C T e f) : ST X C T e f := ⟨fun W tk => (h.run W tk).pt⟩
def mNot (f : Sls → Res Bool) : Sls → Res Bool := cond f (mT false) (mT true)
theorem st_not {f : Sls → Res Bool} (h : ST X C T a f) : ST X C T (.UnaryOp .Not a pos) (mNot f) := by
  refine ⟨fun W tk => PT.imp (pt_not (h.run W tk)) fun σ H Q q => ?_⟩
  have q' : tG C rB W (T ++ []) (mNot f) σ H Q := by rw [List.append_nil]; exact q
  refine tG_imp (cond_out q') fun c H1 z => ?_
  cases c with
  | true => rw [if_pos rfl] at z; exact tG_pure (x := false) z fun _ => ⟨rfl, rfl⟩
  | false => rw [if_neg Bool.false_ne_true] at z; exact tG_pure (x := true) z fun _ => ⟨rfl, rfl⟩
def mB (b : Bool) : Sls → Res DV := mC (.bl b)
theorem se_not {f : Sls → Res DV} (h : SE X C T a f) : SE X C T (.UnaryOp .Not a pos) (cond (tst f) (mB false) (mB true)) := by
  refine ⟨fun W tk => PE.imp (pe_not (h.run W tk)) fun σ H Q q => ?_⟩
  have q' : tG C rV W (T ++ []) (cond (tst f) (mB false) (mB true)) σ H Q := by rw [List.append_nil]; exact q
  refine tG_imp (tst_out (cond_out q')) fun x H1 ⟨c, e, z⟩ => ⟨c, e, ?_⟩
  cases c with
  | true => rw [if_pos rfl] at z; exact tG_pure (x := .bl false) z fun _ => ⟨⟨rfl, rfl⟩, rfl⟩
  | false => rw [if_neg Bool.false_ne_true] at z; exact tG_pure (x := .bl true) z fun _ => ⟨⟨rfl, rfl⟩, rfl⟩
theorem se_one {op} {f : Sls → Res DV} (h : SE X C T a f) : SE X C T (.BoolOp op [a] pos) f := ⟨fun W tk => pe_one (h.run W tk)⟩
theorem se_and {rest : List Expr} {f g : Sls → Res DV} (h : SE X C T a f) (h' : SE X C U (.BoolOp .And (b :: rest) pos) g) : SE X C (T ++ U) (.BoolOp .And (a :: b :: rest) pos) (cond (tst f) g (mB false)) :=
  ⟨fun W tk => PE.imp (pe_and (h.run W tk) (h'.run W tk)) fun σ H Q q => tG_imp (tst_out (cond_out q)) fun x H1 ⟨c, e, z⟩ => ⟨c, e, if_imp z id fun z => tG_pure z fun _ => ⟨⟨rfl, rfl⟩, rfl⟩⟩⟩
theorem se_or {rest : List Expr} {f g : Sls → Res DV} (h : SE X C T a f) (h' : SE X C U (.BoolOp .Or (b :: rest) pos) g) : SE X C (T ++ U) (.BoolOp .Or (a :: b :: rest) pos) (cond (tst f) (mB true) g) :=
  ⟨fun W tk => PE.imp (pe_or (h.run W tk) (h'.run W tk)) fun σ H Q q => tG_imp (tst_out (cond_out q)) fun x H1 ⟨c, e, z⟩ => ⟨c, e, if_imp z (fun z => tG_pure z fun _ => ⟨⟨rfl, rfl⟩, rfl⟩) id⟩⟩
theorem se_if {c : Expr} {V' : List Nat} {fc : Sls → Res Bool} {f g : Sls → Res DV} (hc : ST X C T c fc) (ha : SE X C U a f) (hb : SE X C V' b g) : SE X C (T ++ (U ++ V')) (.IfExp c a b pos) (cond fc f g) := by
  refine ⟨fun W tk => PE.imp (pe_ifExp (hc.run W tk) (ha.run W tk) (hb.run W tk)) fun σ H Q q => tG_imp (cond_out q) fun c H1 z => if_imp z (fun z => ?_) fun z => ?_⟩
  all_goals
    obtain ⟨G, δ, Fs, wd, tt, sl, out⟩ := z
    refine ⟨G, δ, Fs, wd, tt, sl, ?_⟩
  · cases e : f δ with
    | bad => rw [e] at out; exact out
    | er c δ' => rw [e] at out; exact out
    | ok x δ' => rw [e] at out; exact fun v G' H' Fs' g w s k r => out v G' H' Fs' g w s (k.more fun j hj => List.mem_append_left _ hj) r
  · cases e : g δ with
    | bad => rw [e] at out; exact out
    | er c δ' => rw [e] at out; exact out
    | ok x δ' => rw [e] at out; exact fun v G' H' Fs' g w s k r => out v G' H' Fs' g w s (k.more fun j hj => List.mem_append_right _ hj) r

/-- a op1 b op2 c -/
def mCh (g g' : DV → DV → Option DV) (fa fb fc : Sls → Res OV) : Sls → Res DV := fun δ => (fa δ).bind fun a δ1 => (fb δ1).bind fun b δ2 =>
  match (see δ2 a).bind fun x => (see δ2 b).bind fun y => g x y with
  | some (.fr (.bl true)) => (fc δ2).bind fun c δ3 => fin ((see δ3 b).bind fun y => (see δ3 c).bind fun z => g' y z) δ3
  | some (.fr (.bl false)) => .ok (.fr (.bl false)) δ2
  | _ => .bad
theorem chain_out {V' : List Nat} {r r' : R2} {g g' : DV → DV → Option DV} {fa fb fc : Sls → Res OV} (hg : Op2 C r g) (hg' : Op2 C r' g') {W : WX} {σ : L2.St} {H : Hp} {Q : VK} (h : tG C rV W (T ++ (U ++ V')) (mCh g g' fa fb fc) σ H Q) : tChain r r' (tG C rO W T fa) (tG C rO W U fb) (tG C rO W V' fc) σ H Q := by
  obtain ⟨G, δ, Fs, wd, tt, sl, out⟩ := h
  refine tG_of (P := []) (U := U ++ V') (by rw [List.append_nil]; exact wd) tt sl (k := fun a δ1 => (fb δ1).bind fun b δ2 =>
    match (see δ2 a).bind fun x => (see δ2 b).bind fun y => g x y with
    | some (.fr (.bl true)) => (fc δ2).bind fun c δ3 => fin ((see δ3 b).bind fun y => (see δ3 c).bind fun z => g' y z) δ3
    | some (.fr (.bl false)) => .ok (.fr (.bl false)) δ2
    | _ => .bad) (by rw [List.append_nil]; exact out) (fun j => List.mem_append.mpr) fun x ox δ1 G1 H1 Fs1 g1 w1 wd1 tt1 sl1 kp1 r1 _ out1 => ?_
  refine tG_of (U := V') wd1 tt1 sl1 (k := fun b δ2 =>
    match (see δ2 ox).bind fun x => (see δ2 b).bind fun y => g x y with
    | some (.fr (.bl true)) => (fc δ2).bind fun c δ3 => fin ((see δ3 b).bind fun y => (see δ3 c).bind fun z => g' y z) δ3
    | some (.fr (.bl false)) => .ok (.fr (.bl false)) δ2
    | _ => .bad) out1 (fun j => List.mem_append.mpr) fun y oy δ2 G2 H2 Fs2 g2 w2 wd2 tt2 sl2 kp2 r2 st2 out2 => ?_
  have r1' : RepO σ C G2 H2 x ox g1 := r1.mono w2.gs fun b o hb h t => st2 b o (List.mem_append_left _ hb) h t
  cases e1 : see δ2 ox with
  | none => simp only [e1, Option.bind_none] at out2; exact out2.elim
  | some dx =>
    cases e2 : see δ2 oy with
    | none => simp only [e1, e2, Option.bind_some, Option.bind_none] at out2; exact out2.elim
    | some dy =>
      simp only [e1, e2, Option.bind_some] at out2
      obtain ⟨f1, q1, _⟩ := r1'.see sl2 e1
      obtain ⟨f2, q2, _⟩ := r2.see sl2 e2
      split at out2
      · rename_i e3
        refine hg G2 H2 x y dx dy f1 f2 _ _ (wd_nil wd2) q1 q2 e3 fun v G3 H3 h3 w3 rz => ?_
        obtain ⟨⟨rfl, _⟩, rfl⟩ := rz
        refine ⟨true, rfl, ?_⟩
        rw [if_pos rfl]
        have w4 := Fw.frame (B := Fs2.flatten ++ (g2 ++ (g1 ++ []))) w3 (by rw [List.nil_append]; exact wd2)
        rw [List.nil_append] at w4
        have keep : ∀ a o, H2 a = some o → (∀ ps, o ≠ .tbl ps) → H3 a = some o := fun a o e t => w3.hs a o e (by simp) t
        have sl3 := sl2.mono w3.gs fun a o _ e t => keep a o e t
        have kp3 : Kp [] δ2 Fs2 H2 δ2 Fs2 H3 := fun j _ => ⟨rfl, rfl, fun f e a m o e2 t => keep a o e2 t⟩
        have out3 := Out.step (U := V') out2 w4 kp3 (fun j h => h.elim (fun h => by cases h) id)
        have r2' : RepO σ C G3 H3 y oy g2 := r2.mono w3.gs fun b o _ h t => keep b o h t
        refine tG_of (U := []) w4.wd (w3.tt tt2) sl3 (k := fun c δ3 => fin ((see δ3 oy).bind fun y => (see δ3 c).bind fun z => g' y z) δ3) out3 (fun j h => h.elim id fun h => by cases h) fun z oz δ4 G4 H4 Fs4 g4 w5 wd5 tt5 sl5 kp5 r5 st5 out5 => ?_
        have r2'' : RepO σ C G4 H4 y oy g2 := r2'.mono w5.gs fun b o hb h t => st5 b o (List.mem_append_left _ hb) h t
        cases e4 : see δ4 oy with
        | none => simp only [e4, Option.bind_none] at out5; exact out5.elim
        | some dy' =>
          cases e5 : see δ4 oz with
          | none => simp only [e4, e5, Option.bind_some, Option.bind_none] at out5; exact out5.elim
          | some dz =>
            simp only [e4, e5, Option.bind_some] at out5
            cases e6 : g' dy' dz with
            | none => rw [e6] at out5; exact out5.elim
            | some zz =>
              rw [e6] at out5
              obtain ⟨f4, q4, _⟩ := r2''.see sl5 e4
              obtain ⟨f5, q5, _⟩ := r5.see sl5 e5
              exact hg' G4 H4 y z dy' dz f4 f5 zz Q (wd_nil wd5) q4 q5 e6 fun v G' H' h w r => fin_out wd5 sl5 out5 w r
      · rename_i e3
        refine hg G2 H2 x y dx dy f1 f2 _ _ (wd_nil wd2) q1 q2 e3 fun v G3 H3 h3 w3 rz => ?_
        have fo := fin_out wd2 sl2 out2 w3 rz
        obtain ⟨⟨rfl, _⟩, rfl⟩ := rz
        refine ⟨false, rfl, ?_⟩
        rw [if_neg Bool.false_ne_true]
        exact fo
      · exact out2.elim
theorem se_chain {c : Expr} {V' : List Nat} {op op' : CmpOp} {r r' : R2} {g g' : DV → DV → Option DV} {fa fb fc : Sls → Res OV} (ho : OpR X (compareOp op) r) (ho' : OpR X (compareOp op') r') (hg : Op2 C r g) (hg' : Op2 C r' g') (ha : SO X C T a fa) (hb : SO X C U b fb) (hc : SO X C V' c fc) (hm : lastMarks [op, op'] [b, c] = false := by with_unfolding_all rfl) :
    SE X C (T ++ (U ++ V')) (.Compare a [op, op'] [b, c] pos) (mCh g g' fa fb fc) := ⟨fun W tk => PE.imp (pe_chain ho ho' (ha.run W tk) (hb.run W tk) (hc.run W tk) hm) fun _ _ _ => chain_out hg hg'⟩
theorem st_chain {c : Expr} {V' : List Nat} {op op' : CmpOp} {r r' : R2} {g g' : DV → DV → Option DV} {fa fb fc : Sls → Res OV} (ho : OpR X (compareOp op) r) (ho' : OpR X (compareOp op') r') (hg : Op2 C r g) (hg' : Op2 C r' g') (ha : SO X C T a fa) (hb : SO X C U b fb) (hc : SO X C V' c fc) (hm : lastMarks [op, op'] [b, c] = false := by with_unfolding_all rfl) :
    ST X C (T ++ (U ++ V')) (.Compare a [op, op'] [b, c] pos) (tst (mCh g g' fa fb fc)) := by
  refine ⟨fun W tk => PT.imp (pt_chain ho ho' (ha.run W tk) (hb.run W tk) (hc.run W tk) hm) fun σ H Q h => ?_⟩
  exact chain_out hg hg' (tst_out h)
end
end Pv

set_option Elab.async false
set_option linter.all false
set_option maxRecDepth 100000
/-! PvD: operations on data. -/
namespace Pv
open PySem PySem.Spec L2

section
variable {C : Cb} {G H : Hp} {v : V} {x : DV} {f : List Addr}
/-! what a datum tells of its value -/
theorem dv_int {i : Int} : ∀ {x : DV}, x.d = .int i → RepV C G H v x f → v = .int i
  | .fr _, rfl, r => r.1.1
  | .ow _, rfl, r => r.1
theorem dv_bl {i : Bool} : ∀ {x : DV}, x.d = .bl i → RepV C G H v x f → v = .bl i
  | .fr _, rfl, r => r.1.1
  | .ow _, rfl, r => r.1
theorem dv_str {i : List Nat} : ∀ {x : DV}, x.d = .str i → RepV C G H v x f → v = .str (strV i)
  | .fr _, rfl, r => r.1.1
  | .ow _, rfl, r => r.1
theorem wt_sc {z : D} {v : V} {Q : VK} (wd : Wd G H []) (w : Wt C G H (.fr z) Q) (r : Rep C G H v z []) : Q v H := w v G H [] (Fw.refl wd) ⟨r, rfl⟩
theorem wt_int {z : Int} {Q : VK} (wd : Wd G H []) (w : Wt C G H (.fr (.int z)) Q) : Q (.int z) H := wt_sc wd w ⟨rfl, rfl⟩
theorem wt_bl {z : Bool} {Q : VK} (wd : Wd G H []) (w : Wt C G H (.fr (.bl z)) Q) : Q (.bl z) H := wt_sc wd w ⟨rfl, rfl⟩
theorem wt_non {Q : VK} (wd : Wd G H []) (w : Wt C G H (.fr .non) Q) : Q .non H := wt_sc wd w ⟨rfl, rfl⟩
theorem wt_str {z : List Nat} {s : Str} {Q : VK} (wd : Wd G H []) (w : Wt C G H (.fr (.str z)) Q) (e : s = strV z) : Q (.str s) H := wt_sc wd w ⟨by rw [e], rfl⟩
end

/-- the datum's D by its shape: for matches -/
def ints2 (g : Int → Int → Option D) : DV → DV → Option DV := fun x y => match x.d, y.d with
  | .int i, .int j => (g i j).map .fr
  | _, _ => none

theorem strV_app (x y : List Nat) : strV x ++ strV y = strV (x ++ y) := by
  show (⟨x.toArray ++ y.toArray⟩ : Str) = ⟨(x ++ y).toArray⟩
  simp
theorem strV_len (x : List Nat) : (strV x).length = x.length := by
  show x.toArray.size = _
  simp

/-- kids that nobody owns: the items of a list or tuple -/
def kids : DV → Option (List D)
  | .fr (.lst .fz ds) => some ds
  | .fr (.lst .own ds) => some ds
  | .ow (.lst .fz ds) => some ds
  | .ow (.lst .own ds) => some ds
  | _ => none
def kidsT : DV → Option (List D)
  | .fr (.tup ds) => some ds
  | _ => none
theorem Reps.len {C : Cb} {G H : Hp} : ∀ {vs : List V} {ds : List D} {f : List Addr}, Reps C G H vs ds f → vs.length = ds.length
  | [], [], _, _ => rfl
  | v :: vs, d :: ds, _, r => by
    simp only [Reps] at r
    obtain ⟨_, _, _, r, _⟩ := r
    simp [Reps.len r]
  | [], _ :: _, _, r => by simp only [Reps] at r
  | _ :: _, [], _, r => by simp only [Reps] at r
theorem Reps.app {C : Cb} {G H : Hp} : ∀ {vs ws : List V} {ds es : List D} {f g : List Addr}, Reps C G H vs ds f → Reps C G H ws es g → Reps C G H (vs ++ ws) (ds ++ es) (f ++ g)
  | [], _, [], _, _, _, r, q => by
    simp only [Reps] at r
    subst r
    exact q
  | v :: vs, _, d :: ds, _, _, _, r, q => by
    simp only [Reps, List.cons_append] at r ⊢
    obtain ⟨f1, f2, r1, r2, rfl⟩ := r
    exact ⟨f1, _, r1, Reps.app r2 q, by simp⟩
  | [], _, _ :: _, _, _, _, r, _ => by simp only [Reps] at r
  | _ :: _, _, [], _, _, _, r, _ => by simp only [Reps] at r
theorem Reps.nil_of {C : Cb} {G H : Hp} {f : List Addr} : Reps C G H [] [] f ↔ f = [] := by simp only [Reps]
theorem Reps.cons0 {C : Cb} {G H : Hp} {v : V} {vs : List V} {d : D} {ds : List D} : Reps C G H (v :: vs) (d :: ds) [] ↔ Rep C G H v d [] ∧ Reps C G H vs ds [] := by
  simp only [Reps]
  constructor
  · rintro ⟨f1, f2, r1, r2, e⟩
    have e' := List.append_eq_nil_iff.mp e.symm
    rw [e'.1] at r1; rw [e'.2] at r2
    exact ⟨r1, r2⟩
  · rintro ⟨r1, r2⟩
    exact ⟨[], [], r1, r2, rfl⟩
theorem Reps.get0 {C : Cb} {G H : Hp} : ∀ {vs : List V} {ds : List D} {i : Nat} {d : D}, Reps C G H vs ds [] → ds[i]? = some d → ∃ v, vs[i]? = some v ∧ Rep C G H v d []
  | v :: vs, d :: ds, 0, _, r, e => by
    simp at e; subst e
    exact ⟨v, rfl, (Reps.cons0.mp r).1⟩
  | v :: vs, d :: ds, i + 1, _, r, e => by
    obtain ⟨w, h1, h2⟩ := Reps.get0 (i := i) (Reps.cons0.mp r).2 (by simpa using e)
    exact ⟨w, by simpa using h1, h2⟩
  | [], [], _, _, _, e => by simp at e
  | [], _ :: _, _, _, r, _ => by simp only [Reps] at r
  | _ :: _, [], _, _, r, _ => by simp only [Reps] at r
theorem Reps.drop0 {C : Cb} {G H : Hp} : ∀ {vs : List V} {ds : List D} (n : Nat), Reps C G H vs ds [] → Reps C G H (vs.drop n) (ds.drop n) []
  | _, _, 0, r => r
  | v :: vs, d :: ds, n + 1, r => Reps.drop0 n (Reps.cons0.mp r).2
  | [], [], _ + 1, r => r
  | [], _ :: _, _, r => by simp only [Reps] at r
  | _ :: _, [], _, r => by simp only [Reps] at r
theorem Reps.take0 {C : Cb} {G H : Hp} : ∀ {vs : List V} {ds : List D} (n : Nat), Reps C G H vs ds [] → Reps C G H (vs.take n) (ds.take n) []
  | _, _, 0, r => Reps.nil_of.mpr rfl
  | v :: vs, d :: ds, n + 1, r => Reps.cons0.mpr ⟨(Reps.cons0.mp r).1, Reps.take0 n (Reps.cons0.mp r).2⟩
  | [], [], _ + 1, r => Reps.nil_of.mpr rfl
  | [], _ :: _, _, r => by simp only [Reps] at r
  | _ :: _, [], _, r => by simp only [Reps] at r
theorem Reps.rev0 {C : Cb} {G H : Hp} : ∀ {vs : List V} {ds : List D}, Reps C G H vs ds [] → Reps C G H vs.reverse ds.reverse []
  | [], [], r => r
  | v :: vs, d :: ds, r => by
    rw [List.reverse_cons, List.reverse_cons]
    exact Reps.app (f := []) (g := []) (Reps.rev0 (Reps.cons0.mp r).2) (Reps.cons0.mpr ⟨(Reps.cons0.mp r).1, Reps.nil_of.mpr rfl⟩)
  | [], _ :: _, r => by simp only [Reps] at r
  | _ :: _, [], r => by simp only [Reps] at r
theorem Reps.rep0 {C : Cb} {G H : Hp} {vs : List V} {ds : List D} (r : Reps C G H vs ds []) : ∀ n : Nat, Reps C G H (List.replicate n vs).flatten (List.replicate n ds).flatten []
  | 0 => Reps.nil_of.mpr rfl
  | n + 1 => by
    rw [List.replicate_succ, List.replicate_succ, List.flatten_cons, List.flatten_cons]
    exact Reps.app (f := []) (g := []) r (Reps.rep0 r n)

section
variable {C : Cb} {G H : Hp} {v : V} {x : DV} {f : List Addr} {ds : List D}
theorem kids_rep (h : kids x = some ds) (wd : Wd G H []) (r : RepV C G H v x f) : ∃ a vs, v = .ref a ∧ H a = some (.lst vs) ∧ Reps C G H vs ds [] := by
  unfold kids at h
  split at h <;> first | cases h | skip
  · obtain ⟨a, vs, e, q, rs, _⟩ := r.1
    exact ⟨a, vs, e, wd.le _ _ q, rs⟩
  · obtain ⟨a, vs, e, q, rs, z⟩ := r.1
    cases z
  · obtain ⟨a, vs, e, q, rs, _⟩ := r
    exact ⟨a, vs, e, wd.le _ _ q, rs⟩
  · obtain ⟨a, vs, e, q, rs, _⟩ := r
    exact ⟨a, vs, e, q, rs⟩
theorem kidsT_rep (h : kidsT x = some ds) (wd : Wd G H []) (r : RepV C G H v x f) : ∃ a vs, v = .ref a ∧ SqT C.K H a vs ∧ SqT C.K G a vs ∧ Reps C G H vs ds [] := by
  unfold kidsT at h
  split at h <;> first | cases h | skip
  obtain ⟨a, vs, e, q, rs⟩ := r.1
  exact ⟨a, vs, e, sqT_mono wd.le q, q, rs⟩
/-- a new list of frozen items, owned -/
theorem wt_list {vs : List V} {Q : VK} (wd : Wd G H []) (w : Wt C G H (.ow (.lst .own ds)) Q) (r : Reps C G H vs ds []) : ∀ p, H p = none → Q (.ref p) (upd H p (.lst vs)) := fun p hp => by
  refine w (.ref p) G _ [p] (Fw.new wd hp ⟨fun _ z => (by cases z), fun _ z => (by cases z)⟩) ⟨p, vs, rfl, upd_same, ?_, rfl⟩
  exact r.mono (fun _ _ h => h) fun a o m => by cases m
/-- a new tuple of frozen items -/
theorem wt_tup {vs : List V} {Q : VK} (wd : Wd G H []) (w : Wt C G H (.fr (.tup ds)) Q) (r : Reps C G H vs ds []) : ∀ p, H p = none → Q (.ref p) (upd H p (.tup vs)) := fun p hp => by
  have fw := Fw.newG (C := C) (o := .tup vs) wd hp fun _ z => by cases z
  refine w (.ref p) _ _ [] fw ⟨⟨p, vs, rfl, .of upd_same, ?_⟩, rfl⟩
  exact r.mono fw.gs fun a o m => by cases m
end

/-! ### + -/
def dAdd : DV → DV → Option DV := fun x y => match x.d, y.d with
  | .int i, .int j => some (.fr (.int (i + j)))
  | .str a, .str b => if a.length + b.length ≤ sizeLine then some (.fr (.str (a ++ b))) else none
  | .lst _ _, .lst _ _ => (kids x).bind fun a => (kids y).bind fun b => if a.length + b.length ≤ sizeLine then some (.ow (.lst .own (a ++ b))) else none
  | .tup _, .tup _ => (kidsT x).bind fun a => (kidsT y).bind fun b => if a.length + b.length ≤ sizeLine then some (.fr (.tup (a ++ b))) else none
  | _, _ => none
def rAddA (K : PySem.W.Frag) : R2 := fun x y H Q => (rI0 fun i j => .int (i + j)) x y H Q ∨ (∃ i j, x = .str i ∧ y = .str j ∧ i.length + j.length ≤ sizeLine ∧ Q (.str (i ++ j)) H) ∨ rCat x y H Q ∨ rCatA K x y H Q
theorem op_addA {X : Cx} : OpR X (binaryOp .Add) (rAddA X.K) := op_add.or (op_add_str.or (op_cat.or op_catA))
theorem iop_addS {X : Cx} : OpR X (inplaceOp .Add) (fun x y H Q => (rI0 fun i j => .int (i + j)) x y H Q ∨ (∃ i j, x = .str i ∧ y = .str j ∧ i.length + j.length ≤ sizeLine ∧ Q (.str (i ++ j)) H)) := iop_add.or iop_add_str
theorem o2_add {C : Cb} : Op2 C (rAddA C.K) dAdd := by
  intro G H x y d e f1 f2 z Q wd r1 r2 h w
  unfold dAdd at h
  split at h
  · rename_i i j e1 e2
    cases h
    exact .inl ⟨i, j, dv_int e1 r1, dv_int e2 r2, wt_int wd w⟩
  · rename_i a b e1 e2
    split at h <;> cases h
    rename_i hl
    exact .inr (.inl ⟨_, _, dv_str e1 r1, dv_str e2 r2, by rw [strV_len, strV_len]; exact hl, wt_str wd w (strV_app a b)⟩)
  · cases e1 : kids d with
    | none => rw [e1] at h; cases h
    | some as =>
      cases e2 : kids e with
      | none => rw [e1, e2] at h; cases h
      | some bs =>
        rw [e1, e2] at h
        simp only [Option.bind_some] at h
        split at h <;> cases h
        rename_i hl
        obtain ⟨p, vs, rfl, q1, rs1⟩ := kids_rep e1 wd r1
        obtain ⟨p2, ws, rfl, q2, rs2⟩ := kids_rep e2 wd r2
        exact .inr (.inr (.inl ⟨p, p2, vs, ws, rfl, rfl, q1, q2, by rw [rs1.len, rs2.len]; exact hl, wt_list wd w (Reps.app (f := []) (g := []) rs1 rs2)⟩))
  · cases e1 : kidsT d with
    | none => rw [e1] at h; cases h
    | some as =>
      cases e2 : kidsT e with
      | none => rw [e1, e2] at h; cases h
      | some bs =>
        rw [e1, e2] at h
        simp only [Option.bind_some] at h
        split at h <;> cases h
        rename_i hl
        obtain ⟨p, vs, rfl, q1, g1, rs1⟩ := kidsT_rep e1 wd r1
        obtain ⟨p2, ws, rfl, q2, g2, rs2⟩ := kidsT_rep e2 wd r2
        have rs := Reps.app (f := []) (g := []) rs1 rs2
        refine .inr (.inr (.inr ⟨p, p2, vs, ws, rfl, rfl, q1, q2, by rw [rs1.len, rs2.len]; exact hl, fun en => ?_, fun _ en => ?_, fun _ _ => wt_tup wd w rs⟩))
        · subst en
          exact wt_sc wd w ⟨p2, _, rfl, g2, rs⟩
        · subst en
          rw [List.append_nil] at rs
          exact wt_sc wd w ⟨p, _, rfl, g1, rs⟩
  · cases h

/-! ### numbers -/
def dSub : DV → DV → Option DV := ints2 fun i j => some (.int (i - j))
def small (i : Int) : Bool := decide (-(2 ^ 64) < i ∧ i < 2 ^ 64)
def okMul (i j : Int) : Bool := small i || small j || decide (i.natAbs.log2 + j.natAbs.log2 < 1000000)
def mulI : Int → Int → Option D := fun i j => if okMul i j then some (.int (i * j)) else none
def divI : Int → Int → Option D := fun i j => if 0 < j ∧ j.natAbs.log2 < 9000 then some (.int (i / j)) else none
def modI : Int → Int → Option D := fun i j => if 0 < j then some (.int (i % j)) else none
def powI : Int → Int → Option D := fun i j => if 0 ≤ j ∧ j ≤ 1000000 ∧ i.natAbs < 2 ^ 64 then some (.int (i ^ j.toNat)) else none
def rMulI : R2 := fun x y H Q => rI CMul (fun i j => .int (i * j)) x y H Q ∨ rI CMulW (fun i j => .int (i * j)) x y H Q
theorem op_mulA {X : Cx} : OpR X (binaryOp .Mult) rMulI := op_mul.or op_mulW
theorem o2_ints {C : Cb} {P : Int → Int → Prop} {g : Int → Int → V} {k : Int → Int → Option D} (h : ∀ i j d, k i j = some d → P i j ∧ ∀ G H, Rep C G H (g i j) d []) : Op2 C (rI P g) (ints2 k) := by
  intro G H x y d e f1 f2 z Q wd r1 r2 hz w
  unfold ints2 at hz
  split at hz
  · rename_i i j e1 e2
    cases hk : k i j with
    | none => rw [hk] at hz; cases hz
    | some d' =>
      rw [hk] at hz
      cases hz
      obtain ⟨p, r⟩ := h i j d' hk
      exact ⟨i, j, dv_int e1 r1, dv_int e2 r2, p, wt_sc wd w (r G H)⟩
  · cases hz
theorem o2_ints0 {C : Cb} {g : Int → Int → V} {k : Int → Int → Option D} (h : ∀ i j d, k i j = some d → ∀ G H, Rep C G H (g i j) d []) : Op2 C (rI0 g) (ints2 k) := by
  intro G H x y d e f1 f2 z Q wd r1 r2 hz w
  unfold ints2 at hz
  split at hz
  · rename_i i j e1 e2
    cases hk : k i j with
    | none => rw [hk] at hz; cases hz
    | some d' =>
      rw [hk] at hz
      cases hz
      exact ⟨i, j, dv_int e1 r1, dv_int e2 r2, wt_sc wd w (h i j d' hk G H)⟩
  · cases hz
theorem o2_sub {C : Cb} : Op2 C (rI0 fun i j => .int (i - j)) dSub := o2_ints0 fun i j d h G H => by cases h; exact ⟨rfl, rfl⟩
theorem o2_div {C : Cb} : Op2 C (rI CDivW fun i j => .int (i / j)) (ints2 divI) := o2_ints fun i j d h => by
  unfold divI at h
  split at h <;> cases h
  rename_i hc
  exact ⟨hc, fun _ _ => ⟨rfl, rfl⟩⟩
theorem o2_mod {C : Cb} : Op2 C (rI (fun _ j => 0 < j) fun i j => .int (i % j)) (ints2 modI) := o2_ints fun i j d h => by
  unfold modI at h
  split at h <;> cases h
  rename_i hc
  exact ⟨hc, fun _ _ => ⟨rfl, rfl⟩⟩
theorem o2_pow {C : Cb} : Op2 C (rI CPow fun i j => .int (i ^ j.toNat)) (ints2 powI) := o2_ints fun i j d h => by
  unfold powI at h
  split at h <;> cases h
  rename_i hc
  exact ⟨hc, fun _ _ => ⟨rfl, rfl⟩⟩
theorem okMul_of {i j : Int} (h : okMul i j = true) : CMul i j ∨ CMulW i j := by
  unfold okMul small at h
  rw [Bool.or_eq_true, Bool.or_eq_true] at h
  rcases h with (h | h) | h
  · exact .inl (.inl (of_decide_eq_true h))
  · exact .inl (.inr (of_decide_eq_true h))
  · exact .inr (show i.natAbs.log2 + j.natAbs.log2 < 1000000 from of_decide_eq_true h)
theorem o2_mulI {C : Cb} : Op2 C rMulI (ints2 mulI) := by
  intro G H x y d e f1 f2 z Q wd r1 r2 hz w
  unfold ints2 at hz
  split at hz
  · rename_i i j e1 e2
    unfold mulI at hz
    split at hz
    · rename_i hc
      cases hz
      rcases okMul_of hc with h | h
      · exact .inl ⟨i, j, dv_int e1 r1, dv_int e2 r2, h, wt_int wd w⟩
      · exact .inr ⟨i, j, dv_int e1 r1, dv_int e2 r2, h, wt_int wd w⟩
    · cases hz
  · cases hz
def dNeg : DV → Option DV := fun x => match x.d with
  | .int i => some (.fr (.int (-i)))
  | _ => none
theorem o1_neg {C : Cb} : Op1 C (rU fun i => .int (-i)) dNeg := by
  intro G H x d f z Q wd r h w
  unfold dNeg at h
  split at h
  · rename_i i e
    cases h
    exact ⟨i, dv_int e r, wt_int wd w⟩
  · cases h
def dLt := ints2 fun i j => some (.bl (decide (i < j)))
def dLe := ints2 fun i j => some (.bl (decide (i ≤ j)))
def dGt := ints2 fun i j => some (.bl (decide (j < i)))
def dGe := ints2 fun i j => some (.bl (decide (j ≤ i)))
theorem o2_lt {C : Cb} : Op2 C (rI0 fun i j => .bl (decide (i < j))) dLt := o2_ints0 fun i j d h G H => by cases h; exact ⟨rfl, rfl⟩
theorem o2_le {C : Cb} : Op2 C (rI0 fun i j => .bl (decide (i ≤ j))) dLe := o2_ints0 fun i j d h G H => by cases h; exact ⟨rfl, rfl⟩
theorem o2_gt {C : Cb} : Op2 C (rI0 fun i j => .bl (decide (j < i))) dGt := o2_ints0 fun i j d h G H => by cases h; exact ⟨rfl, rfl⟩
theorem o2_ge {C : Cb} : Op2 C (rI0 fun i j => .bl (decide (j ≤ i))) dGe := o2_ints0 fun i j d h G H => by cases h; exact ⟨rfl, rfl⟩
end Pv

set_option Elab.async false
set_option linter.all false
set_option maxRecDepth 100000
/-! PvE: ==, in, places, cuts, calls of built-ins. -/
namespace Pv
open PySem PySem.Spec L2

/-! ### data as the library has it -/
mutual
def pyd : D → Option PyData
  | .non => some .none
  | .bl b => some (.bool b)
  | .int i => some (.int i)
  | .str x => some (.str (strV x))
  | .tup ds => (pyds ds).map .tuple
  | .lst _ ds => (pyds ds).map .list
  | .dic _ _ _ => none
  | .dit _ _ _ => none
  | .obj _ _ _ _ => none
def pyds : List D → Option (List PyData)
  | [] => some []
  | d :: ds => (pyd d).bind fun p => (pyds ds).map fun ps => p :: ps
end
section
variable {C : Cb} {G H : Hp}
mutual
theorem dp_of (le : ∀ a o, G a = some o → H a = some o) : ∀ {d : D} {v : V} {f : List Addr} {p : PyData}, Rep C G H v d f → pyd d = some p → Dp C.K H v p
  | .non, _, _, _, r, e => by simp only [pyd] at e; cases e; simp only [Rep] at r; rw [r.1]; exact .non
  | .bl _, _, _, _, r, e => by simp only [pyd] at e; cases e; simp only [Rep] at r; rw [r.1]; exact .bl _
  | .int _, _, _, _, r, e => by simp only [pyd] at e; cases e; simp only [Rep] at r; rw [r.1]; exact .int _
  | .str _, _, _, _, r, e => by simp only [pyd] at e; cases e; simp only [Rep] at r; rw [r.1]; exact .str _
  | .tup ds, _, _, _, r, e => by
    simp only [Rep] at r
    simp only [pyd] at e
    obtain ⟨a, vs, rfl, q, rs⟩ := r
    cases h : pyds ds with
    | none => rw [h] at e; cases e
    | some ps =>
      rw [h] at e; cases e
      exact .tup (sqT_mono le q) (dps_of le rs h)
  | .lst o ds, _, _, _, r, e => by
    simp only [pyd] at e
    cases h : pyds ds with
    | none => rw [h] at e; cases e
    | some ps =>
      rw [h] at e; cases e
      cases o with
      | fz =>
        simp only [Rep] at r
        obtain ⟨a, vs, rfl, q, rs, _⟩ := r
        exact .lst (.of (le _ _ q)) (dps_of le rs h)
      | own =>
        simp only [Rep] at r
        obtain ⟨a, vs, rfl, q, rs, _⟩ := r
        exact .lst (.of q) (dps_of le rs h)
      | deep =>
        simp only [Rep] at r
        obtain ⟨a, vs, g, rfl, q, rs, _⟩ := r
        exact .lst (.of q) (dps_of le rs h)
      | ex =>
        simp only [Rep] at r
        obtain ⟨a, vs, rfl, q, rs, _⟩ := r
        exact .lst (sqL_mono le q) (dps_of le rs h)
  | .dic _ _ _, _, _, _, _, e => by simp only [pyd] at e; cases e
  | .dit _ _ _, _, _, _, _, e => by simp only [pyd] at e; cases e
  | .obj _ _ _ _, _, _, _, _, e => by simp only [pyd] at e; cases e
theorem dps_of (le : ∀ a o, G a = some o → H a = some o) : ∀ {ds : List D} {vs : List V} {f : List Addr} {ps : List PyData}, Reps C G H vs ds f → pyds ds = some ps → DpAll C.K H vs ps
  | [], [], _, _, _, e => by simp only [pyds] at e; cases e; exact .nil
  | [], _ :: _, _, _, r, _ => by simp only [Reps] at r
  | _ :: _, [], _, _, r, _ => by simp only [Reps] at r
  | d :: ds, v :: vs, _, _, r, e => by
    simp only [Reps] at r
    obtain ⟨f1, f2, r1, r2, _⟩ := r
    simp only [pyds] at e
    cases h : pyd d with
    | none => rw [h] at e; cases e
    | some p =>
      rw [h] at e
      simp only [Option.bind_some] at e
      cases h2 : pyds ds with
      | none => rw [h2] at e; cases e
      | some ps =>
        rw [h2] at e; cases e
        exact .cons (dp_of le r1 h) (dps_of le r2 h2)
end
end

/-- == of two data: none where it isn't told -/
def eqD : D → D → Option Bool
  | .int i, .int j => some (decide (i = j))
  | .str a, .str b => some (decide (a = b))
  | .bl a, .bl b => some (a == b)
  | .non, .non => some true
  | .non, .int _ | .int _, .non | .non, .bl _ | .bl _, .non | .non, .str _ | .str _, .non | .int _, .str _ | .str _, .int _ | .bl _, .str _ | .str _, .bl _ => some false
  | x, y => (pyd x).bind fun p => (pyd y).bind fun q => if SeqAt.shaped p && SeqAt.shaped q then some (PyData.eqv p q) else none
def dEq : DV → DV → Option DV := fun x y => (eqD x.d y.d).map fun b => .fr (.bl b)
def dNe : DV → DV → Option DV := fun x y => (eqD x.d y.d).map fun b => .fr (.bl (!b))
def rEqA (K : PySem.W.Frag) : R2 := fun x y H Q => rEq x y H Q ∨ rEqD K x y H Q
def rNeA (K : PySem.W.Frag) : R2 := fun x y H Q => rNe x y H Q ∨ rNeD K x y H Q
theorem op_eqA {X : Cx} (hu : X.A.units + 64 < cLine) : OpR X (compareOp .Eq) (rEqA X.K) := op_eq.or (op_eqD hu)
theorem op_neA {X : Cx} (hu : X.A.units + 64 < cLine) : OpR X (compareOp .NotEq) (rNeA X.K) := op_ne.or (op_neD hu)
theorem strV_inj {a b : List Nat} : strV a = strV b ↔ a = b := by
  constructor
  · intro h
    have : a.toArray = b.toArray := congrArg Str.cps h
    simpa using this
  · intro h; rw [h]
theorem eqD_sound {C : Cb} {G H : Hp} {x y : V} {d e : D} {f1 f2 : List Addr} {b : Bool} (wd : Wd G H []) (r1 : Rep C G H x d f1) (r2 : Rep C G H y e f2) (h : eqD d e = some b) :
    (scal x y = true ∧ decide (x = y) = b) ∨ ∃ p q, Dp C.K H x p ∧ Dp C.K H y q ∧ SeqAt.shaped p = true ∧ SeqAt.shaped q = true ∧ PyData.eqv p q = b := by
  unfold eqD at h
  split at h
  case h_1 => simp only [Rep] at r1 r2; rw [r1.1, r2.1]; cases h; exact .inl ⟨rfl, by simp⟩
  case h_2 => simp only [Rep] at r1 r2; rw [r1.1, r2.1]; cases h; refine .inl ⟨rfl, ?_⟩; simp only [V.str.injEq, strV_inj]
  case h_3 a b' => simp only [Rep] at r1 r2; rw [r1.1, r2.1]; cases h; refine .inl ⟨rfl, ?_⟩; cases a <;> cases b' <;> rfl
  case h_4 => simp only [Rep] at r1 r2; rw [r1.1, r2.1]; cases h; exact .inl ⟨rfl, rfl⟩
  case h_15 =>
    cases h1 : pyd d with
    | none => rw [h1] at h; cases h
    | some p =>
      cases h2 : pyd e with
      | none => rw [h1, h2] at h; cases h
      | some q =>
        rw [h1, h2] at h
        simp only [Option.bind_some] at h
        split at h <;> cases h
        rename_i hc
        rw [Bool.and_eq_true] at hc
        exact .inr ⟨p, q, dp_of wd.le r1 h1, dp_of wd.le r2 h2, hc.1, hc.2, rfl⟩
  all_goals (simp only [Rep] at r1 r2; rw [r1.1, r2.1]; cases h; exact .inl ⟨rfl, rfl⟩)
theorem o2_eq {C : Cb} : Op2 C (rEqA C.K) dEq := by
  intro G H x y d e f1 f2 z Q wd r1 r2 hz w
  unfold dEq at hz
  cases h : eqD d.d e.d with
  | none => rw [h] at hz; cases hz
  | some b =>
    rw [h] at hz; cases hz
    rcases eqD_sound wd r1.d r2.d h with ⟨h1, h2⟩ | ⟨p, q, h1, h2, h3, h4, h5⟩
    · exact .inl ⟨h1, by rw [h2]; exact wt_bl wd w⟩
    · exact .inr ⟨p, q, h1, h2, h3, h4, by rw [h5]; exact wt_bl wd w⟩
theorem o2_ne {C : Cb} : Op2 C (rNeA C.K) dNe := by
  intro G H x y d e f1 f2 z Q wd r1 r2 hz w
  unfold dNe at hz
  cases h : eqD d.d e.d with
  | none => rw [h] at hz; cases hz
  | some b =>
    rw [h] at hz; cases hz
    rcases eqD_sound wd r1.d r2.d h with ⟨h1, h2⟩ | ⟨p, q, h1, h2, h3, h4, h5⟩
    · exact .inl ⟨h1, by rw [h2]; exact wt_bl wd w⟩
    · exact .inr ⟨p, q, h1, h2, h3, h4, by rw [h5]; exact wt_bl wd w⟩

/-! ### in -/
def flatD : D → Option V
  | .non => some .non
  | .bl b => some (.bl b)
  | .int i => some (.int i)
  | .str x => some (.str (strV x))
  | _ => none
def flatDs : List D → Option (List V)
  | [] => some []
  | d :: ds => (flatD d).bind fun v => (flatDs ds).map fun vs => v :: vs
theorem flat_rep {C : Cb} {G H : Hp} {d : D} {v w : V} {f : List Addr} (r : Rep C G H v d f) (h : flatD d = some w) : v = w ∧ flatV w = true := by
  unfold flatD at h
  split at h <;> first | cases h | skip
  all_goals (simp only [Rep] at r; exact ⟨r.1, rfl⟩)
theorem flats_rep {C : Cb} {G H : Hp} : ∀ {ds : List D} {vs ws : List V} {f : List Addr}, Reps C G H vs ds f → flatDs ds = some ws → vs = ws ∧ ws.all flatV = true
  | [], [], _, _, _, h => by simp only [flatDs] at h; cases h; exact ⟨rfl, rfl⟩
  | [], _ :: _, _, _, r, _ => by simp only [Reps] at r
  | _ :: _, [], _, _, r, _ => by simp only [Reps] at r
  | d :: ds, v :: vs, _, _, r, h => by
    simp only [Reps] at r
    obtain ⟨f1, f2, r1, r2, _⟩ := r
    simp only [flatDs] at h
    cases e1 : flatD d with
    | none => rw [e1] at h; cases h
    | some w =>
      rw [e1] at h
      simp only [Option.bind_some] at h
      cases e2 : flatDs ds with
      | none => rw [e2] at h; cases h
      | some ws =>
        rw [e2] at h; cases h
        obtain ⟨rfl, a1⟩ := flat_rep r1 e1
        obtain ⟨rfl, a2⟩ := flats_rep r2 e2
        exact ⟨rfl, by rw [List.all_cons, a1, a2]; rfl⟩
/-- items of a list or tuple, for looking alone -/
def items : D → Option (List D)
  | .lst _ ds => some ds
  | .tup ds => some ds
  | _ => none
theorem items_rep {C : Cb} {G H : Hp} {v : V} {f : List Addr} {ds : List D} (wd : Wd G H []) : ∀ {d : D}, Rep C G H v d f → items d = some ds → ∃ a vs g, v = .ref a ∧ (SqL C.K H a vs ∨ SqT C.K H a vs) ∧ Reps C G H vs ds g
  | .lst .fz _, r, h => by
    simp only [items] at h; cases h
    simp only [Rep] at r
    obtain ⟨a, vs, rfl, q, rs, _⟩ := r
    exact ⟨a, vs, _, rfl, .inl (.of (wd.le _ _ q)), rs⟩
  | .lst .own _, r, h => by
    simp only [items] at h; cases h
    simp only [Rep] at r
    obtain ⟨a, vs, rfl, q, rs, _⟩ := r
    exact ⟨a, vs, _, rfl, .inl (.of q), rs⟩
  | .lst .deep _, r, h => by
    simp only [items] at h; cases h
    simp only [Rep] at r
    obtain ⟨a, vs, g, rfl, q, rs, _⟩ := r
    exact ⟨a, vs, _, rfl, .inl (.of q), rs⟩
  | .lst .ex _, r, h => by
    simp only [items] at h; cases h
    simp only [Rep] at r
    obtain ⟨a, vs, rfl, q, rs, _⟩ := r
    exact ⟨a, vs, _, rfl, .inl (sqL_mono wd.le q), rs⟩
  | .tup _, r, h => by
    simp only [items] at h; cases h
    simp only [Rep] at r
    obtain ⟨a, vs, rfl, q, rs⟩ := r
    exact ⟨a, vs, _, rfl, .inr (sqT_mono wd.le q), rs⟩
  | .non, _, h => by simp only [items] at h; cases h
  | .bl _, _, h => by simp only [items] at h; cases h
  | .int _, _, h => by simp only [items] at h; cases h
  | .str _, _, h => by simp only [items] at h; cases h
  | .dic _ _ _, _, h => by simp only [items] at h; cases h
  | .dit _ _ _, _, h => by simp only [items] at h; cases h
  | .obj _ _ _ _, _, h => by simp only [items] at h; cases h
def inD : D → D → Option Bool
  | .str [c], .str b => some (decide (c ∈ b))
  | .str a, .str b => some (!(Builtin.Str.occurrences (strV b) (strV a) 0 (strV b).length 1).isEmpty)
  | x, y => (items y).bind fun ds => (flatD x).bind fun v => (flatDs ds).map fun vs => inV v vs
def dIn : DV → DV → Option DV := fun x y => (inD x.d y.d).map fun b => .fr (.bl b)
def dNotIn : DV → DV → Option DV := fun x y => (inD x.d y.d).map fun b => .fr (.bl (!b))
def rInA (K : PySem.W.Frag) : R2 := fun x y H Q => (∃ (c : Nat) (z : Str), x = .str ⟨#[c]⟩ ∧ y = .str z ∧ Q (.bl (decide (c ∈ z.cps.toList))) H) ∨
  (∃ i j, x = .str i ∧ y = .str j ∧ Q (.bl (!(Builtin.Str.occurrences j i 0 j.length 1).isEmpty)) H) ∨ rIn K false x y H Q
def rNotInA (K : PySem.W.Frag) : R2 := fun x y H Q => (∃ (c : Nat) (z : Str), x = .str ⟨#[c]⟩ ∧ y = .str z ∧ Q (.bl (!decide (c ∈ z.cps.toList))) H) ∨
  (∃ i j, x = .str i ∧ y = .str j ∧ Q (.bl (!(!(Builtin.Str.occurrences j i 0 j.length 1).isEmpty))) H) ∨ rIn K true x y H Q
theorem op_inA {X : Cx} : OpR X (compareOp .In) (rInA X.K) := op_in_sign.or (op_in_str.or op_in_seq)
theorem op_notInA {X : Cx} : OpR X (compareOp .NotIn) (rNotInA X.K) := op_notIn_sign.or (op_notIn_str.or op_notIn_seq)
theorem inD_sound {C : Cb} {G H : Hp} {x y : V} {d e : D} {f1 f2 : List Addr} {b : Bool} (wd : Wd G H []) (r1 : Rep C G H x d f1) (r2 : Rep C G H y e f2) (h : inD d e = some b) :
    (∃ (c : Nat) (z : Str), x = .str ⟨#[c]⟩ ∧ y = .str z ∧ decide (c ∈ z.cps.toList) = b) ∨ (∃ i j, x = .str i ∧ y = .str j ∧ (!(Builtin.Str.occurrences j i 0 j.length 1).isEmpty) = b) ∨
      ∃ p xs, y = .ref p ∧ (SqL C.K H p xs ∨ SqT C.K H p xs) ∧ flatV x = true ∧ xs.all flatV = true ∧ inV x xs = b := by
  unfold inD at h
  split at h
  · simp only [Rep] at r1 r2
    cases h
    exact .inl ⟨_, _, r1.1, r2.1, decide_eq_decide.mpr (by simp [strV])⟩
  · simp only [Rep] at r1 r2
    cases h
    exact .inr (.inl ⟨_, _, r1.1, r2.1, rfl⟩)
  · cases e1 : items e with
    | none => rw [e1] at h; cases h
    | some ds =>
      cases e2 : flatD d with
      | none => rw [e1, e2] at h; cases h
      | some v =>
        cases e3 : flatDs ds with
        | none => simp only [e1, e2, e3, Option.bind_some, Option.map_none] at h; cases h
        | some vs =>
          simp only [e1, e2, e3, Option.bind_some, Option.map_some] at h
          cases h
          obtain ⟨a, ws, g, rfl, q, rs⟩ := items_rep wd r2 e1
          obtain ⟨rfl, hf⟩ := flat_rep r1 e2
          obtain ⟨rfl, hs⟩ := flats_rep rs e3
          exact .inr (.inr ⟨a, _, rfl, q, hf, hs, rfl⟩)
theorem o2_in {C : Cb} : Op2 C (rInA C.K) dIn := by
  intro G H x y d e f1 f2 z Q wd r1 r2 hz w
  unfold dIn at hz
  cases h : inD d.d e.d with
  | none => rw [h] at hz; cases hz
  | some b =>
    rw [h] at hz; cases hz
    rcases inD_sound wd r1.d r2.d h with ⟨c, z, h1, h2, h3⟩ | ⟨i, j, h1, h2, h3⟩ | ⟨p, xs, h1, h2, h3, h4, h5⟩
    · exact .inl ⟨c, z, h1, h2, by rw [h3]; exact wt_bl wd w⟩
    · exact .inr (.inl ⟨i, j, h1, h2, by rw [h3]; exact wt_bl wd w⟩)
    · exact .inr (.inr ⟨p, xs, h1, h2, h3, h4, by rw [if_neg Bool.false_ne_true, h5]; exact wt_bl wd w⟩)
theorem o2_notIn {C : Cb} : Op2 C (rNotInA C.K) dNotIn := by
  intro G H x y d e f1 f2 z Q wd r1 r2 hz w
  unfold dNotIn at hz
  cases h : inD d.d e.d with
  | none => rw [h] at hz; cases hz
  | some b =>
    rw [h] at hz; cases hz
    rcases inD_sound wd r1.d r2.d h with ⟨c, z, h1, h2, h3⟩ | ⟨i, j, h1, h2, h3⟩ | ⟨p, xs, h1, h2, h3, h4, h5⟩
    · exact .inl ⟨c, z, h1, h2, by rw [h3]; exact wt_bl wd w⟩
    · exact .inr (.inl ⟨i, j, h1, h2, by rw [h3]; exact wt_bl wd w⟩)
    · exact .inr (.inr ⟨p, xs, h1, h2, h3, h4, by rw [if_pos rfl, h5]; exact wt_bl wd w⟩)

/-! ### places -/
/-- frozen items: list (also outside ones), tuple -/
def kidsL : DV → Option (List D)
  | .fr (.lst .ex ds) => some ds
  | .ow (.lst .ex ds) => some ds
  | x => kids x
theorem kidsL_rep {C : Cb} {G H : Hp} {x : DV} {v : V} {f : List Addr} {ds : List D} (h : kidsL x = some ds) (wd : Wd G H []) (r : RepV C G H v x f) : ∃ a vs, v = .ref a ∧ SqL C.K H a vs ∧ Reps C G H vs ds [] := by
  unfold kidsL at h
  split at h
  · cases h
    obtain ⟨a, vs, e, q, rs, _⟩ := r.1
    exact ⟨a, vs, e, sqL_mono wd.le q, rs⟩
  · cases h
    obtain ⟨a, vs, e, q, rs, _⟩ := r
    exact ⟨a, vs, e, sqL_mono wd.le q, rs⟩
  · obtain ⟨a, vs, e, q, rs⟩ := kids_rep h wd r
    exact ⟨a, vs, e, .of q, rs⟩
def dIx : DV → DV → Option DV := fun x y => match x.d, y.d with
  | .str s, .int i => if s.length ≤ sizeLine then (atI s i).map fun c => .fr (.str [c]) else none
  | .lst _ _, .int i => (kidsL x).bind fun ds => (atI ds i).map .fr
  | .tup _, .int i => (kidsT x).bind fun ds => (atI ds i).map .fr
  | _, _ => none
theorem at_rep {C : Cb} {G H : Hp} {vs : List V} {ds : List D} {i : Int} {d : D} (r : Reps C G H vs ds []) (h : atI ds i = some d) : ∃ v, atI vs i = some v ∧ Rep C G H v d [] := by
  unfold atI at h ⊢
  rw [r.len]
  cases e : ixN ds.length i with
  | none => rw [e] at h; cases h
  | some j =>
    rw [e] at h
    simp only [Option.bind_some] at h ⊢
    exact r.get0 h
theorem o2_ix {C : Cb} : Op2 C (rIx C.K) dIx := by
  intro G H x y d e f1 f2 z Q wd r1 r2 h w
  unfold dIx at h
  split at h
  · rename_i s i e1 e2
    split at h
    · rename_i hl
      cases hc : atI s i with
      | none => rw [hc] at h; cases h
      | some c =>
        rw [hc] at h; cases h
        refine .inr (.inr ⟨_, i, c, dv_str e1 r1, dv_int e2 r2, by rw [strV_len]; exact hl, by simpa [strV] using hc, wt_str wd w (by simp [strV])⟩)
    · cases h
  · rename_i i e1 e2
    cases hk : kidsL d with
    | none => rw [hk] at h; cases h
    | some ds =>
      rw [hk] at h
      simp only [Option.bind_some] at h
      cases hc : atI ds i with
      | none => rw [hc] at h; cases h
      | some c =>
        rw [hc] at h; cases h
        obtain ⟨a, vs, rfl, q, rs⟩ := kidsL_rep hk wd r1
        obtain ⟨v, hv, rv⟩ := at_rep rs hc
        exact .inl ⟨a, vs, i, v, rfl, dv_int e2 r2, q, hv, wt_sc wd w rv⟩
  · rename_i i e1 e2
    cases hk : kidsT d with
    | none => rw [hk] at h; cases h
    | some ds =>
      rw [hk] at h
      simp only [Option.bind_some] at h
      cases hc : atI ds i with
      | none => rw [hc] at h; cases h
      | some c =>
        rw [hc] at h; cases h
        obtain ⟨a, vs, rfl, q, _, rs⟩ := kidsT_rep hk wd r1
        obtain ⟨v, hv, rv⟩ := at_rep rs hc
        exact .inr (.inl ⟨a, vs, i, v, rfl, dv_int e2 r2, q, hv, wt_sc wd w rv⟩)
  · cases h
end Pv

set_option Elab.async false
set_option linter.all false
set_option maxRecDepth 100000
/-! PvF: argument lists, displays, calls of built-ins, cuts. -/
namespace Pv
open PySem PySem.Spec L2

section
variable {X : Cx} {C : Cc} {T U : List Nat} {e a b : Expr} {es : List Expr} {pos : Pos}
/-! ### argument lists -/
def mNil : Sls → Res (List OV) := fun δ => .ok [] δ
def mCons (fo : Sls → Res OV) (fs : Sls → Res (List OV)) : Sls → Res (List OV) := fun δ => (fo δ).bind fun a δ1 => (fs δ1).bind fun as δ2 => .ok (a :: as) δ2
theorem sa_nil : SA X C [] [] mNil := ⟨fun W tk => PA.imp pa_nil fun σ H Q h => tG_pure (x := []) h fun _ => rfl⟩
theorem sa_cons {fo : Sls → Res OV} {fs : Sls → Res (List OV)} (ha : SO X C T e fo) (hr : SA X C U es fs) (hs : starEach (e :: es) X.env = (false, eval e X.env) :: starEach es X.env := by rfl) : SA X C (T ++ U) (e :: es) (mCons fo fs) := by
  refine ⟨fun W tk => PA.imp (pa_cons (ha.run W tk) (hr.run W tk) hs) fun σ H Q ⟨G, δ, Fs, wd, tt, sl, out⟩ => ?_⟩
  refine tG_of (P := []) (U := U) (by rw [List.append_nil]; exact wd) tt sl (k := fun a δ1 => (fs δ1).bind fun as δ2 => .ok (a :: as) δ2) (by rw [List.append_nil]; exact out) (fun j => List.mem_append.mpr) fun x ox δ1 G1 H1 Fs1 g1 w1 wd1 tt1 sl1 kp1 r1 _ out1 => ?_
  refine tG_of (U := []) wd1 tt1 sl1 (k := fun as δ2 => .ok (ox :: as) δ2) out1 (fun j h => h.elim id fun h => by cases h) fun ys oys δ2 G2 H2 Fs2 g2 w2 wd2 tt2 sl2 kp2 r2 st2 out2 => ?_
  have r1' : RepO σ C G2 H2 x ox g1 := r1.mono w2.gs fun b o hb h t => st2 b o (List.mem_append_left _ hb) h t
  have pm : (Fs2.flatten ++ (g2 ++ (g1 ++ []))).Perm (Fs2.flatten ++ (g1 ++ g2)) := by
    rw [List.append_nil]
    exact List.Perm.append_left _ List.perm_append_comm
  exact out2 (x :: ys) G2 H2 Fs2 (g1 ++ g2) ((Fw.refl wd2).perm pm) sl2 Kp.refl ⟨g1, g2, r1', r2, rfl⟩
def sees (δ : Sls) : List OV → Option (List DV)
  | [] => some []
  | o :: os => (see δ o).bind fun x => (sees δ os).map fun xs => x :: xs
/-- each stands for its datum -/
def RepX (C : Cb) (G H : Hp) : List V → List DV → Prop
  | [], [] => True
  | v :: vs, x :: xs => (∃ f, RepV C G H v x f) ∧ RepX C G H vs xs
  | _, _ => False
theorem RepOs.sees {σ : L2.St} {G H : Hp} {δ : Sls} {Fs : List (List Addr)} (s : Slots C G H σ δ Fs) : ∀ {vs : List V} {os : List OV} {g : List Addr} {xs : List DV}, RepOs σ C G H vs os g → Pv.sees δ os = some xs → RepX C G H vs xs
  | [], [], _, _, _, h => by simp only [Pv.sees] at h; cases h; trivial
  | v :: vs, o :: os, _, _, r, h => by
    obtain ⟨f1, f2, r1, r2, _⟩ := r
    simp only [Pv.sees] at h
    cases e1 : see δ o with
    | none => rw [e1] at h; cases h
    | some x =>
      cases e2 : Pv.sees δ os with
      | none => rw [e1, e2] at h; cases h
      | some xs =>
        rw [e1, e2] at h; cases h
        obtain ⟨f, q, _⟩ := r1.see s e1
        exact ⟨⟨f, q⟩, RepOs.sees s r2 e2⟩
  | [], _ :: _, _, _, r, _ => r.elim
  | _ :: _, [], _, _, r, _ => r.elim
def OpN (C : Cb) (r : List V → Hp → VK → Prop) (g : List DV → Option DV) : Prop := ∀ (G H : Hp) (vs : List V) (xs : List DV) (z : DV) (Q : VK), Wd G H [] → RepX C G H vs xs → g xs = some z → Wt C G H z Q → r vs H Q
def mCallN (g : List DV → Option DV) (fs : Sls → Res (List OV)) : Sls → Res DV := fun δ => (fs δ).bind fun as δ1 => fin ((sees δ1 as).bind g) δ1
theorem callN_out {r : List V → Hp → VK → Prop} {g : List DV → Option DV} {fs : Sls → Res (List OV)} (hg : OpN C r g) {W : WX} {σ : L2.St} {H : Hp} {Q : VK} (h : tG C rV W T (mCallN g fs) σ H Q) : tCB r (tG C rOs W T fs) σ H Q := by
  obtain ⟨G, δ, Fs, wd, tt, sl, out⟩ := h
  refine tG_of (P := []) (U := []) (by rw [List.append_nil]; exact wd) tt sl (k := fun as δ1 => fin ((sees δ1 as).bind g) δ1) (by rw [List.append_nil]; exact out) (fun j h => h.elim id fun h => by cases h) fun vs os δ1 G1 H1 Fs1 g1 w1 wd1 tt1 sl1 kp1 r1 _ out1 => ?_
  cases e1 : sees δ1 os with
  | none => simp only [e1, Option.bind_none] at out1; exact out1.elim
  | some xs =>
    simp only [e1, Option.bind_some] at out1
    cases e3 : g xs with
    | none => rw [e3] at out1; exact out1.elim
    | some z =>
      rw [e3] at out1
      exact hg G1 H1 vs xs z Q (wd_nil wd1) (r1.sees sl1 e1) e3 fun v G' H' h w r => fin_out wd1 sl1 out1 w r
/-- a call of a built-in: h by pe_callB, pe_callTy -/
theorem se_callN {r : List V → Hp → VK → Prop} {g : List DV → Option DV} {fs : Sls → Res (List OV)} (hg : OpN C r g) (h : ∀ W, Takes X W → PE X e (tCB r (tG C rOs W T fs))) : SE X C T e (mCallN g fs) :=
  ⟨fun W tk => PE.imp (h W tk) fun _ _ _ => callN_out hg⟩

/-! ### displays -/
def vals : List OV → Option (List DV)
  | [] => some []
  | .val x :: os => (vals os).map fun xs => x :: xs
  | _ :: _ => none
theorem RepOs.vals {σ : L2.St} {G H : Hp} : ∀ {vs : List V} {os : List OV} {g : List Addr} {xs : List DV}, RepOs σ C G H vs os g → Pv.vals os = some xs → RepVs C G H vs xs g
  | [], [], _, _, r, h => by simp only [Pv.vals] at h; cases h; exact r
  | v :: vs, .val x :: os, _, _, r, h => by
    obtain ⟨f1, f2, r1, r2, rfl⟩ := r
    simp only [Pv.vals] at h
    cases e2 : Pv.vals os with
    | none => rw [e2] at h; cases h
    | some xs =>
      rw [e2] at h; cases h
      exact ⟨f1, f2, r1, RepOs.vals r2 e2, rfl⟩
  | _ :: _, .at _ :: _, _, _, _, h => by simp only [Pv.vals] at h; cases h
  | [], _ :: _, _, _, r, _ => r.elim
  | _ :: _, [], _, _, r, _ => r.elim
def allFr : List DV → Bool
  | [] => true
  | .fr _ :: r => allFr r
  | .ow _ :: _ => false
def ds (xs : List DV) : List D := xs.map DV.d
theorem RepVs.frs {G H : Hp} : ∀ {vs : List V} {xs : List DV} {g : List Addr}, RepVs C G H vs xs g → allFr xs = true → Reps C G H vs (ds xs) [] ∧ g = []
  | [], [], _, r, _ => ⟨Reps.nil_of.mpr rfl, r⟩
  | v :: vs, .fr d :: xs, _, r, h => by
    obtain ⟨f1, f2, r1, r2, rfl⟩ := r
    obtain ⟨q1, q2⟩ := RepVs.frs r2 h
    exact ⟨Reps.cons0.mpr ⟨r1.1, q1⟩, by rw [r1.2, q2]; rfl⟩
  | _ :: _, .ow _ :: _, _, _, h => by simp only [allFr] at h; cases h
  | [], _ :: _, _, r, _ => r.elim
  | _ :: _, [], _, r, _ => r.elim
theorem RepVs.reps {G H : Hp} : ∀ {vs : List V} {xs : List DV} {g : List Addr}, RepVs C G H vs xs g → Reps C G H vs (ds xs) g
  | [], [], _, r => Reps.nil_of.mpr r
  | v :: vs, x :: xs, _, r => by
    obtain ⟨f1, f2, r1, r2, rfl⟩ := r
    show Reps C G H (v :: vs) (x.d :: ds xs) _
    simp only [Reps]
    exact ⟨f1, f2, r1.d, RepVs.reps r2, rfl⟩
  | [], _ :: _, _, r => r.elim
  | _ :: _, [], _, r => r.elim
theorem RepVs.len {G H : Hp} {vs : List V} {xs : List DV} {g : List Addr} (r : RepVs C G H vs xs g) : vs.length = xs.length := by
  have := r.reps.len
  rw [this]; exact List.length_map ..
def mkT (xs : List DV) : DV := if allFr xs = true then .fr (.tup (ds xs)) else .ow (.tup (ds xs))
def mkL (xs : List DV) : DV := if allFr xs = true then .ow (.lst .own (ds xs)) else .ow (.lst .deep (ds xs))
def mDisp (mk : List DV → DV) (fs : Sls → Res (List OV)) : Sls → Res DV := fun δ => (fs δ).bind fun as δ1 => fin ((vals as).bind fun xs => if xs.length ≤ sizeLine then some (mk xs) else none) δ1
/-- the end of what takes in what is pending -/
theorem fin_out2 {W : WX} {σ : L2.St} {G H : Hp} {δ : Sls} {Fs : List (List Addr)} {B g : List Addr} {Q : VK} {z : DV} {G' H' : Hp} {h : List Addr} {v : V} (wd : Wd G H (Fs.flatten ++ (g ++ B))) (sl : Slots C G H σ δ Fs) (out : Out C rV W T σ G H δ Fs (Fs.flatten ++ (g ++ B)) Q (.ok z δ))
    (w : Fw C G H [] G' H' h) (r : RepV C G' H' v z (h ++ g)) : Q v H' := by
  have w2 := Fw.frame (B := Fs.flatten ++ (g ++ B)) w (by rw [List.nil_append]; exact wd)
  rw [List.nil_append] at w2
  have w3 : Fw C G H (Fs.flatten ++ (g ++ B)) G' H' (Fs.flatten ++ (h ++ g)) := by
    have pm : (h ++ (Fs.flatten ++ (g ++ B))).Perm ((Fs.flatten ++ (h ++ g)) ++ B) := by
      rw [← List.append_assoc, ← List.append_assoc, ← List.append_assoc]
      refine List.Perm.append_right _ ?_
      exact List.Perm.append_right _ List.perm_append_comm
    exact (w2.perm pm).left
  exact out v G' H' Fs (h ++ g) w3 (sl.mono w.gs fun a o _ e t => w.hs a o e (by simp) t) (fun j _ => ⟨rfl, rfl, fun f e a m o e2 t => w.hs a o e2 (by simp) t⟩) r
theorem disp_out {mk : List DV → DV} {fs : Sls → Res (List OV)} {W : WX} {σ : L2.St} {H : Hp} {Q : VK} {K : List V → Hp → Prop} (h : tG C rV W T (mDisp mk fs) σ H Q)
    (hk : ∀ G1 H1 vs xs g, Wd G1 H1 [] → RepVs C G1 H1 vs xs g → vs.length ≤ sizeLine → (∀ v G' H' h, Fw C G1 H1 [] G' H' h → RepV C G' H' v (mk xs) (h ++ g) → Q v H') → K vs H1) : tG C rOs W T fs σ H K := by
  obtain ⟨G, δ, Fs, wd, tt, sl, out⟩ := h
  refine tG_of (P := []) (U := []) (by rw [List.append_nil]; exact wd) tt sl (k := fun as δ1 => fin ((vals as).bind fun xs => if xs.length ≤ sizeLine then some (mk xs) else none) δ1) (by rw [List.append_nil]; exact out) (fun j h => h.elim id fun h => by cases h) fun vs os δ1 G1 H1 Fs1 g1 w1 wd1 tt1 sl1 kp1 r1 _ out1 => ?_
  cases e1 : vals os with
  | none => simp only [e1, Option.bind_none] at out1; exact out1.elim
  | some xs =>
    simp only [e1, Option.bind_some] at out1
    split at out1
    · rename_i hl
      have rv := r1.vals e1
      exact hk G1 H1 vs xs g1 (wd_nil wd1) rv (by rw [rv.len]; exact hl) fun v G' H' h w r => fin_out2 wd1 sl1 out1 w r
    · exact out1.elim
theorem se_tup {x1} {fs : Sls → Res (List OV)} (h : SA X C T es fs) : SE X C T (.Tuple es x1 pos) (mDisp mkT fs) := by
  refine ⟨fun W tk => PE.imp (pe_tup (h.run W tk)) fun σ H Q q => disp_out q fun G1 H1 vs xs g wd rv hl k => ⟨hl, fun p hp => ?_⟩⟩
  have fw := Fw.newG (C := C) (o := .tup vs) wd hp fun _ z => by cases z
  refine k (.ref p) _ _ [] fw ?_
  unfold mkT
  split
  · rename_i ha
    obtain ⟨q1, rfl⟩ := rv.frs ha
    exact ⟨⟨p, vs, rfl, .of upd_same, q1.mono fw.gs fun a o m => by cases m⟩, rfl⟩
  · exact ⟨p, vs, rfl, .of upd_same, rv.reps.mono fw.gs fun a o m e t => fw.hs a o e (by simp) t⟩
theorem se_lst {fs : Sls → Res (List OV)} (h : SA X C T es fs) : SE X C T (.List es pos) (mDisp mkL fs) := by
  refine ⟨fun W tk => PE.imp (pe_lst (h.run W tk)) fun σ H Q q => disp_out q fun G1 H1 vs xs g wd rv hl k => ⟨hl, fun p hp => ?_⟩⟩
  have fw := Fw.new (C := C) (o := .lst vs) wd hp ⟨fun _ z => (by cases z), fun _ z => (by cases z)⟩
  refine k (.ref p) _ _ [p] fw ?_
  unfold mkL
  split
  · rename_i ha
    obtain ⟨q1, rfl⟩ := rv.frs ha
    exact ⟨p, vs, rfl, upd_same, q1.mono fw.gs fun a o m => (by cases m), rfl⟩
  · exact ⟨p, vs, g, rfl, upd_same, rv.reps.mono fw.gs fun a o m e t => fw.hs a o e (by simp) t, rfl⟩

/-! ### cuts -/
abbrev rP : RepOf (Option Int) (Option Int) := fun _ _ _ _ o a g => o = a ∧ g = []
structure SP (X : Cx) (C : Cc) (T : List Nat) (e : Option Expr) (f : Sls → Res (Option Int)) : Prop where
  run : ∀ W, Takes X W → PO X e (tG C rP W T f)
theorem PO.imp {e : Option Expr} {t t' : TO} (h : PO X e t) (i : ∀ σ H Q, t' σ H Q → t σ H Q) : PO X e t' := ⟨fun pins s σ H Q I q => h.run pins s σ H Q I (i σ H Q q)⟩
def mNoP : Sls → Res (Option Int) := fun δ => .ok none δ
theorem sp_none : SP X C [] none mNoP := ⟨fun W tk => PO.imp po_none fun σ H Q h => tG_pure (x := none) h fun _ => ⟨rfl, rfl⟩⟩
def mSomeP (f : Sls → Res DV) : Sls → Res (Option Int) := fun δ => (f δ).bind fun x δ1 => match x.d with
  | .int i => .ok (some i) δ1
  | _ => .bad
theorem sp_some {f : Sls → Res DV} (h : SE X C T e f) : SP X C T (some e) (mSomeP f) := by
  refine ⟨fun W tk => PO.imp (po_some (h.run W tk)) fun σ H Q ⟨G, δ, Fs, wd, tt, sl, out⟩ => ⟨G, δ, Fs, wd, tt, sl, ?_⟩⟩
  unfold mSomeP at out
  cases e : f δ with
  | bad => rw [e] at out; exact out
  | er c δ' => rw [e] at out; exact out
  | ok x δ' =>
    rw [e] at out
    simp only [Res.bind] at out
    split at out
    · rename_i i hi
      intro v G' H' Fs' g w s k r
      refine ⟨i, dv_int hi r, out (some i) G' H' Fs' [] (by rw [List.append_nil]; exact w.left) s k ⟨rfl, rfl⟩⟩
    · exact out.elim
def cut {α : Type} (xs : List α) (lo hi : Option Int) : List α := (xs.drop (HT.sIx xs.length 0 lo)).take (HT.sIx xs.length xs.length hi - HT.sIx xs.length 0 lo)
def dSl : DV → Option Int → Option Int → Option DV := fun x lo hi => match x.d with
  | .str s => if s.length ≤ sizeLine then some (.fr (.str (cut s lo hi))) else none
  | .lst _ _ => (kidsL x).map fun ds => .ow (.lst .own (cut ds lo hi))
  | .tup _ => (kidsT x).map fun ds => .fr (.tup (cut ds lo hi))
  | _ => none
abbrev R3 := V → Option Int → Option Int → Hp → VK → Prop
def Sl3 (C : Cb) (r : R3) (g : DV → Option Int → Option Int → Option DV) : Prop := ∀ (G H : Hp) (x : V) (d : DV) (lo hi : Option Int) (f : List Addr) (z : DV) (Q : VK), Wd G H [] → RepV C G H x d f → g d lo hi = some z → Wt C G H z Q → r x lo hi H Q
def rSlAll (K : PySem.W.Frag) : R3 := fun x lo hi H Q => rSlL K x lo hi H Q ∨ rSlA K x lo hi H Q ∨ rSlS x lo hi H Q
theorem sl_all : SlR X (rSlAll X.K) := sl_list.or (sl_tupA.or sl_str)
theorem cut_rep {G H : Hp} {vs : List V} {es : List D} (r : Reps C G H vs es []) (lo hi : Option Int) : Reps C G H (cutV vs lo hi) (cut es lo hi) [] := by
  unfold cutV cut
  rw [r.len]
  exact (r.drop0 _).take0 _
theorem s3_all : Sl3 C (rSlAll C.K) dSl := by
  intro G H x d lo hi f z Q wd r h w
  unfold dSl at h
  split at h
  · rename_i s e
    split at h <;> cases h
    rename_i hl
    refine .inr (.inr ⟨_, dv_str e r, by rw [strV_len]; exact hl, wt_str wd w ?_⟩)
    unfold cutS cut
    simp [strV, Str.length]
  · cases hk : kidsL d with
    | none => rw [hk] at h; cases h
    | some es =>
      rw [hk] at h; cases h
      obtain ⟨a, vs, rfl, q, rs⟩ := kidsL_rep hk wd r
      exact .inl ⟨a, vs, rfl, q, wt_list wd w (cut_rep rs lo hi)⟩
  · cases hk : kidsT d with
    | none => rw [hk] at h; cases h
    | some es =>
      rw [hk] at h; cases h
      obtain ⟨a, vs, rfl, q, q2, rs⟩ := kidsT_rep hk wd r
      refine .inr (.inl ⟨a, vs, rfl, q, fun hw => ?_, fun _ => wt_tup wd w (cut_rep rs lo hi)⟩)
      refine wt_sc wd w ⟨a, vs, rfl, q2, ?_⟩
      have e1 : cut es lo hi = es := by
        unfold cut
        rw [← rs.len, hw.1, hw.2, rs.len]
        simp
      rw [e1]; exact rs
  · cases h
def mSl (fo : Sls → Res OV) (fl fh : Sls → Res (Option Int)) : Sls → Res DV := fun δ => (fo δ).bind fun a δ1 => (fl δ1).bind fun lo δ2 => (fh δ2).bind fun hi δ3 => fin ((see δ3 a).bind fun x => dSl x lo hi) δ3
theorem se_slice {V' : List Nat} {lo hi : Option Expr} {p2 : Pos} {fo : Sls → Res OV} {fl fh : Sls → Res (Option Int)} (hK : X.K = C.K) (he : SO X C T e fo) (hl : SP X C U lo fl) (hh : SP X C V' hi fh) : SE X C (T ++ (U ++ V')) (.Subscript e (.Slice lo hi none p2) pos) (mSl fo fl fh) := by
  refine ⟨fun W tk => PE.imp (pe_slice sl_all (he.run W tk) (hl.run W tk) (hh.run W tk)) fun σ H Q ⟨G, δ, Fs, wd, tt, sl, out⟩ => ?_⟩
  rw [hK]
  refine tG_of (P := []) (U := U ++ V') (by rw [List.append_nil]; exact wd) tt sl (k := fun a δ1 => (fl δ1).bind fun lo δ2 => (fh δ2).bind fun hi δ3 => fin ((see δ3 a).bind fun x => dSl x lo hi) δ3) (by rw [List.append_nil]; exact out) (fun j => List.mem_append.mpr) fun x ox δ1 G1 H1 Fs1 g1 w1 wd1 tt1 sl1 kp1 r1 _ out1 => ?_
  refine tG_of (U := V') wd1 tt1 sl1 (k := fun lo δ2 => (fh δ2).bind fun hi δ3 => fin ((see δ3 ox).bind fun x => dSl x lo hi) δ3) out1 (fun j => List.mem_append.mpr) fun lo' lo δ2 G2 H2 Fs2 g2 w2 wd2 tt2 sl2 kp2 r2 st2 out2 => ?_
  obtain ⟨rfl, rfl⟩ := r2
  have r1' : RepO σ C G2 H2 x ox g1 := r1.mono w2.gs fun b o hb h t => st2 b o (List.mem_append_left _ hb) h t
  refine tG_of (U := []) wd2 tt2 sl2 (k := fun hi δ3 => fin ((see δ3 ox).bind fun x => dSl x lo' hi) δ3) out2 (fun j h => h.elim id fun h => by cases h) fun hi' hi δ3 G3 H3 Fs3 g3 w3 wd3 tt3 sl3 kp3 r3 st3 out3 => ?_
  obtain ⟨rfl, rfl⟩ := r3
  have r1'' : RepO σ C G3 H3 x ox g1 := r1'.mono w3.gs fun b o hb h t => st3 b o (by simp [hb]) h t
  cases e1 : see δ3 ox with
  | none => simp only [e1, Option.bind_none] at out3; exact out3.elim
  | some dx =>
    simp only [e1, Option.bind_some] at out3
    cases e3 : dSl dx lo' hi' with
    | none => rw [e3] at out3; exact out3.elim
    | some z =>
      rw [e3] at out3
      obtain ⟨f1, q1, _⟩ := r1''.see sl3 e1
      exact s3_all G3 H3 x dx lo' hi' f1 z Q (wd_nil wd3) q1 e3 fun v G' H' h w r => fin_out wd3 sl3 out3 w r
end
end Pv

set_option Elab.async false
set_option linter.all false
set_option maxRecDepth 100000
/-! PvG: statements, defs, calls of defs. -/
namespace Pv
open PySem PySem.Spec L2

/-! ### statements -/
inductive RS where
  | nx (δ : Sls) | rt (d : DV) (δ : Sls) | bk (δ : Sls) | ct (δ : Sls) | er (c : Nat) (δ : Sls) | bad
  deriving Inhabited

/-- what is wanted behind a statement's outcome -/
def OutS (C : Cc) (W : WX) (G H : Hp) (F : List Addr) (D : Ends) : RS → Prop
  | .nx δ' => ∀ σ' G' H' Fs', Fw C G H F G' H' Fs'.flatten → Slots C G' H' σ' δ' Fs' → D.nx σ' H'
  | .rt d δ' => ∀ v σ' G' H' Fs' g, Fw C G H F G' H' (Fs'.flatten ++ g) → Slots C G' H' σ' δ' Fs' → RepV C G' H' v d g → D.rt v H'
  | .bk δ' => ∀ σ' G' H' Fs', Fw C G H F G' H' Fs'.flatten → Slots C G' H' σ' δ' Fs' → D.bk σ' H'
  | .ct δ' => ∀ σ' G' H' Fs', Fw C G H F G' H' Fs'.flatten → Slots C G' H' σ' δ' Fs' → D.ct σ' H'
  | .er c δ' => ∀ σ' G' H' Fs', Fw C G H F G' H' Fs'.flatten → Slots C G' H' σ' δ' Fs' → W (.ref (C.exc c)) none σ' H'
  | .bad => False
def tS (C : Cc) (W : WX) (f : Sls → RS) : TS := fun D σ H => ∃ G δ Fs, Wd G H Fs.flatten ∧ Tbs C H ∧ Slots C G H σ δ Fs ∧ OutS C W G H Fs.flatten D (f δ)
structure SS (X : Cx) (C : Cc) (st : Stmt) (f : Sls → RS) : Prop where
  run : ∀ W, Takes X W → PS X st (tS C W f)
structure SSs (X : Cx) (C : Cc) (st : List Stmt) (f : Sls → RS) : Prop where
  run : ∀ W, Takes X W → PSs X st (tS C W f)
theorem OutS.step {C : Cc} {W : WX} {G H G1 H1 : Hp} {F F1 : List Addr} {D : Ends} {m : RS} (h : OutS C W G H F D m) (w : Fw C G H F G1 H1 F1) : OutS C W G1 H1 F1 D m := by
  cases m with
  | nx δ' => exact fun σ' G' H' Fs' w' s => h σ' G' H' Fs' (w.trans w') s
  | rt d δ' => exact fun v σ' G' H' Fs' g w' s r => h v σ' G' H' Fs' g (w.trans w') s r
  | bk δ' => exact fun σ' G' H' Fs' w' s => h σ' G' H' Fs' (w.trans w') s
  | ct δ' => exact fun σ' G' H' Fs' w' s => h σ' G' H' Fs' (w.trans w') s
  | er c δ' => exact fun σ' G' H' Fs' w' s => h σ' G' H' Fs' (w.trans w') s
  | bad => exact h
theorem OutS.more {C : Cc} {W : WX} {G H : Hp} {F F1 : List Addr} {D : Ends} {m : RS} (h : OutS C W G H F D m) (s : ∀ a ∈ F1, a ∈ F) : OutS C W G H F1 D m := by
  cases m with
  | nx δ' => exact fun σ' G' H' Fs' w' s' => h σ' G' H' Fs' (w'.more s) s'
  | rt d δ' => exact fun v σ' G' H' Fs' g w' s' r => h v σ' G' H' Fs' g (w'.more s) s' r
  | bk δ' => exact fun σ' G' H' Fs' w' s' => h σ' G' H' Fs' (w'.more s) s'
  | ct δ' => exact fun σ' G' H' Fs' w' s' => h σ' G' H' Fs' (w'.more s) s'
  | er c δ' => exact fun σ' G' H' Fs' w' s' => h σ' G' H' Fs' (w'.more s) s'
  | bad => exact h
def RS.then (m : RS) (k : Sls → RS) : RS := match m with
  | .nx δ => k δ
  | m => m
def Res.thenS {α : Type} (m : Res α) (k : α → Sls → RS) : RS := match m with
  | .ok a δ => k a δ
  | .er c δ => .er c δ
  | .bad => .bad

section
variable {X : Cx} {C : Cc} {T U : List Nat} {st : Stmt} {rest : List Stmt} {e a b : Expr} {es : List Expr} {pos : Pos}
theorem PS.imp {t t' : TS} (h : PS X st t) (i : ∀ D σ H, t' D σ H → t D σ H) : PS X st t' := ⟨fun pins s σ H D I q => h.run pins s σ H D I (i D σ H q)⟩
theorem PSs.imp {sts : List Stmt} {t t' : TS} (h : PSs X sts t) (i : ∀ D σ H, t' D σ H → t D σ H) : PSs X sts t' := ⟨fun pins s σ H D I q => h.run pins s σ H D I (i D σ H q)⟩
/-- an expression, then what a statement does with it -/
theorem tS_at {α β : Type} {R : RepOf β α} {W : WX} {D : Ends} {σ : L2.St} {G H : Hp} {δ : Sls} {Fs : List (List Addr)} {f : Sls → Res α} {k : α → Sls → RS} {K : β → Hp → Prop} (wd : Wd G H Fs.flatten) (tt : Tbs C H) (sl : Slots C G H σ δ Fs) (out : OutS C W G H Fs.flatten D ((f δ).thenS k))
    (hk : ∀ x a δ1 G1 H1 Fs1 g, Fw C G H Fs.flatten G1 H1 (Fs1.flatten ++ g) → Kp T δ Fs H δ1 Fs1 H1 → Wd G1 H1 (Fs1.flatten ++ g) → Tbs C H1 → Slots C G1 H1 σ δ1 Fs1 → R σ C G1 H1 x a g → OutS C W G1 H1 (Fs1.flatten ++ g) D (k a δ1) → K x H1) : tG C R W T f σ H K := by
  refine ⟨G, δ, Fs, wd, tt, sl, ?_⟩
  cases e : f δ with
  | bad => simp only [e, Res.thenS] at out; exact out.elim
  | er c δ' =>
    simp only [e, Res.thenS] at out
    exact fun G' H' Fs' w s => out σ G' H' Fs' w s
  | ok a δ' =>
    simp only [e, Res.thenS] at out
    intro x G' H' Fs' g w s kp r
    exact hk x a δ' G' H' Fs' g w kp w.wd (w.tt tt) s r (out.step w)
theorem tS_of {α β : Type} {R : RepOf β α} {W : WX} {D : Ends} {σ : L2.St} {H : Hp} {f : Sls → Res α} {k : α → Sls → RS} {K : β → Hp → Prop} (h : tS C W (fun δ => (f δ).thenS k) D σ H)
    (hk : ∀ x a δ1 G1 H1 Fs1 g, Wd G1 H1 (Fs1.flatten ++ g) → Tbs C H1 → Slots C G1 H1 σ δ1 Fs1 → R σ C G1 H1 x a g → OutS C W G1 H1 (Fs1.flatten ++ g) D (k a δ1) → K x H1) : tG C R W T f σ H K := by
  obtain ⟨G, δ, Fs, wd, tt, sl, out⟩ := h
  exact tS_at wd tt sl out fun x a δ1 G1 H1 Fs1 g _ _ => hk x a δ1 G1 H1 Fs1 g
theorem tS_nx {W : WX} {D : Ends} {σ : L2.St} {G H : Hp} {δ : Sls} {Fs : List (List Addr)} {F : List Addr} (out : OutS C W G H F D (.nx δ)) (wd : Wd G H Fs.flatten) (s : ∀ a ∈ Fs.flatten, a ∈ F) (sl : Slots C G H σ δ Fs) : D.nx σ H :=
  out σ G H Fs ((Fw.refl wd).more s) sl
/-! blocks -/
def sNx : Sls → RS := fun δ => .nx δ
def sSeq (f g : Sls → RS) : Sls → RS := fun δ => (f δ).then g
theorem tS_seq {W : WX} {D : Ends} {σ : L2.St} {H : Hp} {f g : Sls → RS} (h : tS C W (sSeq f g) D σ H) : tS C W f { D with nx := fun σ H => tS C W g D σ H } σ H := by
  obtain ⟨G, δ, Fs, wd, tt, sl, out⟩ := h
  refine ⟨G, δ, Fs, wd, tt, sl, ?_⟩
  unfold sSeq at out
  cases e : f δ with
  | nx δ' =>
    rw [e] at out
    simp only [RS.then] at out
    exact fun σ' G' H' Fs' w s => ⟨G', δ', Fs', w.wd, w.tt tt, s, out.step w⟩
  | rt d δ' => rw [e] at out; exact out
  | bk δ' => rw [e] at out; exact out
  | ct δ' => rw [e] at out; exact out
  | er c δ' => rw [e] at out; exact out
  | bad => rw [e] at out; exact out
theorem ss_nil : SSs X C [] sNx := ⟨fun W tk => PSs.imp pss_nil fun D σ H ⟨G, δ, Fs, wd, tt, sl, out⟩ => tS_nx out wd (fun _ h => h) sl⟩
theorem ss_cons {f g : Sls → RS} (h : SS X C st f) (h' : SSs X C rest g) : SSs X C (st :: rest) (sSeq f g) := ⟨fun W tk => PSs.imp (pss_cons (h.run W tk) (h'.run W tk)) fun D σ H q => tS_seq q⟩
theorem ss_one {f : Sls → RS} (h : SS X C st f) : SSs X C [st] f := ⟨fun W tk => pss_one (h.run W tk)⟩
theorem ss_pass : SS X C (.Pass pos) sNx := ⟨fun W tk => PS.imp ps_pass fun D σ H ⟨G, δ, Fs, wd, tt, sl, out⟩ => tS_nx out wd (fun _ h => h) sl⟩
def sBk : Sls → RS := fun δ => .bk δ
def sCt : Sls → RS := fun δ => .ct δ
theorem ss_break : SS X C (.Break pos) sBk := ⟨fun W tk => PS.imp ps_break fun D σ H ⟨G, δ, Fs, wd, tt, sl, out⟩ => out σ G H Fs (Fw.refl wd) sl⟩
theorem ss_continue : SS X C (.Continue pos) sCt := ⟨fun W tk => PS.imp ps_continue fun D σ H ⟨G, δ, Fs, wd, tt, sl, out⟩ => out σ G H Fs (Fw.refl wd) sl⟩
/-! return, expression, if -/
def sRt (f : Sls → Res DV) : Sls → RS := fun δ => (f δ).thenS .rt
theorem ss_ret {f : Sls → Res DV} (h : SE X C T e f) : SS X C (.Return (some e) pos) (sRt f) := by
  refine ⟨fun W tk => PS.imp (ps_ret (h.run W tk)) fun D σ H q => tS_of (T := T) q fun x d δ1 G1 H1 Fs1 g wd tt sl r out => ?_⟩
  exact out x σ G1 H1 Fs1 g (Fw.refl wd) sl r
def sRtN : Sls → RS := fun δ => .rt (.fr .non) δ
theorem ss_retN : SS X C (.Return none pos) sRtN := ⟨fun W tk => PS.imp ps_retN fun D σ H ⟨G, δ, Fs, wd, tt, sl, out⟩ => out .non σ G H Fs [] (by rw [List.append_nil]; exact Fw.refl wd) sl ⟨⟨rfl, rfl⟩, rfl⟩⟩
def sEx (f : Sls → Res DV) : Sls → RS := fun δ => (f δ).thenS fun _ δ => .nx δ
theorem ss_expr {f : Sls → Res DV} (h : SE X C T e f) (hs : swapsWith e none pos.line X.env = pure false := by rfl) : SS X C (.Expr e pos) (sEx f) := by
  refine ⟨fun W tk => PS.imp (ps_expr (h.run W tk) hs) fun D σ H q => tS_of (T := T) q fun x d δ1 G1 H1 Fs1 g wd tt sl r out => ?_⟩
  exact tS_nx out wd.left (fun a h => List.mem_append_left _ h) sl
def sIf (c : Sls → Res Bool) (f g : Sls → RS) : Sls → RS := fun δ => (c δ).thenS fun b δ => if b = true then f δ else g δ
theorem ss_if {c : Expr} {sa sb : List Stmt} {fc : Sls → Res Bool} {f g : Sls → RS} (hc : ST X C T c fc) (ha : SSs X C sa f) (hb : SSs X C sb g) : SS X C (.If c sa sb pos) (sIf fc f g) := by
  refine ⟨fun W tk => PS.imp (ps_if (hc.run W tk) (ha.run W tk) (hb.run W tk)) fun D σ H q => tS_of (T := T) q fun x d δ1 G1 H1 Fs1 g wd tt sl r out => ?_⟩
  obtain ⟨rfl, rfl⟩ := r
  rw [List.append_nil] at wd out
  split
  · rename_i h; rw [if_pos h] at out; exact ⟨G1, δ1, Fs1, wd, tt, sl, out⟩
  · rename_i h; rw [if_neg h] at out; exact ⟨G1, δ1, Fs1, wd, tt, sl, out⟩
/-! stores -/
/-- a slot that may be stored: it holds no parameter that is handed back -/
def sto (i : Nat) (x : DV) (δ : Sls) : RS := match δ[i]? with
  | some (.s true _) => .bad
  | some _ => .nx (δ.set i (.s false x))
  | none => .bad
theorem sto_out {W : WX} {D : Ends} {σ : L2.St} {G H : Hp} {δ : Sls} {Fs : List (List Addr)} {B g : List Addr} {i : Nat} {x : DV} {v : V} (wd : Wd G H (Fs.flatten ++ (g ++ B))) (sl : Slots C G H σ δ Fs) (r : RepV C G H v x g) (out : OutS C W G H (Fs.flatten ++ (g ++ B)) D (sto i x δ)) :
    ∃ δ', Slots C G H (σ.set i (some v)) δ' (Fs.set i g) ∧ OutS C W G H ((Fs.set i g).flatten ++ B) D (.nx δ') ∧ Wd G H ((Fs.set i g).flatten ++ B) ∧ δ' = δ.set i (.s false x) := by
  unfold sto at out
  split at out
  · exact out.elim
  · rename_i s hn hs
    obtain ⟨pp, y, f, h0, h1, h2, _⟩ := SlotsP.get sl hs
    have hl : i < Fs.length := (List.getElem?_eq_some_iff.mp h2).1
    have pm := flat_perm h2
    have p2 := flat_set (g := g) hl
    have sub : ∀ a ∈ (Fs.set i g).flatten ++ B, a ∈ Fs.flatten ++ (g ++ B) := fun a h => by
      rcases List.mem_append.mp h with h | h
      · rcases List.mem_append.mp (p2.mem_iff.mp h) with h | h
        · simp [h]
        · exact List.mem_append_left _ (pm.mem_iff.mpr (List.mem_append_right _ h))
      · simp [h]
    have nd : ((Fs.set i g).flatten ++ B).Nodup := by
      have n1 : ((f ++ (Fs.set i []).flatten) ++ (g ++ B)).Nodup := (List.Perm.append_right _ pm).nodup_iff.mp wd.nd
      have n2 : ((g ++ (Fs.set i []).flatten) ++ B).Nodup := by
        have q : ((f ++ (Fs.set i []).flatten) ++ (g ++ B)).Perm (f ++ ((g ++ (Fs.set i []).flatten) ++ B)) := by
          rw [List.append_assoc]
          refine List.Perm.append_left f ?_
          rw [← List.append_assoc]
          exact List.Perm.append_right _ List.perm_append_comm
        exact (List.nodup_append.mp (q.nodup_iff.mp n1)).2.1
      exact (List.Perm.append_right _ p2).nodup_iff.mpr n2
    refine ⟨_, SlotsP.set (s := .s false x) i sl fun p _ => ⟨v, rfl, r, fun h => by cases h⟩, ?_, wd.sub nd sub, rfl⟩
    exact OutS.more out sub
  · exact out.elim
def sSet (i : Nat) (f : Sls → Res DV) : Sls → RS := fun δ => (f δ).thenS fun x δ => sto i x δ
/-- x = e: h by ps_set -/
theorem ss_set {i : Nat} {f : Sls → Res DV} (h : SE X C T e f) (hp : ∀ {te : TE}, PE X e te → PS X st (tAsg te (gName i))) : SS X C st (sSet i f) := by
  refine ⟨fun W tk => PS.imp (hp (h.run W tk)) fun D σ H q => tS_of (T := T) q fun v x δ1 G1 H1 Fs1 g wd tt sl r out => ?_⟩
  obtain ⟨δ', s', o', w', _⟩ := sto_out (B := []) (by rw [List.append_nil]; exact wd) sl r (by rw [List.append_nil]; exact out)
  rw [List.append_nil] at o' w'
  exact tS_nx o' w' (fun a h => h) s'
/-- x op= e -/
def sAug (i : Nat) (g : DV → DV → Option DV) (f : Sls → Res DV) : Sls → RS := fun δ => match δ[i]? with
  | some (.s false (.fr d)) => (f δ).thenS fun x δ1 => match g (.fr d) x with
    | some z => sto i z δ1
    | none => .bad
  | _ => .bad
theorem ss_aug {i : Nat} {r : TIp} {g : DV → DV → Option DV} {f : Sls → Res DV} (h : SE X C T e f) (hg : Op2 C r g) (hp : ∀ {te : TE}, PE X e te → PS X st (tAug i te r)) : SS X C st (sAug i g f) := by
  refine ⟨fun W tk => PS.imp (hp (h.run W tk)) fun D σ H q => ?_⟩
  obtain ⟨G, δ, Fs, wd, tt, sl, out⟩ := q
  unfold sAug at out
  split at out
  · rename_i d hd
    obtain ⟨pp, y, f', h0, h1, h2, v, rfl, rv, _⟩ := SlotsP.get sl hd
    refine ⟨v, h1, ?_⟩
    refine tS_at (T := T) wd tt sl out fun v2 x δ1 G1 H1 Fs1 g1 w1 _ wd1 tt1 sl1 r1 out1 => ?_
    cases e3 : g (.fr d) x with
    | none => simp only [e3] at out1; exact out1.elim
    | some z =>
      simp only [e3] at out1
      refine hg G1 H1 v v2 (.fr d) x [] g1 z _ (wd_nil wd1) ⟨rv.1.mono w1.gs fun _ _ m => (by cases m), rfl⟩ r1 e3 fun vz G2 H2 h2 w2 rz => ?_
      have w3 := Fw.frame (B := Fs1.flatten) w2 (by rw [List.nil_append]; exact wd1.left)
      rw [List.nil_append] at w3
      have w4 := w3.perm List.perm_append_comm
      have out2 := (out1.more (F1 := Fs1.flatten) fun a h => List.mem_append_left _ h).step w4
      have sl2 := sl1.mono w2.gs fun a o _ e t => w2.hs a o e (by simp) t
      obtain ⟨δ', s', o', w', _⟩ := sto_out (B := []) (by rw [List.append_nil]; exact w4.wd) sl2 rz (by rw [List.append_nil]; exact out2)
      rw [List.append_nil] at o' w'
      exact tS_nx o' w' (fun a h => h) s'
  · exact out.elim
end
end Pv

set_option Elab.async false
set_option linter.all false
set_option maxRecDepth 100000
/-! PvH: defs, calls of defs. -/
namespace Pv
open PySem PySem.Spec L2

inductive RF where
  | ok (d : DV) (ys : Sls) | er (c : Nat) (ys : Sls) | bad
  deriving Inhabited
def ArgsR (C : Cb) (G H : Hp) : List V → List DV → List (List Addr) → Prop
  | [], [], [] => True
  | v :: vs, x :: xs, f :: fs => RepV C G H v x f ∧ ArgsR C G H vs xs fs
  | _, _, _ => False
/-- what the parameters have become: told of those alone that are handed back -/
def FinsR (C : Cb) (G H : Hp) : List V → Sls → List (List Addr) → Prop
  | [], [], [] => True
  | v :: vs, s :: ss, f :: fs => (match s with
    | .un => f = []
    | .s _ x => RepV C G H v x f
    | .lm _ => False) ∧ FinsR C G H vs ss fs
  | _, _, _ => False
def spF (C : Cb) (n : Nat) (F : List DV → RF) : Sp := fun vs H Q E => vs.length = n ∧ ∃ G xs gs, Wd G H gs.flatten ∧ Tbs C H ∧ ArgsR C G H vs xs gs ∧ match F xs with
  | .ok d ys => ∀ v G' H' gs' g, Fw C G H gs.flatten G' H' (gs'.flatten ++ g) → FinsR C G' H' vs ys gs' → RepV C G' H' v d g → Q v H'
  | .er c ys => ∀ G' H' gs', Fw C G H gs.flatten G' H' gs'.flatten → FinsR C G' H' vs ys gs' → E (.ref (C.exc c)) none H'
  | .bad => False
def argS : DV → Sl
  | .fr d => .s false (.fr d)
  | .ow d => .s true (.ow d)
def finals : List DV → Sls → Option Sls
  | [], _ => some []
  | .fr _ :: xs, _ :: δ => (finals xs δ).map fun r => .un :: r
  | .ow _ :: xs, .s true x :: δ => (finals xs δ).map fun r => .s true x :: r
  | _, _ => none
def entry (N : Nat) (xs : List DV) : Sls := xs.map argS ++ List.replicate (N - xs.length) .un
def mFun (N : Nat) (body : Sls → RS) (xs : List DV) : RF := match body (entry N xs) with
  | .nx δ => match finals xs δ with
    | some ys => .ok (.fr .non) ys
    | none => .bad
  | .rt d δ => match finals xs δ with
    | some ys => .ok d ys
    | none => .bad
  | .er c δ => match finals xs δ with
    | some ys => .er c ys
    | none => .bad
  | _ => .bad
def noLam : Nat → V → Hp → Prop := fun _ _ _ => False
def ccOf (C : Cb) (N : List Str) (vs : List V) : Cc := { C with pin := start N vs, lam := noLam, lamUp := fun _ _ _ _ h _ => h.elim }

section
variable {C : Cc} {G H : Hp}
theorem SlotsP.nils : ∀ (n : Nat), SlotsP C G H (List.replicate n none) (List.replicate n none) (List.replicate n .un) (List.replicate n [])
  | 0 => trivial
  | n + 1 => ⟨rfl, SlotsP.nils n⟩
theorem SlotsP.app : ∀ {ps qs σ τ : List (Option V)} {δ ε : Sls} {Fs Es : List (List Addr)}, SlotsP C G H ps σ δ Fs → SlotsP C G H qs τ ε Es → SlotsP C G H (ps ++ qs) (σ ++ τ) (δ ++ ε) (Fs ++ Es)
  | [], _, [], _, [], _, [], _, _, r => r
  | p :: ps, _, x :: xs, _, s :: ss, _, f :: fs, _, q, r => ⟨q.1, SlotsP.app q.2 r⟩
  | [], _, [], _, [], _, _ :: _, _, q, _ | [], _, [], _, _ :: _, _, _, _, q, _ | [], _, _ :: _, _, _, _, _, _, q, _ | _ :: _, _, [], _, _, _, _, _, q, _ | _ :: _, _, _ :: _, _, [], _, _, _, q, _ | _ :: _, _, _ :: _, _, _ :: _, _, [], _, q, _ => q.elim
theorem args_slots : ∀ {vs : List V} {xs : List DV} {gs : List (List Addr)}, ArgsR C.toCb G H vs xs gs → SlotsP C G H (vs.map some) (vs.map some) (xs.map argS) gs
  | [], [], [], _ => trivial
  | v :: vs, x :: xs, f :: fs, r => ⟨by cases x <;> exact ⟨v, rfl, r.1, fun _ => rfl⟩, args_slots r.2⟩
  | [], [], _ :: _, r | [], _ :: _, _, r | _ :: _, [], _, r | _ :: _, _ :: _, [], r => r.elim
theorem ArgsR.len {C : Cb} : ∀ {vs : List V} {xs : List DV} {gs : List (List Addr)}, ArgsR C G H vs xs gs → vs.length = xs.length ∧ gs.length = xs.length
  | [], [], [], _ => ⟨rfl, rfl⟩
  | v :: vs, x :: xs, f :: fs, r => by
    have := ArgsR.len r.2
    simp [this.1, this.2]
  | [], [], _ :: _, r | [], _ :: _, _, r | _ :: _, [], _, r | _ :: _, _ :: _, [], r => r.elim
/-- from the frame's slots at the end to what the parameters have become -/
theorem finals_rep {C : Cc} {G H G' H' : Hp} : ∀ {vs : List V} {xs : List DV} {gs : List (List Addr)} {ps σ : List (Option V)} {δ ys : Sls} {Fs : List (List Addr)}, ArgsR C.toCb G H vs xs gs → SlotsP C G' H' ps σ δ Fs → (vs.map some) <+: ps → finals xs δ = some ys →
      ∃ gs', FinsR C.toCb G' H' vs ys gs' ∧ List.Sublist gs'.flatten Fs.flatten
  | [], [], [], _, _, _, _, _, _, _, _, h => by
    simp only [finals] at h; cases h
    exact ⟨[], trivial, by simp⟩
  | v :: vs, .fr d :: xs, g :: gs, p :: ps, x :: σ, s :: δ, _, f :: Fs, a, q, pre, h => by
    simp only [finals] at h
    cases e : finals xs δ with
    | none => rw [e] at h; cases h
    | some r =>
      rw [e] at h; cases h
      have pre' : vs.map some <+: ps := by
        rw [List.map_cons] at pre
        exact (List.cons_prefix_cons.mp pre).2
      obtain ⟨gs', r1, r2⟩ := finals_rep a.2 q.2 pre' e
      refine ⟨[] :: gs', ⟨rfl, r1⟩, ?_⟩
      rw [List.flatten_cons, List.flatten_cons, List.nil_append]
      exact r2.trans (List.sublist_append_right _ _)
  | v :: vs, .ow d :: xs, g :: gs, p :: ps, x :: σ, .s true y :: δ, _, f :: Fs, a, q, pre, h => by
    simp only [finals] at h
    cases e : finals xs δ with
    | none => rw [e] at h; cases h
    | some r =>
      rw [e] at h; cases h
      rw [List.map_cons] at pre
      have pre' := List.cons_prefix_cons.mp pre
      obtain ⟨gs', r1, r2⟩ := finals_rep a.2 q.2 pre'.2 e
      obtain ⟨⟨w, ew, rw', hp⟩, _⟩ := q
      have e2 := hp rfl
      rw [← pre'.1] at e2
      cases e2
      refine ⟨f :: gs', ⟨rw', r1⟩, ?_⟩
      rw [List.flatten_cons, List.flatten_cons]
      exact List.Sublist.append (List.Sublist.refl _) r2
  | _ :: _, .ow _ :: _, _, _, _, .un :: _, _, _, _, _, _, h => by simp only [finals] at h; cases h
  | _ :: _, .ow _ :: _, _, _, _, .lm _ :: _, _, _, _, _, _, h => by simp only [finals] at h; cases h
  | _ :: _, .ow _ :: _, _, _, _, .s false _ :: _, _, _, _, _, _, h => by simp only [finals] at h; cases h
  | _ :: _, .fr _ :: _, _, _, _, [], _, _, _, _, _, h => by simp only [finals] at h; cases h
  | _ :: _, .ow _ :: _, _, _, _, [], _, _, _, _, _, h => by simp only [finals] at h; cases h
  | [], [], _ :: _, _, _, _, _, _, a, _, _, _ => a.elim
  | [], _ :: _, _, _, _, _, _, _, a, _, _, _ => a.elim
  | _ :: _, [], _, _, _, _, _, _, a, _, _, _ => a.elim
  | _ :: _, _ :: _, [], _, _, _, _, _, a, _, _, _ => a.elim
  | _ :: _, .fr _ :: _, _ :: _, [], _, _ :: _, _, _, _, _, pre, _ => by simp at pre
  | _ :: _, .ow _ :: _, _ :: _, [], _, .s true _ :: _, _, _, _, _, pre, _ => by simp at pre
  | _ :: _, .fr _ :: _, _ :: _, _ :: _, [], _ :: _, _, _, _, q, _, _ => q.elim
  | _ :: _, .ow _ :: _, _ :: _, _ :: _, [], .s true _ :: _, _, _, _, q, _, _ => q.elim
  | _ :: _, .fr _ :: _, _ :: _, _ :: _, _ :: _, _ :: _, _, [], _, q, _, _ => q.elim
  | _ :: _, .ow _ :: _, _ :: _, _ :: _, _ :: _, .s true _ :: _, _, [], _, q, _, _ => q.elim
end

section
variable {P : Program} {w : World} {mg : Str → Option Value} {base : Heap}
/-- a def by its body's mirror -/
theorem fun_ok {C : Cb} {x qual : Str} {st : Stmt} {f : Addr} {fd : FuncData} {N ps : List Str} {k : Nat} {body : Sls → RS} (F : Fun C.K x qual st f fd) (S : FnScope N ps (defScope st))
    (hb : ∀ (cdv : Value) (A : Around) (outer : List Env) (s : Shared) (H : Hp) (vs : List V) (E : XK), vs.length = ps.length → Room k (A.deeper (PyProof.Rows.envOfC qual (defScope st) s.heap.objs.size f cdv)) →
      SSs (cxOf (L2.CX P w) P w C.K mg base N qual (defScope st) f cdv A outer s H E) (ccOf C N vs) (defBody st) body) :
    FnOk P w C.K mg base (L2.CX P w) (k + 1) f fd ps (spF C ps.length (mFun N.length body)) := by
  refine F.okX S (fun vs H Q E h => h.1) (fun cdv A outer s H vs Q E hr h => ?_)
  obtain ⟨hl, G, xs, gs, wd, tt, ar, out⟩ := h
  have tk : Takes (cxOf (L2.CX P w) P w C.K mg base N qual (defScope st) f cdv A outer s H E) (fun cls d _ H => E cls d H) := takes_of rfl rfl rfl rfl
  refine ⟨_, (hb cdv A outer s H vs E hl hr).run _ tk, ?_⟩
  have lens := ar.len
  have flat : (gs ++ List.replicate (N.length - vs.length) []).flatten = gs.flatten := by simp
  have sl : Slots (ccOf C N vs) G H (start N vs) (entry N.length xs) (gs ++ List.replicate (N.length - vs.length) []) := by
    have e1 : entry N.length xs = xs.map argS ++ List.replicate (N.length - vs.length) .un := by
      unfold entry; rw [lens.1]
    rw [e1]
    exact SlotsP.app (C := ccOf C N vs) (args_slots (C := ccOf C N vs) ar) (SlotsP.nils _)
  refine ⟨G, entry N.length xs, gs ++ List.replicate (N.length - vs.length) [], by rw [flat]; exact wd, tt, sl, ?_⟩
  rw [flat]
  have pre : vs.map some <+: (ccOf C N vs).pin := ⟨_, rfl⟩
  unfold mFun at out
  cases e : body (entry N.length xs) with
  | nx δ =>
    rw [e] at out
    intro σ' G' H' Fs' w' s'
    cases e2 : finals xs δ with
    | none => simp only [e2] at out
    | some ys =>
      simp only [e2] at out
      obtain ⟨gs', r1, r2⟩ := finals_rep (C := ccOf C N vs) ar s' pre e2
      refine out .non G' H' gs' [] ?_ r1 ⟨⟨rfl, rfl⟩, rfl⟩
      rw [List.append_nil]
      exact w'.sub (r2.nodup w'.wd.nd) fun c h => r2.subset h
  | rt d δ =>
    rw [e] at out
    intro v σ' G' H' Fs' g w' s' r
    cases e2 : finals xs δ with
    | none => simp only [e2] at out
    | some ys =>
      simp only [e2] at out
      obtain ⟨gs', r1, r2⟩ := finals_rep (C := ccOf C N vs) ar s' pre e2
      have r3 : List.Sublist (gs'.flatten ++ g) (Fs'.flatten ++ g) := List.Sublist.append r2 (List.Sublist.refl _)
      exact out v G' H' gs' g (w'.sub (r3.nodup w'.wd.nd) fun c h => r3.subset h) r1 r
  | er c δ =>
    rw [e] at out
    intro σ' G' H' Fs' w' s'
    cases e2 : finals xs δ with
    | none => simp only [e2] at out
    | some ys =>
      simp only [e2] at out
      obtain ⟨gs', r1, r2⟩ := finals_rep (C := ccOf C N vs) ar s' pre e2
      exact out G' H' gs' (w'.sub (r2.nodup w'.wd.nd) fun c h => r2.subset h) r1
  | bk δ => rw [e] at out; exact out.elim
  | ct δ => rw [e] at out; exact out.elim
  | bad => rw [e] at out; exact out.elim
end

/-! ### calls -/
/-- the arguments' data, and what is left of the slots: owned ones are lent -/
def takes : List OV → Sls → Option (List DV × Sls)
  | [], δ => some ([], δ)
  | .val x :: os, δ => (takes os δ).map fun r => (x :: r.1, r.2)
  | .at i :: os, δ => match δ[i]? with
    | some (.s _ (.fr d)) => (takes os δ).map fun r => (.fr d :: r.1, r.2)
    | some (.s _ (.ow d)) => (takes os (δ.set i .un)).map fun r => (.ow d :: r.1, r.2)
    | _ => none
def pinOf (δ : Sls) (i : Nat) : Bool := match δ[i]? with
  | some (.s p _) => p
  | _ => false
/-- lent ones come back -/
def back (δ0 : Sls) : List OV → Sls → Sls → Sls
  | .at i :: os, .s _ x :: ys, δ => back δ0 os ys (δ.set i (.s (pinOf δ0 i) x))
  | _ :: os, _ :: ys, δ => back δ0 os ys δ
  | _, _, δ => δ
def atsOk (A : List Nat) : List OV → Bool
  | [] => true
  | .val _ :: os => atsOk A os
  | .at i :: os => A.contains i && atsOk A os
def callIt (A : List Nat) (n : Nat) (F : List DV → RF) (os : List OV) (δ1 : Sls) : Res DV := if (atsOk A os && os.length == n) = true then match takes os δ1 with
  | some (xs, δ2) => match F xs with
    | .ok d ys => .ok d (back δ1 os ys δ2)
    | .er c ys => .er c (back δ1 os ys δ2)
    | .bad => .bad
  | none => .bad else .bad
def mCallF (A : List Nat) (n : Nat) (F : List DV → RF) (fs : Sls → Res (List OV)) : Sls → Res DV := fun δ => (fs δ).bind fun os δ1 => callIt A n F os δ1
theorem atsOk_mem {A : List Nat} : ∀ {os : List OV} {j : Nat}, atsOk A os = true → OV.at j ∈ os → j ∈ A
  | .val _ :: os, j, h, m => by
    rcases List.mem_cons.mp m with e | m
    · cases e
    · exact atsOk_mem (os := os) h m
  | .at i :: os, j, h, m => by
    have h' : A.contains i = true ∧ atsOk A os = true := by
      simp only [atsOk, Bool.and_eq_true] at h; exact h
    rcases List.mem_cons.mp m with e | m
    · cases e
      simpa using h'.1
    · exact atsOk_mem h'.2 m
section
variable {C : Cc} {G H : Hp} {σ : L2.St}
theorem takes_rep : ∀ {os : List OV} {vs : List V} {g : List Addr} {δ δ' : Sls} {Fs : List (List Addr)} {xs : List DV}, RepOs σ C G H vs os g → Slots C G H σ δ Fs → takes os δ = some (xs, δ') →
    ∃ gs Fs', ArgsR C.toCb G H vs xs gs ∧ Slots C G H σ δ' Fs' ∧ (Fs.flatten ++ g).Perm (gs.flatten ++ Fs'.flatten) ∧ ∀ j, OV.at j ∉ os → δ'[j]? = δ[j]? ∧ Fs'[j]? = Fs[j]?
  | [], [], g, δ, δ', Fs, xs, r, s, h => by
    simp only [takes] at h; cases h
    have e : g = [] := r
    subst e
    exact ⟨[], Fs, trivial, s, by simp, fun _ _ => ⟨rfl, rfl⟩⟩
  | .val x :: os, v :: vs, g, δ, δ', Fs, xs, r, s, h => by
    obtain ⟨f1, f2, r1, r2, rfl⟩ := r
    simp only [takes] at h
    cases e : takes os δ with
    | none => rw [e] at h; cases h
    | some q =>
      rw [e] at h; cases h
      obtain ⟨gs, Fs', a, s', p, kk⟩ := takes_rep r2 s e
      refine ⟨f1 :: gs, Fs', ⟨r1, a⟩, s', ?_, fun j hj => kk j fun m => hj (List.mem_cons_of_mem _ m)⟩
      rw [List.flatten_cons, List.append_assoc]
      have p1 : (Fs.flatten ++ (f1 ++ f2)).Perm (f1 ++ (Fs.flatten ++ f2)) := by
        rw [← List.append_assoc, ← List.append_assoc]
        exact List.Perm.append_right _ List.perm_append_comm
      exact p1.trans (List.Perm.append_left _ p)
  | .at i :: os, v :: vs, g, δ, δ', Fs, xs, r, s, h => by
    obtain ⟨f1, f2, r1, r2, rfl⟩ := r
    obtain ⟨e1, rfl⟩ := r1
    rw [List.nil_append]
    simp only [takes] at h
    split at h
    · rename_i p d hd
      cases e : takes os δ with
      | none => rw [e] at h; cases h
      | some q =>
        rw [e] at h; cases h
        obtain ⟨pp, y, f, h0, h1, h2, v', e2, rv, _⟩ := SlotsP.get s hd
        rw [e1] at h1; cases h1; cases e2
        obtain ⟨gs, Fs', a, s', p, kk⟩ := takes_rep r2 s e
        refine ⟨[] :: gs, Fs', ⟨⟨rv.1, rfl⟩, a⟩, s', ?_, fun j hj => kk j fun m => hj (List.mem_cons_of_mem _ m)⟩
        rw [List.flatten_cons, List.nil_append]
        exact p
    · rename_i p d hd
      cases e : takes os (δ.set i .un) with
      | none => rw [e] at h; cases h
      | some q =>
        rw [e] at h; cases h
        obtain ⟨pp, y, f, h0, h1, h2, v', e2, rv, _⟩ := SlotsP.get s hd
        rw [e1] at h1; cases h1; cases e2
        have s2 : Slots C G H σ (δ.set i .un) (Fs.set i []) := SlotsP.setD s e1 fun _ _ => rfl
        obtain ⟨gs, Fs', a, s', p, kk⟩ := takes_rep r2 s2 e
        have ne : ∀ j, OV.at j ∉ OV.at i :: os → i ≠ j := fun j hj e => hj (by rw [e]; exact List.mem_cons_self)
        refine ⟨f :: gs, Fs', ⟨rv, a⟩, s', ?_, fun j hj => ?_⟩
        rotate_left
        · obtain ⟨k1, k2⟩ := kk j fun m => hj (List.mem_cons_of_mem _ m)
          exact ⟨k1.trans (List.getElem?_set_ne (ne j hj)), k2.trans (List.getElem?_set_ne (ne j hj))⟩
        rw [List.flatten_cons, List.append_assoc]
        have p1 := List.Perm.append_right f2 (flat_perm h2)
        rw [List.append_assoc] at p1
        exact p1.trans (List.Perm.append_left _ p)
    · cases h
  | [], _ :: _, _, _, _, _, _, r, _, _ => r.elim
  | .val _ :: _, [], _, _, _, _, _, r, _, _ => r.elim
  | .at _ :: _, [], _, _, _, _, _, r, _, _ => r.elim
theorem RepOs.len : ∀ {os : List OV} {vs : List V} {g : List Addr}, RepOs σ C G H vs os g → vs.length = os.length
  | [], [], _, _ => rfl
  | o :: os, v :: vs, _, ⟨_, _, _, r, _⟩ => by simp [RepOs.len r]
  | [], _ :: _, _, r => r.elim
  | _ :: _, [], _, r => r.elim
/-- pins of the slots that were lent -/
def PinOk (C : Cc) (σ : L2.St) (δ0 : Sls) : List OV → Prop
  | .at i :: os => (pinOf δ0 i = true → ∀ v, σ[i]? = some (some v) → C.pin[i]? = some (some v)) ∧ PinOk C σ δ0 os
  | _ :: os => PinOk C σ δ0 os
  | [] => True
theorem pinOk_of {Fs : List (List Addr)} {δ0 : Sls} (s : Slots C G H σ δ0 Fs) : ∀ os : List OV, PinOk C σ δ0 os
  | [] => trivial
  | .val _ :: os => pinOk_of s os
  | .at i :: os => by
    refine ⟨fun h v hv => ?_, pinOk_of s os⟩
    unfold pinOf at h
    split at h
    · rename_i p x hx
      subst h
      obtain ⟨pp, y, f, h0, h1, h2, v', e2, rv, hp⟩ := SlotsP.get s hx
      rw [hv] at h1; cases h1; cases e2
      rw [h0, hp rfl]
    · cases h
theorem back_rep {δ0 : Sls} : ∀ {os : List OV} {vs : List V} {g : List Addr} {ys δ : Sls} {gs Fs : List (List Addr)} {G0 H0 : Hp}, RepOs σ C G0 H0 vs os g → FinsR C.toCb G H vs ys gs → Slots C G H σ δ Fs → PinOk C σ δ0 os → (gs.flatten ++ Fs.flatten).Nodup →
    ∃ Fs', Slots C G H σ (back δ0 os ys δ) Fs' ∧ Fs'.flatten.Nodup ∧ (∀ a ∈ Fs'.flatten, a ∈ gs.flatten ++ Fs.flatten) ∧ ∀ j, OV.at j ∉ os → (back δ0 os ys δ)[j]? = δ[j]? ∧ Fs'[j]? = Fs[j]?
  | [], [], _, [], δ, [], Fs, _, _, _, _, s, _, nd => ⟨Fs, s, by simpa using nd, fun a h => by simpa using h, fun _ _ => ⟨rfl, rfl⟩⟩
  | .val x :: os, v :: vs, _, y :: ys, δ, f :: gs, Fs, _, _, r, q, s, pk, nd => by
    obtain ⟨f1, f2, r1, r2, rfl⟩ := r
    have nd' : (gs.flatten ++ Fs.flatten).Nodup := by
      rw [List.flatten_cons, List.append_assoc] at nd
      exact (List.nodup_append.mp nd).2.1
    obtain ⟨Fs', s', n', k', kk⟩ := back_rep r2 q.2 s pk nd'
    have eb : back δ0 (.val x :: os) (y :: ys) δ = back δ0 os ys δ := by cases y <;> rfl
    rw [eb]
    refine ⟨Fs', s', n', fun a h => ?_, fun j hj => kk j fun m => hj (List.mem_cons_of_mem _ m)⟩
    have := k' a h
    rw [List.flatten_cons, List.append_assoc]
    exact List.mem_append_right _ this
  | .at i :: os, v :: vs, _, .un :: ys, δ, f :: gs, Fs, _, _, r, q, s, pk, nd => by
    obtain ⟨f1, f2, r1, r2, rfl⟩ := r
    have nd' : (gs.flatten ++ Fs.flatten).Nodup := by
      rw [List.flatten_cons, List.append_assoc] at nd
      exact (List.nodup_append.mp nd).2.1
    obtain ⟨Fs', s', n', k', kk⟩ := back_rep r2 q.2 s pk.2 nd'
    refine ⟨Fs', s', n', fun a h => ?_, fun j hj => kk j fun m => hj (List.mem_cons_of_mem _ m)⟩
    have := k' a h
    rw [List.flatten_cons, List.append_assoc]
    exact List.mem_append_right _ this
  | .at i :: os, v :: vs, _, .s p x :: ys, δ, f :: gs, Fs, _, _, r, q, s, pk, nd => by
    obtain ⟨f1, f2, r1, r2, rfl⟩ := r
    obtain ⟨e1, rfl⟩ := r1
    have q1 : RepV C.toCb G H v x f := q.1
    have len := s.len
    have hi : i < Fs.length := by
      have := (List.getElem?_eq_some_iff.mp e1).1
      omega
    obtain ⟨f0, hf0⟩ : ∃ f0, Fs[i]? = some f0 := ⟨Fs[i], List.getElem?_eq_getElem hi⟩
    have s2 : Slots C G H σ (δ.set i (.s (pinOf δ0 i) x)) (Fs.set i f) := SlotsP.setD s e1 fun p' hp' => ⟨v, rfl, q1, fun h => by
      have := pk.1 h v e1
      rw [hp'] at this; cases this; rfl⟩
    have pm := flat_perm hf0
    have p2 := flat_set (g := f) hi
    rw [List.flatten_cons, List.append_assoc] at nd
    have nd1 : (f ++ (gs.flatten ++ (f0 ++ (Fs.set i []).flatten))).Nodup := by
      refine (List.Perm.nodup_iff ?_).mp nd
      exact List.Perm.append_left _ (List.Perm.append_left _ pm)
    have nd2 : (gs.flatten ++ (Fs.set i f).flatten).Nodup := by
      have q0 : (f ++ (gs.flatten ++ (f0 ++ (Fs.set i []).flatten))).Perm (f0 ++ (gs.flatten ++ (f ++ (Fs.set i []).flatten))) := by
        have a1 : (f ++ (gs.flatten ++ (f0 ++ (Fs.set i []).flatten))).Perm (f ++ (f0 ++ (gs.flatten ++ (Fs.set i []).flatten))) := by
          refine List.Perm.append_left _ ?_
          rw [← List.append_assoc, ← List.append_assoc]
          exact List.Perm.append_right _ List.perm_append_comm
        have a2 : (f ++ (f0 ++ (gs.flatten ++ (Fs.set i []).flatten))).Perm (f0 ++ (f ++ (gs.flatten ++ (Fs.set i []).flatten))) := by
          rw [← List.append_assoc, ← List.append_assoc (as := f0)]
          exact List.Perm.append_right _ List.perm_append_comm
        have a3 : (f0 ++ (f ++ (gs.flatten ++ (Fs.set i []).flatten))).Perm (f0 ++ (gs.flatten ++ (f ++ (Fs.set i []).flatten))) := by
          refine List.Perm.append_left _ ?_
          rw [← List.append_assoc, ← List.append_assoc]
          exact List.Perm.append_right _ List.perm_append_comm
        exact a1.trans (a2.trans a3)
      have n3 := (List.nodup_append.mp (q0.nodup_iff.mp nd1)).2.1
      exact (List.Perm.append_left _ p2.symm).nodup_iff.mp n3
    obtain ⟨Fs', s', n', k', kk⟩ := back_rep r2 q.2 s2 pk.2 nd2
    have ne : ∀ j, OV.at j ∉ OV.at i :: os → i ≠ j := fun j hj e => hj (by rw [e]; exact List.mem_cons_self)
    refine ⟨Fs', s', n', fun a h => ?_, fun j hj => ?_⟩
    rotate_left
    · obtain ⟨k1, k2⟩ := kk j fun m => hj (List.mem_cons_of_mem _ m)
      exact ⟨k1.trans (List.getElem?_set_ne (ne j hj)), k2.trans (List.getElem?_set_ne (ne j hj))⟩
    have := k' a h
    rw [List.flatten_cons, List.append_assoc]
    rcases List.mem_append.mp this with h | h
    · simp [h]
    · rcases List.mem_append.mp (p2.mem_iff.mp h) with h | h
      · simp [h]
      · exact List.mem_append_right _ (List.mem_append_right _ (pm.mem_iff.mpr (List.mem_append_right _ h)))
  | .at _ :: _, _ :: _, _, .lm _ :: _, _, _ :: _, _, _, _, _, q, _, _, _ => q.1.elim
  | [], [], _, [], _, _ :: _, _, _, _, _, q, _, _, _ => q.elim
  | [], [], _, _ :: _, _, _, _, _, _, _, q, _, _, _ => q.elim
  | [], _ :: _, _, _, _, _, _, _, _, r, _, _, _, _ => r.elim
  | _ :: _, [], _, _, _, _, _, _, _, r, _, _, _, _ => by cases r
  | _ :: _, _ :: _, _, [], _, _, _, _, _, _, q, _, _, _ => by cases q
  | .val _ :: _, _ :: _, _, _ :: _, _, [], _, _, _, _, q, _, _, _ => by cases q
  | .at _ :: _, _ :: _, _, _ :: _, _, [], _, _, _, _, q, _, _, _ => by cases q
/-- the call itself, at the arguments' values -/
theorem call_out {W : WX} {T A : List Nat} {δ : Sls} {Fs : List (List Addr)} {B g : List Addr} {Q : VK} {n : Nat} {F : List DV → RF} {vs : List V} {os : List OV} (wd : Wd G H (Fs.flatten ++ (g ++ B))) (tt : Tbs C H) (sl : Slots C G H σ δ Fs) (r : RepOs σ C G H vs os g)
    (hA : ∀ j ∈ A, j ∈ T) (out : Out C rV W T σ G H δ Fs (Fs.flatten ++ (g ++ B)) Q (callIt A n F os δ)) : spF C.toCb n F vs H Q (fun cls d H => W cls d σ H) := by
  unfold callIt at out
  split at out
  rotate_left
  · exact out.elim
  rename_i hboth
  rw [Bool.and_eq_true] at hboth
  have hats := hboth.1
  refine ⟨r.len.trans (by simpa using hboth.2), ?_⟩
  cases e : takes os δ with
  | none => simp only [e] at out; exact out.elim
  | some q =>
    obtain ⟨xs, δ2⟩ := q
    simp only [e] at out
    obtain ⟨gs, Fs2, ar, s2, pm, kk⟩ := takes_rep r sl e
    have wd' : Wd G H ((Fs.flatten ++ g) ++ B) := by rw [List.append_assoc]; exact wd
    have wd2 : Wd G H (gs.flatten ++ (Fs2.flatten ++ B)) := by
      rw [← List.append_assoc]
      exact wd'.perm (List.Perm.append_right _ pm)
    have pins := pinOk_of sl os
    refine ⟨G, xs, gs, wd2.left, tt, ar, ?_⟩
    have more : ∀ a ∈ gs.flatten ++ (Fs2.flatten ++ B), a ∈ Fs.flatten ++ (g ++ B) := fun a h => by
      rw [← List.append_assoc] at h ⊢
      exact (List.Perm.append_right B pm).mem_iff.mpr h
    have fin : ∀ (ys : Sls) G' H' gs' g', Fw C.toCb G H gs.flatten G' H' (gs'.flatten ++ g') → FinsR C.toCb G' H' vs ys gs' →
        ∃ Fs', Slots C G' H' σ (back δ os ys δ2) Fs' ∧ Fw C.toCb G H (Fs.flatten ++ (g ++ B)) G' H' (Fs'.flatten ++ g') ∧ Kp T δ Fs H (back δ os ys δ2) Fs' H' := fun ys G' H' gs' g' w fr => by
      have w2 := Fw.frame w wd2
      have keep2 : ∀ a o, a ∈ Fs2.flatten → H a = some o → (∀ ps, o ≠ .tbl ps) → H' a = some o := fun a o m e t => w.hs a o e (fun m2 => wd2.dis a m2 (List.mem_append_left _ m)) t
      have s3 : Slots C G' H' σ δ2 Fs2 := SlotsP.mono w.gs s2 fun a o m e t => keep2 a o m e t
      have pm3 : ((gs'.flatten ++ g') ++ (Fs2.flatten ++ B)).Perm ((gs'.flatten ++ Fs2.flatten) ++ (g' ++ B)) := by
        rw [List.append_assoc, List.append_assoc]
        refine List.Perm.append_left _ ?_
        rw [← List.append_assoc, ← List.append_assoc]
        exact List.Perm.append_right _ List.perm_append_comm
      have nd3 := pm3.nodup_iff.mp w2.wd.nd
      obtain ⟨Fs', s', n', k', kk'⟩ := back_rep (δ0 := δ) r fr s3 pins (List.nodup_append.mp nd3).1
      refine ⟨Fs', s', ?_, fun j hj => ?_⟩
      · have sub : ∀ a ∈ Fs'.flatten ++ g', a ∈ (gs'.flatten ++ g') ++ (Fs2.flatten ++ B) := fun a h => by
          rcases List.mem_append.mp h with h | h
          · refine pm3.mem_iff.mpr ?_
            exact List.mem_append_left _ (k' a h)
          · simp [h]
        have nd4 : (Fs'.flatten ++ g').Nodup := by
          refine List.nodup_append.mpr ⟨n', (List.nodup_append.mp (List.nodup_append.mp nd3).2.1).1, fun a ha b hb e => ?_⟩
          subst e
          exact (List.nodup_append.mp nd3).2.2 a (k' a ha) a (List.mem_append_left _ hb) rfl
        exact (w2.more more).sub nd4 sub
      · have nj : OV.at j ∉ os := fun m => hj (hA j (atsOk_mem hats m))
        obtain ⟨a1, a2⟩ := kk j nj
        obtain ⟨b1, b2⟩ := kk' j nj
        refine ⟨b1.trans a1, b2.trans a2, fun f e a m o e2 t => ?_⟩
        exact keep2 a o (mem_flat (i := j) (f := f) (a2.trans e) a m) e2 t
    cases e3 : F xs with
    | bad => simp only [e3] at out; exact out.elim
    | ok d ys =>
      simp only [e3] at out ⊢
      intro v G' H' gs' g' w fr rv
      obtain ⟨Fs', s', w', kp⟩ := fin ys G' H' gs' g' w fr
      exact out v G' H' Fs' g' w' s' kp rv
    | er c ys =>
      simp only [e3] at out ⊢
      intro G' H' gs' w fr
      obtain ⟨Fs', s', w', kp⟩ := fin ys G' H' gs' [] (by rw [List.append_nil]; exact w) fr
      rw [List.append_nil] at w'
      exact out G' H' Fs' w' s'
section
variable {X : Cx} {T A : List Nat} {e : Expr} {es : List Expr}
theorem callF_out {C : Cc} {F : List DV → RF} {fs : Sls → Res (List OV)} {n : Nat} {W : WX} {σ : L2.St} {H : Hp} {Q : VK} (h : tG C rV W (T ++ A) (mCallF A n F fs) σ H Q) : tCallS (spF C.toCb n F) (WE W) (tG C rOs W T fs) σ H Q := by
  obtain ⟨G, δ, Fs, wd, tt, sl, out⟩ := h
  refine tG_of (P := []) (U := A) (by rw [List.append_nil]; exact wd) tt sl (k := fun os δ1 => callIt A n F os δ1) (by rw [List.append_nil]; exact out) (fun j => List.mem_append.mpr) fun vs os δ1 G1 H1 Fs1 g1 w1 wd1 tt1 sl1 kp1 r1 _ out1 => ?_
  exact call_out wd1 tt1 sl1 r1 (fun j h => h) out1
/-- f(e, ..) -/
theorem se_call {C : Cc} {x : Str} {p pos : Pos} {f : Addr} {fd : FuncData} {ps : List Str} {k n : Nat} {F : List DV → RF} {fs : Sls → Res (List OV)} (A : List Nat) (hF : FnOk X.prog X.w X.K X.mg X.base (L2.CX X.prog X.w) k f fd ps (spF C.toCb n F)) (hr : Room k X.A) (hg : Gl X x) (hm : X.mg x = some (.ref f)) (hk : PySem.W.keepIn X.K (.ref f) = true) (hb : Binds X.K fd ps [])
    (ha : SA X C T (e :: es) fs) (hdb : (x == ("__debug__" : Str)) = false := by decide) (he : starEach (e :: es) X.env = (false, eval e X.env) :: starEach es X.env := by rfl) (hpl : (backTo pos (starEach es X.env)).any (·.1) = false := by rfl) :
    SE X C (T ++ A) (.Call (.Name x p) (e :: es) [] pos) (mCallF A n F fs) :=
  ⟨fun W tk => PE.imp (pe_callS (E := WE W) hF hr hg hm hk hb (fun σ => passAt tk σ) (ha.run W tk) hdb he hpl) fun _ _ _ => callF_out⟩
end
end
end Pv

set_option Elab.async false
set_option linter.all false
set_option maxRecDepth 100000
/-! PvI: targets, loops. -/
namespace Pv
open PySem PySem.Spec L2

/-! ### targets -/
def ofO (o : Option Sls) : RS := match o with
  | some δ => .nx δ
  | none => .bad
/-- the same but for the slots of L -/
def Ow1 (L : List Nat) (σ σ' : L2.St) : Prop := (∀ j, j ∉ L → σ'[j]? = σ[j]?) ∧ σ'.length = σ.length
theorem Ow1.refl {L : List Nat} {σ : L2.St} : Ow1 L σ σ := ⟨fun _ _ => rfl, rfl⟩
theorem Ow1.trans {L M : List Nat} {σ σ1 σ2 : L2.St} (a : Ow1 L σ σ1) (b : Ow1 M σ1 σ2) : Ow1 (L ++ M) σ σ2 := ⟨fun j hj => (b.1 j fun m => hj (List.mem_append_right _ m)).trans (a.1 j fun m => hj (List.mem_append_left _ m)), b.2.trans a.2⟩
def tTg (C : Cc) (L : List Nat) (st : DV → Sls → Option Sls) : TG := fun v σ H Q => ∃ G δ Fs g x δ', Wd G H (Fs.flatten ++ g) ∧ Slots C G H σ δ Fs ∧ RepV C G H v x g ∧ st x δ = some δ' ∧
  ∀ σ' G' H' Fs', Fw C G H (Fs.flatten ++ g) G' H' Fs'.flatten → Slots C G' H' σ' δ' Fs' → Ow1 L σ σ' → Kp L δ Fs H δ' Fs' H' → Q σ' H'
structure SG (X : Cx) (C : Cc) (L : List Nat) (tg : Expr) (st : DV → Sls → Option Sls) : Prop where
  run : PG X tg (tTg C L st)
def stoO (i : Nat) (x : DV) (δ : Sls) : Option Sls := match δ[i]? with
  | some (.s true _) => none
  | some _ => some (δ.set i (.s false x))
  | none => none
def kidVs : DV → Option (List DV)
  | .fr (.tup ds) => some (ds.map .fr)
  | .ow (.tup ds) => some (ds.map .ow)
  | _ => none
def stAll : List (DV → Sls → Option Sls) → List DV → Sls → Option Sls
  | [], [], δ => some δ
  | st :: sts, x :: xs, δ => (st x δ).bind fun δ1 => stAll sts xs δ1
  | _, _, _ => none
def stTup (sts : List (DV → Sls → Option Sls)) : DV → Sls → Option Sls := fun x δ => (kidVs x).bind fun xs => stAll sts xs δ

section
variable {X : Cx} {C : Cc} {T U A : List Nat} {st : Stmt} {e a b tg : Expr} {es : List Expr} {pos : Pos}
theorem PG.imp {g g' : TG} (h : PG X tg g) (i : ∀ v σ H Q, g' v σ H Q → g v σ H Q) : PG X tg g' := ⟨fun pins s σ H v u Q I r q => h.run pins s σ H v u Q I r (i v σ H Q q)⟩
theorem PGs.imp {tgs : List Expr} {g g' : TGs} (h : PGs X tgs g) (i : ∀ v σ H Q, g' v σ H Q → g v σ H Q) : PGs X tgs g' := ⟨fun pins s σ H v u Q I r q => h.run pins s σ H v u Q I r (i v σ H Q q)⟩
theorem len2 {α : Type} {l : List α} (h : l.length = 2) : ∃ x y, l = [x, y] := by
  match l, h with
  | [x, y], _ => exact ⟨x, y, rfl⟩
theorem len3 {α : Type} {l : List α} (h : l.length = 3) : ∃ x y z, l = [x, y, z] := by
  match l, h with
  | [x, y, z], _ => exact ⟨x, y, z, rfl⟩
theorem stoO_some {δ δ' : Sls} {i : Nat} {x : DV} (h : stoO i x δ = some δ') : (∃ s, δ[i]? = some s) ∧ δ' = δ.set i (.s false x) ∧ sto i x δ = .nx δ' := by
  unfold stoO at h
  split at h
  · cases h
  · rename_i s hn hs
    cases h
    refine ⟨⟨s, hs⟩, rfl, ?_⟩
    cases s with
    | un => simp only [sto, hs]
    | lm is => simp only [sto, hs]
    | s p y => cases p with
      | true => exact (hn y rfl).elim
      | false => simp only [sto, hs]
  · cases h
theorem stoO_out {G H : Hp} {σ : L2.St} {δ δ' : Sls} {Fs : List (List Addr)} {B g : List Addr} {i : Nat} {x : DV} {v : V} (wd : Wd G H (Fs.flatten ++ (g ++ B))) (sl : Slots C G H σ δ Fs) (r : RepV C G H v x g) (h : stoO i x δ = some δ') :
    Slots C G H (σ.set i (some v)) δ' (Fs.set i g) ∧ Wd G H ((Fs.set i g).flatten ++ B) ∧ (∀ a ∈ (Fs.set i g).flatten ++ B, a ∈ Fs.flatten ++ (g ++ B)) := by
  obtain ⟨⟨s, hs⟩, e1, e⟩ := stoO_some h
  have out : OutS C (fun _ _ _ _ => True) G H (Fs.flatten ++ (g ++ B)) { nx := fun _ _ => True, rt := fun _ _ => True } (sto i x δ) := by
    rw [e]; exact fun _ _ _ _ _ _ => trivial
  obtain ⟨δ2, s2, _, w2, e2⟩ := sto_out wd sl r out
  have e3 : δ' = δ2 := e1.trans e2.symm
  subst e3
  refine ⟨s2, w2, fun a ha => ?_⟩
  obtain ⟨pp, y, f, h0, h1, h2, _⟩ := SlotsP.get sl hs
  have hl : i < Fs.length := (List.getElem?_eq_some_iff.mp h2).1
  rcases List.mem_append.mp ha with h | h
  · rcases List.mem_append.mp ((flat_set (g := g) hl).mem_iff.mp h) with h | h
    · simp [h]
    · exact List.mem_append_left _ ((flat_perm h2).mem_iff.mpr (List.mem_append_right _ h))
  · simp [h]
theorem tg_name {i : Nat} (h : PG X tg (gName i)) : SG X C [i] tg (stoO i) := by
  refine ⟨PG.imp h fun v σ H Q ⟨G, δ, Fs, g, x, δ', wd, sl, r, hs, k⟩ => ?_⟩
  obtain ⟨s2, w2, sub⟩ := stoO_out (B := []) (by rw [List.append_nil]; exact wd) sl r hs
  rw [List.append_nil] at w2 sub
  refine k _ G H _ ((Fw.refl w2).more fun a h => by have := sub a h; rwa [List.append_nil] at this) s2 ⟨fun j hj => List.getElem?_set_ne fun e => hj (by simp [e]), List.length_set⟩ ?_
  rw [(stoO_some hs).2.1]
  exact kp_set (by simp) fun _ _ _ h _ => h
/-- several targets -/
def tTgs (C : Cc) (L : List Nat) (sts : List (DV → Sls → Option Sls)) : TGs := fun vs σ H Q => ∃ G δ Fs g xs δ', Wd G H (Fs.flatten ++ g) ∧ Slots C G H σ δ Fs ∧ RepVs C G H vs xs g ∧ stAll sts xs δ = some δ' ∧
  ∀ σ' G' H' Fs', Fw C G H (Fs.flatten ++ g) G' H' Fs'.flatten → Slots C G' H' σ' δ' Fs' → Ow1 L σ σ' → Kp L δ Fs H δ' Fs' H' → Q σ' H'
structure SGs (X : Cx) (C : Cc) (L : List Nat) (tgs : List Expr) (sts : List (DV → Sls → Option Sls)) : Prop where
  run : PGs X tgs (tTgs C L sts)
theorem tgs_nil : SGs X C [] [] [] := by
  refine ⟨PGs.imp pgs_nil fun vs σ H Q ⟨G, δ, Fs, g, xs, δ', wd, sl, r, hs, k⟩ => ?_⟩
  cases xs with
  | nil =>
    cases vs with
    | nil =>
      simp only [stAll] at hs
      cases hs
      have eg : g = [] := r
      subst eg
      exact ⟨rfl, k σ G H Fs (by rw [List.append_nil] at wd ⊢; exact Fw.refl wd) sl Ow1.refl Kp.refl⟩
    | cons v vs => exact r.elim
  | cons x xs => simp only [stAll] at hs; cases hs
theorem RepVs.mono {C : Cb} {G H G' H' : Hp} (hG : ∀ a o, G a = some o → G' a = some o) : ∀ {vs : List V} {xs : List DV} {f : List Addr}, RepVs C G H vs xs f → (∀ a o, a ∈ f → H a = some o → (∀ ps, o ≠ .tbl ps) → H' a = some o) → RepVs C G' H' vs xs f
  | [], [], _, r, _ => r
  | v :: vs, x :: xs, f, r, hH => by
    obtain ⟨f1, f2, r1, r2, rfl⟩ := r
    exact ⟨f1, f2, r1.mono hG fun a o m => hH a o (List.mem_append_left _ m), RepVs.mono hG r2 (fun a o m => hH a o (List.mem_append_right _ m)), rfl⟩
  | [], _ :: _, _, r, _ => r.elim
  | _ :: _, [], _, r, _ => r.elim
theorem tgs_cons {L M : List Nat} {tgs : List Expr} {s : DV → Sls → Option Sls} {sts : List (DV → Sls → Option Sls)} (h : SG X C L tg s) (h' : SGs X C M tgs sts) (hs : (assignEach (tg :: tgs) X.env).map (·.2) = assign tg X.env :: (assignEach tgs X.env).map (·.2) := by rfl) : SGs X C (L ++ M) (tg :: tgs) (s :: sts) := by
  refine ⟨PGs.imp (pgs_cons h.run h'.run hs) fun vs σ H Q ⟨G, δ, Fs, g, xs, δ', wd, sl, r, hst, k⟩ => ?_⟩
  cases xs with
  | nil => simp only [stAll] at hst; cases hst
  | cons x xs =>
    cases vs with
    | nil => exact r.elim
    | cons v vs =>
      obtain ⟨f1, f2, r1, r2, rfl⟩ := r
      simp only [stAll] at hst
      cases e : s x δ with
      | none => rw [e] at hst; cases hst
      | some δ1 =>
        rw [e] at hst
        simp only [Option.bind_some] at hst
        refine ⟨v, vs, rfl, G, δ, Fs, f1, x, δ1, ?_, sl, r1, e, fun σ1 G1 H1 Fs1 w1 s1 l1 kp1 => ?_⟩
        · rw [← List.append_assoc] at wd; exact wd.left
        · have wd' : Wd G H ((Fs.flatten ++ f1) ++ f2) := by rw [List.append_assoc]; exact wd
          have w2 := w1.frame wd'
          refine ⟨G1, δ1, Fs1, f2, xs, δ', w2.wd, s1, r2.mono w1.gs fun a o m e t => w1.hs a o e (fun m2 => wd'.dis a m2 m) t, hst, fun σ' G' H' Fs' w3 s3 l3 kp3 => k σ' G' H' Fs' ?_ s3 (l1.trans l3) (kp1.trans kp3)⟩
          rw [List.append_assoc] at w2
          exact w2.trans w3
theorem kidVs_rep {G H : Hp} {x : DV} {v : V} {g : List Addr} {xs : List DV} (r : RepV C G H v x g) (h : kidVs x = some xs) : ∃ a vs, v = .ref a ∧ SqT C.K G a vs ∧ RepVs C G H vs xs g := by
  have frs : ∀ {vs : List V} {ds : List D}, Reps C G H vs ds [] → RepVs C G H vs (ds.map .fr) [] := by
    intro vs
    induction vs with
    | nil => intro ds r; cases ds with
      | nil => exact rfl
      | cons => simp only [Reps] at r
    | cons v vs ih => intro ds r; cases ds with
      | nil => simp only [Reps] at r
      | cons d ds =>
        obtain ⟨r1, r2⟩ := Reps.cons0.mp r
        exact ⟨[], [], ⟨r1, rfl⟩, ih r2, rfl⟩
  have ows : ∀ {vs : List V} {ds : List D} {g : List Addr}, Reps C G H vs ds g → RepVs C G H vs (ds.map .ow) g := by
    intro vs
    induction vs with
    | nil => intro ds g r; cases ds with
      | nil => simp only [Reps] at r; exact r
      | cons => simp only [Reps] at r
    | cons v vs ih => intro ds g r; cases ds with
      | nil => simp only [Reps] at r
      | cons d ds =>
        simp only [Reps] at r
        obtain ⟨f1, f2, r1, r2, rfl⟩ := r
        exact ⟨f1, f2, r1, ih r2, rfl⟩
  unfold kidVs at h
  split at h <;> cases h
  · obtain ⟨⟨a, vs, e, q, rs⟩, rfl⟩ := r
    exact ⟨a, vs, e, q, frs rs⟩
  · obtain ⟨a, vs, e, q, rs⟩ := r
    exact ⟨a, vs, e, q, ows rs⟩
theorem stAll_len : ∀ {sts : List (DV → Sls → Option Sls)} {xs : List DV} {δ δ' : Sls}, stAll sts xs δ = some δ' → xs.length = sts.length
  | [], [], _, _, _ => rfl
  | s :: sts, x :: xs, δ, _, h => by
    simp only [stAll] at h
    cases e : s x δ with
    | none => rw [e] at h; cases h
    | some δ1 =>
      rw [e] at h
      have := stAll_len (sts := sts) (xs := xs) h
      simp [this]
  | [], _ :: _, _, _, h => by simp only [stAll] at h; cases h
  | _ :: _, [], _, _, h => by simp only [stAll] at h; cases h
theorem tg_tup {L : List Nat} {k : Nat} {sts : List (DV → Sls → Option Sls)} (hK : X.K = C.K) (hc : X.calm = true) (h : SGs X C L es sts) (hn : (assignEach es X.env).length = sts.length := by rfl) (hst : (assignEach es X.env).findIdx? (·.1) = none := by rfl) : SG X C L (.Tuple es k pos) (stTup sts) := by
  refine ⟨PG.imp (pg_tup hc h.run hn hst) fun v σ H Q ⟨G, δ, Fs, g, x, δ', wd, sl, r, hs, k⟩ => ?_⟩
  unfold stTup at hs
  cases e : kidVs x with
  | none => rw [e] at hs; cases hs
  | some xs =>
    rw [e] at hs
    simp only [Option.bind_some] at hs
    obtain ⟨a, vs, rfl, q, rs⟩ := kidVs_rep r e
    refine ⟨a, vs, rfl, by rw [hK]; exact sqT_mono wd.le q, ?_, G, δ, Fs, g, xs, δ', wd, sl, rs, hs, k⟩
    rw [rs.len, stAll_len (sts := sts) hs]

/-! ### assignment -/
def sAsg (s : DV → Sls → Option Sls) (f : Sls → Res DV) : Sls → RS := fun δ => (f δ).thenS fun x δ1 => ofO (s x δ1)
theorem ss_asg {L : List Nat} {s : DV → Sls → Option Sls} {f : Sls → Res DV} (h : SE X C T e f) (ht : SG X C L tg s) (hp : ∀ {te : TE} {g : TG}, PE X e te → PG X tg g → PS X st (tAsg te g)) : SS X C st (sAsg s f) := by
  refine ⟨fun W tk => PS.imp (hp (h.run W tk) ht.run) fun D σ H q => tS_of (T := T) q fun v x δ1 G1 H1 Fs1 g wd tt sl r out => ?_⟩
  cases e : s x δ1 with
  | none => rw [e] at out; exact out.elim
  | some δ' =>
    rw [e] at out
    exact ⟨G1, δ1, Fs1, g, x, δ', wd, sl, r, e, fun σ' G' H' Fs' w s _ _ => out σ' G' H' Fs' w s⟩
/-- a, b = x, y with local names -/
def sPar (sts : List (DV → Sls → Option Sls)) (fs : Sls → Res (List OV)) : Sls → RS := fun δ => (fs δ).thenS fun os δ1 => ofO ((vals os).bind fun xs => stAll sts xs δ1)
theorem ss_par2 {i j : Nat} {fs : Sls → Res (List OV)} (h : SA X C T es fs) (hp : ∀ {ta : TA}, PA X es ta → PS X st (tPar i j ta)) : SS X C st (sPar [stoO i, stoO j] fs) := by
  refine ⟨fun W tk => PS.imp (hp (h.run W tk)) fun D σ H q => tS_of (T := T) q fun vs os δ1 G1 H1 Fs1 g wd tt sl r out => ?_⟩
  cases e : vals os with
  | none => rw [e] at out; exact out.elim
  | some xs =>
    rw [e] at out
    simp only [Option.bind_some] at out
    cases e2 : stAll [stoO i, stoO j] xs δ1 with
    | none => rw [e2] at out; exact out.elim
    | some δ' =>
      rw [e2] at out
      have rv := r.vals e
      have hl := stAll_len (sts := [stoO i, stoO j]) e2
      obtain ⟨x, y, rfl⟩ := len2 hl
      obtain ⟨v, w', rfl⟩ := len2 (rv.len.trans hl)
      · obtain ⟨f1, g2, r1, ⟨f2, g3, r2, rz, eg2⟩, eg⟩ := rv
        have ez : g3 = [] := rz
        subst ez eg2 eg
        simp only [stAll] at e2
        cases e3 : stoO i x δ1 with
        | none => rw [e3] at e2; cases e2
        | some δ2 =>
          rw [e3] at e2
          simp only [Option.bind_some] at e2
          cases e4 : stoO j y δ2 with
          | none => rw [e4] at e2; cases e2
          | some δ3 =>
            rw [e4] at e2
            cases e2
            obtain ⟨s2, w2, sub2⟩ := stoO_out (B := f2) (by rw [List.append_nil] at wd; exact wd) sl r1 e3
            obtain ⟨s3, w3, sub3⟩ := stoO_out (B := []) (by rw [List.append_nil]; exact w2) s2 r2 e4
            refine ⟨v, w', rfl, out _ G1 H1 _ ((Fw.refl (by rw [List.append_nil] at w3; exact w3)).more fun a h => ?_) s3⟩
            have := sub3 a (by rw [List.append_nil]; exact h)
            rw [List.append_nil] at this
            have := sub2 a this
            rw [List.append_nil]; exact this
theorem ss_par3 {i j l : Nat} {fs : Sls → Res (List OV)} (h : SA X C T es fs) (hp : ∀ {ta : TA}, PA X es ta → PS X st (tPar3 i j l ta)) : SS X C st (sPar [stoO i, stoO j, stoO l] fs) := by
  refine ⟨fun W tk => PS.imp (hp (h.run W tk)) fun D σ H q => tS_of (T := T) q fun vs os δ1 G1 H1 Fs1 g wd tt sl r out => ?_⟩
  cases e : vals os with
  | none => rw [e] at out; exact out.elim
  | some xs =>
    rw [e] at out
    simp only [Option.bind_some] at out
    cases e2 : stAll [stoO i, stoO j, stoO l] xs δ1 with
    | none => rw [e2] at out; exact out.elim
    | some δ' =>
      rw [e2] at out
      have rv := r.vals e
      have hl := stAll_len (sts := [stoO i, stoO j, stoO l]) e2
      obtain ⟨x, y, z, rfl⟩ := len3 hl
      obtain ⟨v, w', u, rfl⟩ := len3 (rv.len.trans hl)
      · obtain ⟨f1, g2, r1, ⟨f2, g3, r2, ⟨f3, g4, r3, rz, eg3⟩, eg2⟩, eg⟩ := rv
        have ez : g4 = [] := rz
        subst ez eg3 eg2 eg
        simp only [stAll] at e2
        cases e3 : stoO i x δ1 with
        | none => rw [e3] at e2; cases e2
        | some δ2 =>
          rw [e3] at e2
          simp only [Option.bind_some] at e2
          cases e4 : stoO j y δ2 with
          | none => rw [e4] at e2; cases e2
          | some δ3 =>
            rw [e4] at e2
            simp only [Option.bind_some] at e2
            cases e5 : stoO l z δ3 with
            | none => rw [e5] at e2; cases e2
            | some δ4 =>
              rw [e5] at e2
              cases e2
              obtain ⟨s2, w2, sub2⟩ := stoO_out (B := f2 ++ f3) (by rw [List.append_nil] at wd; exact wd) sl r1 e3
              obtain ⟨s3, w3, sub3⟩ := stoO_out (B := f3) w2 s2 r2 e4
              obtain ⟨s4, w4, sub4⟩ := stoO_out (B := []) (by rw [List.append_nil]; exact w3) s3 r3 e5
              refine ⟨v, w', u, rfl, out _ G1 H1 _ ((Fw.refl (by rw [List.append_nil] at w4; exact w4)).more fun a h => ?_) s4⟩
              have := sub4 a (by rw [List.append_nil]; exact h)
              rw [List.append_nil] at this
              have := sub2 a (sub3 a this)
              rw [List.append_nil]; exact this

/-! ### loops -/
def iterS (s : DV → Sls → Option Sls) (body : Sls → RS) : List DV → Sls → RS
  | [], δ => .nx δ
  | x :: xs, δ => match s x δ with
    | none => .bad
    | some δ1 => match body δ1 with
      | .nx δ2 => iterS s body xs δ2
      | .ct δ2 => iterS s body xs δ2
      | .bk δ2 => .nx δ2
      | m => m
/-- a walk over data: Pn tells what stands ready at turn j, P: what it owns -/
structure Wk (C : Cb) (J : It) (item : Nat → DV) (n : Nat) (Pn : Nat → Hp → Hp → List Addr → Prop) : Prop where
  go : ∀ j G H P, j < n → Wd G H P → Pn j G H P → J.go j H
  stop : ∀ G H P, Wd G H P → Pn n G H P → J.stop n H
  yld : ∀ j G H P x H', j < n → Wd G H P → Pn j G H P → J.yld j H x H' → ∃ G' g P', Fw C G H P G' H' (g ++ P') ∧ RepV C G' H' x (item j) g ∧ Pn (j + 1) G' H' P' ∧ ∀ a o, H a = some o → (∀ ps, o ≠ .tbl ps) → H' a = some o
  mono : ∀ j G H P G' H', Pn j G H P → (∀ a o, G a = some o → G' a = some o) → (∀ a o, a ∈ P → H a = some o → (∀ ps, o ≠ .tbl ps) → H' a = some o) → Pn j G' H' P
def fromTo (item : Nat → DV) (j n : Nat) : List DV := (List.range' j (n - j)).map item
theorem fromTo_lt {item : Nat → DV} {j n : Nat} (h : j < n) : fromTo item j n = item j :: fromTo item (j + 1) n := by
  unfold fromTo
  obtain ⟨k, hk⟩ : ∃ k, n - j = k + 1 := ⟨n - j - 1, by omega⟩
  rw [hk, List.range'_succ, List.map_cons, show n - (j + 1) = k from by omega]
theorem fromTo_end {item : Nat → DV} {n : Nat} : fromTo item n n = [] := by simp [fromTo]
theorem for_out {L : List Nat} {J : It} {item : Nat → DV} {n : Nat} {Pn : Nat → Hp → Hp → List Addr → Prop} (wk : Wk C.toCb J item n Pn) {s : DV → Sls → Option Sls} {body : Sls → RS} {W : WX} {D : Ends} {σ : L2.St} {G H : Hp} {δ : Sls} {Fs : List (List Addr)} {P : List Addr} (wd : Wd G H (Fs.flatten ++ P)) (tt : Tbs C H) (sl : Slots C G H σ δ Fs) (hp : Pn 0 G H P)
    (out : OutS C W G H (Fs.flatten ++ P) D (iterS s body (fromTo item 0 n) δ)) :
    ∃ Wi : Nat → Nat → L2.St → Hp → Prop, (∃ m, Wi 0 m σ H) ∧ ∀ i m σ H, Wi i m σ H → (J.stop i H ∧ D.nx σ H) ∨ (J.go i H ∧ ∃ N : L2.St → Hp → Prop, (∀ σ' H', N σ' H' → ∃ m', m' < m ∧ Wi (i + 1) m' σ' H') ∧
      ∀ x H', J.yld i H x H' → tTg C L s x σ H' fun σ2 H2 => tS C W body { D with nx := N, ct := N, bk := D.nx } σ2 H2) := by
  refine ⟨fun i m σ H => i ≤ n ∧ m = n - i ∧ ∃ G δ Fs P, Wd G H (Fs.flatten ++ P) ∧ Tbs C H ∧ Slots C G H σ δ Fs ∧ Pn i G H P ∧ OutS C W G H (Fs.flatten ++ P) D (iterS s body (fromTo item i n) δ), ⟨n, Nat.zero_le _, rfl, G, δ, Fs, P, wd, tt, sl, hp, out⟩, ?_⟩
  rintro i m σ H ⟨hi, rfl, G, δ, Fs, P, wd, tt, sl, hp, out⟩
  by_cases hn : i < n
  · refine .inr ⟨wk.go i G H P hn wd.right hp, fun σ' H' => i + 1 ≤ n ∧ ∃ G δ Fs P, Wd G H' (Fs.flatten ++ P) ∧ Tbs C H' ∧ Slots C G H' σ' δ Fs ∧ Pn (i + 1) G H' P ∧ OutS C W G H' (Fs.flatten ++ P) D (iterS s body (fromTo item (i + 1) n) δ), ?_, ?_⟩
    · rintro σ' H' ⟨h1, h2⟩
      exact ⟨n - (i + 1), by omega, h1, rfl, h2⟩
    · intro x H' hy
      rw [fromTo_lt hn] at out
      obtain ⟨G1, g, P1, w1, r1, hp1, keep⟩ := wk.yld i G H P x H' hn wd.right hp hy
      have wdc : Wd G H (P ++ Fs.flatten) := wd.perm List.perm_append_comm
      have w2 := w1.frame wdc
      have pm : ((g ++ P1) ++ Fs.flatten).Perm ((Fs.flatten ++ g) ++ P1) := by
        refine List.perm_append_comm.trans ?_
        rw [List.append_assoc]
      have w3 : Fw C G H (Fs.flatten ++ P) G1 H' ((Fs.flatten ++ g) ++ P1) := (w2.perm pm).more fun a h => by
        rcases List.mem_append.mp h with h | h
        · exact List.mem_append_right _ h
        · exact List.mem_append_left _ h
      have sl1 : Slots C G1 H' σ δ Fs := sl.mono w1.gs fun a o _ e t => keep a o e t
      have out1 := out.step w3
      simp only [iterS] at out1
      cases es : s (item i) δ with
      | none => simp only [es] at out1; exact out1.elim
      | some δ1 =>
        simp only [es] at out1
        refine ⟨G1, δ, Fs, g, item i, δ1, w3.wd.left, sl1, r1, es, fun σ2 G2 H2 Fs2 w4 s2 _ _ => ?_⟩
        have w5 := w4.frame w3.wd
        have hp2 : Pn (i + 1) G2 H2 P1 := wk.mono _ _ _ _ _ _ hp1 w4.gs fun a o m e t => w4.hs a o e (fun m2 => w3.wd.dis a m2 m) t
        have out2 := out1.step w5
        refine ⟨G2, δ1, Fs2, w4.wd, w5.tt (w3.tt tt), s2, ?_⟩
        have next : ∀ δ', OutS C W G2 H2 (Fs2.flatten ++ P1) D (iterS s body (fromTo item (i + 1) n) δ') → ∀ σ' G' H'' Fs', Fw C G2 H2 Fs2.flatten G' H'' Fs'.flatten → Slots C G' H'' σ' δ' Fs' →
            i + 1 ≤ n ∧ ∃ G δ Fs P, Wd G H'' (Fs.flatten ++ P) ∧ Tbs C H'' ∧ Slots C G H'' σ' δ Fs ∧ Pn (i + 1) G H'' P ∧ OutS C W G H'' (Fs.flatten ++ P) D (iterS s body (fromTo item (i + 1) n) δ) := fun δ' o σ' G' H'' Fs' w6 s6 => by
          have w7 := w6.frame w5.wd
          exact ⟨hn, G', δ', Fs', P1, w7.wd, w7.tt (w5.tt (w3.tt tt)), s6, wk.mono _ _ _ _ _ _ hp2 w6.gs fun a o m e t => w6.hs a o e (fun m2 => w5.wd.dis a m2 m) t, o.step w7⟩
        cases eb : body δ1 with
        | nx δ' => simp only [eb] at out2; exact next δ' out2
        | ct δ' => simp only [eb] at out2; exact next δ' out2
        | bk δ' =>
          simp only [eb] at out2
          exact fun σ' G' H'' Fs' w6 s6 => out2 σ' G' H'' Fs' ((w6.frame w5.wd).left) s6
        | rt d δ' =>
          simp only [eb] at out2
          intro v σ' G' H'' Fs' g' w6 s6 r6
          have w7 := w6.frame w5.wd
          exact out2 v σ' G' H'' Fs' g' w7.left s6 r6
        | er c δ' =>
          simp only [eb] at out2
          exact fun σ' G' H'' Fs' w6 s6 => out2 σ' G' H'' Fs' ((w6.frame w5.wd).left) s6
        | bad => simp only [eb] at out2; exact (show False from out2).elim
  · have e : i = n := by omega
    subst e
    rw [fromTo_end] at out
    refine .inl ⟨wk.stop G H P wd.right hp, ?_⟩
    exact out σ G H Fs ((Fw.refl wd.left).more fun a h => List.mem_append_left _ h) sl
end
end Pv

set_option Elab.async false
set_option linter.all false
set_option maxRecDepth 100000
/-! PvJ: for, while, append, item stores, raise, try. -/
namespace Pv
open PySem PySem.Spec L2

abbrev rI : RepOf It (List DV) := fun _ C G H J xs P => ∃ item n Pn, Wk C.toCb J item n Pn ∧ fromTo item 0 n = xs ∧ Pn 0 G H P
structure SI (X : Cx) (C : Cc) (T : List Nat) (tg iter : Expr) (f : Sls → Res (List DV)) : Prop where
  run : ∀ W, Takes X W → PI X tg iter (tG C rI W T f)
section
variable {X : Cx} {C : Cc} {T U A : List Nat} {st : Stmt} {e a b tg iter : Expr} {es : List Expr} {pos : Pos}
theorem PI.imp {t t' : TI} (h : PI X tg iter t) (i : ∀ σ H R, t' σ H R → t σ H R) : PI X tg iter t' := ⟨fun pins s σ H R I q => h.run pins s σ H R I (i σ H R q)⟩
def sFor (s : DV → Sls → Option Sls) (f : Sls → Res (List DV)) (body : Sls → RS) : Sls → RS := fun δ => (f δ).thenS fun xs δ1 => iterS s body xs δ1
theorem ss_for {L : List Nat} {s : DV → Sls → Option Sls} {f : Sls → Res (List DV)} {bd : List Stmt} {body : Sls → RS} (hp : PassesOwn (model X.prog X.w) X.A X.env X.xe) (hc : X.calm = true) (hi : SI X C T tg iter f) (hg : SG X C L tg s) (hb : SSs X C bd body) (hs : ∀ x, foldedSetIterable iter X.env x = pure x := by intro _; rfl) :
    SS X C (.For tg iter bd [] pos) (sFor s f body) := by
  refine ⟨fun W tk => PS.imp (ps_for hp hc (hi.run W tk) hg.run (hb.run W tk) hs) fun D σ H q => tS_of (T := T) q fun J xs δ1 G1 H1 Fs1 g wd tt sl r out => ?_⟩
  obtain ⟨item, n, Pn, wk, rfl, hp⟩ := r
  exact for_out wk wd tt sl hp out

/-! ### what is walked -/
def iAny (K : PySem.W.Frag) (tl : TE) : TI := fun σ H R => tl σ H fun x H1 => (∃ a, x = .ref a ∧ (∃ xs, SqL K H1 a xs) ∧ R (Itl K a) H1) ∨ (∃ a, x = .ref a ∧ (∃ xs, SqT K H1 a xs) ∧ R (Itt K a) H1) ∨ ∃ y, x = .str y ∧ R (Its y) H1
theorem pi_any {l : Expr} {tl : TE} (hl : PE X l tl) : PI X tg l (iAny X.K tl) := by
  refine ⟨fun pins s σ H R I h => ?_⟩
  refine thn (hl.run pins s σ H _ I h) fun v s1 ⟨x, H1, I1, r1, q1⟩ => ?_
  rcases q1 with ⟨a, e, ⟨xs, hq⟩, q⟩ | ⟨a, e, ⟨xs, hq⟩, q⟩ | ⟨y, ey, q⟩
  · subst e
    cases r1
    obtain ⟨its, rv, p, hz⟩ := I1.list hq
    refine wpAny_pyIter_list p.isList ?_
    refine ⟨s1.heap.objs.size, [s1.heap.objs.size], _, _, H1, rfl, I1.kept (t' := s1.toks) fun b o e => Heap.get?_push_of_some _ e, turn_list a _, ⟨_, Heap.get?_push_size _ rfl, rfl, rfl⟩, fun b hb => ?_, q⟩
    have e : b = s1.heap.objs.size := by simpa using hb
    subst e
    exact I1.fpOk (Nat.le_refl _) (I1.hok.fresh (Nat.le_refl _))
  · subst e
    cases r1
    obtain ⟨its, rv, p, hz⟩ := I1.tuple hq
    refine wpAny_pyIter_tuple (show s1.heap.IsTuple a its.toArray from p) ?_
    refine ⟨s1.heap.objs.size, [s1.heap.objs.size], _, _, H1, rfl, I1.kept (t' := s1.toks) fun b o e => Heap.get?_push_of_some _ e, turn_tuple a _, ⟨_, Heap.get?_push_size _ rfl, rfl, rfl⟩, fun b hb => ?_, q⟩
    have e : b = s1.heap.objs.size := by simpa using hb
    subst e
    exact I1.fpOk (Nat.le_refl _) (I1.hok.fresh (Nat.le_refl _))
  · subst ey
    obtain ⟨t, rfl⟩ := r1
    cases ha : y.cps.all (· < 128)
    · exact wpAny_pyIter_wide ha (pi_one (tk := s1.toks) I1 _ (turn_str _ y t "str_iterator" (.inr rfl)) ⟨_, Heap.get?_push_size _ rfl, rfl, rfl⟩ q)
    · exact wpAny_pyIter_ascii ha (pi_one (tk := s1.toks) I1 _ (turn_str _ y t "str_ascii_iterator" (.inl rfl)) ⟨_, Heap.get?_push_size _ rfl, rfl, rfl⟩ q)
/-- the items of a value that is walked -/
def walkD : DV → Option (List DV)
  | .fr (.lst .fz ds) => some (ds.map .fr)
  | .fr (.lst .ex ds) => some (ds.map .fr)
  | .fr (.tup ds) => some (ds.map .fr)
  | .fr (.str s) => some (s.map fun c => .fr (.str [c]))
  | .ow (.lst .fz ds) => some (ds.map .fr)
  | .ow (.lst .ex ds) => some (ds.map .fr)
  | .ow (.lst .own ds) => some (ds.map .fr)
  | .ow (.lst .deep ds) => some (ds.map .ow)
  | .ow (.tup ds) => some (ds.map .ow)
  | _ => none
theorem frs_rep {C : Cb} {G H : Hp} : ∀ {vs : List V} {ds : List D}, Reps C G H vs ds [] → RepVs C G H vs (ds.map .fr) []
  | [], [], _ => rfl
  | v :: vs, d :: ds, r => ⟨[], [], ⟨(Reps.cons0.mp r).1, rfl⟩, frs_rep (Reps.cons0.mp r).2, rfl⟩
  | [], _ :: _, r => by simp only [Reps] at r
  | _ :: _, [], r => by simp only [Reps] at r
theorem ows_rep {C : Cb} {G H : Hp} : ∀ {vs : List V} {ds : List D} {g : List Addr}, Reps C G H vs ds g → RepVs C G H vs (ds.map .ow) g
  | [], [], _, r => by simp only [Reps] at r; exact r
  | v :: vs, d :: ds, _, r => by
    simp only [Reps] at r
    obtain ⟨f1, f2, r1, r2, rfl⟩ := r
    exact ⟨f1, f2, r1, ows_rep r2, rfl⟩
  | [], _ :: _, _, r => by simp only [Reps] at r
  | _ :: _, [], _, r => by simp only [Reps] at r
def dummy : DV := .fr .non
theorem fromTo_getD {xs : List DV} : fromTo (fun j => xs.getD j dummy) 0 xs.length = xs := by
  unfold fromTo
  apply List.ext_getElem
  · simp
  · intro i h1 h2
    simp only [Nat.sub_zero, List.getElem_map, List.getElem_range']
    simp [List.getD_eq_getElem?_getD, List.getElem?_eq_getElem h2]
/-- a list or tuple that stands, its items from j on at hand -/
def Stands (C : Cb) (xs : List DV) (sq : Hp → Addr → List V → Prop) (a : Addr) (vs : List V) (own : Bool) (j : Nat) (G H : Hp) (P : List Addr) : Prop :=
  ∃ gs, P = (if own = true then a :: gs else gs) ∧ (if own = true then H a = some (.lst vs) else sq G a vs) ∧ RepVs C G H (vs.drop j) (xs.drop j) gs ∧ vs.length = xs.length
theorem drop_cons {α : Type} {l : List α} {j : Nat} (h : j < l.length) : l.drop j = l[j] :: l.drop (j + 1) := (List.drop_eq_getElem_cons h)
theorem stands_rd {C : Cb} {xs : List DV} {a : Addr} {vs : List V} {own : Bool} {j : Nat} {G H : Hp} {P : List Addr} (wd : Wd G H P) (s : Stands C xs (SqL C.K) a vs own j G H P) : SqL C.K H a vs := by
  obtain ⟨gs, _, h, _, _⟩ := s
  split at h
  · exact .of h
  · exact sqL_mono wd.le h
theorem stands_step {C : Cb} {xs : List DV} {sq : Hp → Addr → List V → Prop} {a : Addr} {vs : List V} {own : Bool} {j : Nat} {G H : Hp} {P : List Addr} (hj : j < xs.length) (wd : Wd G H P) (s : Stands C xs sq a vs own j G H P) :
    ∃ v g P', vs[j]? = some v ∧ Fw C G H P G H (g ++ P') ∧ RepV C G H v (xs.getD j dummy) g ∧ Stands C xs sq a vs own (j + 1) G H P' := by
  obtain ⟨gs, rfl, h, r, hl⟩ := s
  have hv : j < vs.length := by omega
  rw [drop_cons hv, drop_cons hj] at r
  obtain ⟨f1, f2, r1, r2, rfl⟩ := r
  refine ⟨vs[j], f1, (if own = true then a :: f2 else f2), List.getElem?_eq_getElem hv, ?_, ?_, ⟨f2, rfl, h, r2, hl⟩⟩
  · refine (Fw.refl wd).perm ?_
    cases own with
    | true =>
      simp only [if_pos]
      exact (List.perm_middle).symm
    | false => exact List.Perm.refl _
  · simpa [List.getD_eq_getElem?_getD, List.getElem?_eq_getElem hj] using r1
theorem stands_mono {C : Cb} {xs : List DV} {sq : Hp → Addr → List V → Prop} (hsq : ∀ {G G' : Hp}, (∀ a o, G a = some o → G' a = some o) → ∀ {a xs}, sq G a xs → sq G' a xs) {a : Addr} {vs : List V} {own : Bool} {j : Nat} {G H G' H' : Hp} {P : List Addr} (s : Stands C xs sq a vs own j G H P)
    (hG : ∀ a o, G a = some o → G' a = some o) (hH : ∀ a o, a ∈ P → H a = some o → (∀ ps, o ≠ .tbl ps) → H' a = some o) : Stands C xs sq a vs own j G' H' P := by
  obtain ⟨gs, rfl, h, r, hl⟩ := s
  refine ⟨gs, rfl, ?_, r.mono hG fun b o m e t => hH b o ?_ e t, hl⟩
  · cases own with
    | true =>
      simp only [if_pos] at h hH ⊢
      exact hH a _ List.mem_cons_self h (fun _ z => by cases z)
    | false => exact hsq hG h
  · cases own with
    | true => simp only [if_pos]; exact List.mem_cons_of_mem _ m
    | false => exact m
theorem wk_list {C : Cb} {xs : List DV} {a : Addr} {vs : List V} {own : Bool} : Wk C (Itl C.K a) (fun j => xs.getD j dummy) xs.length (Stands C xs (SqL C.K) a vs own) where
  go := fun j G H P hj wd s => by
    obtain ⟨v, _, _, hv, _⟩ := stands_step hj wd s
    exact ⟨vs, v, stands_rd wd s, hv⟩
  stop := fun G H P wd s => ⟨vs, stands_rd wd s, by obtain ⟨_, _, _, _, hl⟩ := s; omega⟩
  yld := fun j G H P x H' hj wd s hy => by
    obtain ⟨v, g, P', hv, w, r, s'⟩ := stands_step hj wd s
    obtain ⟨rfl, hx⟩ := hy
    have := hx vs (stands_rd wd s)
    rw [hv] at this; cases this
    exact ⟨G, g, P', w, r, s', fun _ _ e _ => e⟩
  mono := fun j G H P G' H' s hG hH => stands_mono (fun h => sqL_mono h) s hG hH
theorem wk_tup {C : Cb} {xs : List DV} {a : Addr} {vs : List V} : Wk C (Itt C.K a) (fun j => xs.getD j dummy) xs.length (Stands C xs (SqT C.K) a vs false) where
  go := fun j G H P hj wd s => by
    obtain ⟨v, _, _, hv, _⟩ := stands_step hj wd s
    obtain ⟨_, _, h, _, _⟩ := s
    exact ⟨vs, v, sqT_mono wd.le h, hv⟩
  stop := fun G H P wd s => by
    obtain ⟨_, _, h, _, hl⟩ := s
    exact ⟨vs, sqT_mono wd.le h, by omega⟩
  yld := fun j G H P x H' hj wd s hy => by
    obtain ⟨v, g, P', hv, w, r, s'⟩ := stands_step hj wd s
    obtain ⟨rfl, hx⟩ := hy
    obtain ⟨_, _, h, _, _⟩ := s
    have := hx vs (sqT_mono wd.le h)
    rw [hv] at this; cases this
    exact ⟨G, g, P', w, r, s', fun _ _ e _ => e⟩
  mono := fun j G H P G' H' s hG hH => stands_mono (fun h => sqT_mono h) s hG hH
theorem wk_str {C : Cb} {s : List Nat} : Wk C (Its (strV s)) (fun j => .fr (.str [s.getD j 0])) s.length (fun _ _ _ P => P = []) where
  go := fun j G H P hj _ _ => by
    show j < s.toArray.size
    simpa using hj
  stop := fun G H P _ _ => by
    show s.toArray.size ≤ s.length
    simp
  yld := fun j G H P x H' hj wd hp hy => by
    subst hp
    obtain ⟨rfl, c, hc, rfl⟩ := hy
    refine ⟨G, [], [], Fw.refl wd, ⟨⟨?_, rfl⟩, rfl⟩, rfl, fun _ _ e _ => e⟩
    have e : s[j]? = some c := by simpa [strV] using hc
    simp [strV, List.getD_eq_getElem?_getD, e]
  mono := fun _ _ _ _ _ _ h _ _ => h
theorem wk_range {C : Cb} {lo : Int} {n : Nat} : Wk C (Itr lo n) (fun j => .fr (.int (lo + j))) n (fun _ _ _ P => P = []) where
  go := fun j G H P hj _ _ => hj
  stop := fun G H P _ _ => Nat.le_refl _
  yld := fun j G H P x H' hj wd hp hy => by
    subst hp
    obtain ⟨rfl, rfl⟩ := hy
    exact ⟨G, [], [], Fw.refl wd, ⟨⟨rfl, rfl⟩, rfl⟩, rfl, fun _ _ e _ => e⟩
  mono := fun _ _ _ _ _ _ h _ _ => h
theorem wk_rangeC {C : Cb} {lo c : Int} {n : Nat} : Wk C (Itc lo c n) (fun j => .fr (.int (lo + j * c))) n (fun _ _ _ P => P = []) where
  go := fun j G H P hj _ _ => hj
  stop := fun G H P _ _ => Nat.le_refl _
  yld := fun j G H P x H' hj wd hp hy => by
    subst hp
    obtain ⟨rfl, rfl⟩ := hy
    exact ⟨G, [], [], Fw.refl wd, ⟨⟨rfl, rfl⟩, rfl⟩, rfl, fun _ _ e _ => e⟩
  mono := fun _ _ _ _ _ _ h _ _ => h
def mWalk (f : Sls → Res DV) : Sls → Res (List DV) := fun δ => (f δ).bind fun x δ1 => match walkD x with
  | some xs => .ok xs δ1
  | none => .bad
theorem si_any {f : Sls → Res DV} (hK : X.K = C.K) (h : SE X C T e f) : SI X C T tg e (mWalk f) := by
  refine ⟨fun W tk => PI.imp (pi_any (h.run W tk)) fun σ H R ⟨G, δ, Fs, wd, tt, sl, out⟩ => ⟨G, δ, Fs, wd, tt, sl, ?_⟩⟩
  unfold mWalk at out
  cases ef : f δ with
  | bad => rw [ef] at out; exact out
  | er c δ' => rw [ef] at out; exact out
  | ok x δ' =>
    rw [ef] at out
    simp only [Res.bind] at out
    cases ew : walkD x with
    | none => simp only [ew] at out; exact out.elim
    | some xs =>
      simp only [ew] at out
      intro v G' H' Fs' g w s k r
      rw [hK]
      have lst : ∀ (own : Bool) (a : Addr) (vs : List V), v = .ref a → Stands C.toCb xs (SqL C.K) a vs own 0 G' H' g → (∃ a, v = .ref a ∧ (∃ xs, SqL C.K H' a xs) ∧ R (Itl C.K a) H') := fun own a vs ev st =>
        ⟨a, ev, ⟨vs, stands_rd w.wd.right st⟩, out (Itl C.K a) G' H' Fs' g w s k ⟨_, _, _, wk_list (own := own) (vs := vs), fromTo_getD, st⟩⟩
      have tup : ∀ (a : Addr) (vs : List V), v = .ref a → Stands C.toCb xs (SqT C.K) a vs false 0 G' H' g → (∃ a, v = .ref a ∧ (∃ xs, SqT C.K H' a xs) ∧ R (Itt C.K a) H') := fun a vs ev st => by
        refine ⟨a, ev, ⟨vs, ?_⟩, out (Itt C.K a) G' H' Fs' g w s k ⟨_, _, _, wk_tup (vs := vs), fromTo_getD, st⟩⟩
        obtain ⟨_, _, h, _, _⟩ := st
        exact sqT_mono w.wd.le h
      unfold walkD at ew
      split at ew <;> first | cases ew | skip
      · obtain ⟨⟨a, vs, ev, q, rs, _⟩, rfl⟩ := r
        exact .inl (lst false a vs ev ⟨[], rfl, .of q, frs_rep rs, by rw [rs.len]; simp⟩)
      · obtain ⟨⟨a, vs, ev, q, rs, _⟩, rfl⟩ := r
        exact .inl (lst false a vs ev ⟨[], rfl, q, frs_rep rs, by rw [rs.len]; simp⟩)
      · obtain ⟨⟨a, vs, ev, q, rs⟩, rfl⟩ := r
        exact .inr (.inl (tup a vs ev ⟨[], rfl, q, frs_rep rs, by rw [rs.len]; simp⟩))
      · rename_i str
        obtain ⟨⟨ev, _⟩, rfl⟩ := r
        refine .inr (.inr ⟨_, ev, out (Its (strV str)) G' H' Fs' [] w s k ⟨_, _, _, wk_str, ?_, rfl⟩⟩)
        unfold fromTo
        apply List.ext_getElem
        · simp
        · intro i h1 h2
          have h3 : i < str.length := by simpa using h2
          simp [List.getD_eq_getElem?_getD, List.getElem?_eq_getElem h3]
      · obtain ⟨a, vs, ev, q, rs, rfl⟩ := r
        exact .inl (lst false a vs ev ⟨[], rfl, .of q, frs_rep rs, by rw [rs.len]; simp⟩)
      · obtain ⟨a, vs, ev, q, rs, rfl⟩ := r
        exact .inl (lst false a vs ev ⟨[], rfl, q, frs_rep rs, by rw [rs.len]; simp⟩)
      · obtain ⟨a, vs, ev, q, rs, rfl⟩ := r
        exact .inl (lst true a vs ev ⟨[], rfl, q, frs_rep rs, by rw [rs.len]; simp⟩)
      · obtain ⟨a, vs, gg, ev, q, rs, rfl⟩ := r
        exact .inl (lst true a vs ev ⟨gg, rfl, q, ows_rep rs, by rw [rs.len]; simp⟩)
      · obtain ⟨a, vs, ev, q, rs⟩ := r
        exact .inr (.inl (tup a vs ev ⟨g, rfl, q, ows_rep rs, by rw [rs.len]; simp⟩))
def inR (i : Int) : Bool := decide (-(2 ^ 62) ≤ i) && decide (i < 2 ^ 62)
def rgItems (lo : Int) (n : Nat) : List DV := (List.range' 0 n).map fun (j : Nat) => .fr (.int (lo + j))
theorem rg_eq {lo : Int} {n : Nat} : fromTo (fun j => .fr (.int (lo + j))) 0 n = rgItems lo n := rfl
def rangeD1 : List DV → Option (List DV)
  | [x] => match x.d with
    | .int j => if inR j = true then some (rgItems 0 j.toNat) else none
    | _ => none
  | _ => none
def rangeD2 : List DV → Option (List DV)
  | [x, y] => match x.d, y.d with
    | .int i, .int j => if (inR i && inR j) = true then some (rgItems i (j - i).toNat) else none
    | _, _ => none
  | _ => none
/-- downwards -/
def rangeD3 : List DV → Option (List DV)
  | [x, y, z] => match x.d, y.d, z.d with
    | .int i, .int j, .int c => if (inR i && inR j && decide (c = -1)) = true then some ((List.range' 0 (i - j).toNat).map fun (k : Nat) => .fr (.int (i + k * (-1)))) else none
    | _, _, _ => none
  | _ => none
def mRange (g : List DV → Option (List DV)) (fs : Sls → Res (List OV)) : Sls → Res (List DV) := fun δ => (fs δ).bind fun os δ1 => match (sees δ1 os).bind g with
  | some xs => .ok xs δ1
  | none => .bad
theorem range_out {g : List DV → Option (List DV)} {fs : Sls → Res (List OV)} {W : WX} {σ : L2.St} {H : Hp} {R : It → Hp → Prop} (h : tG C rI W T (mRange g fs) σ H R) : tG C rOs W T fs σ H fun vs H1 => ∃ xs, (∃ G, RepX C.toCb G H1 vs xs) ∧ ∃ ys, g xs = some ys ∧
    ∀ J item n, Wk C.toCb J item n (fun _ _ _ P => P = []) → fromTo item 0 n = ys → R J H1 := by
  obtain ⟨G, δ, Fs, wd, tt, sl, out⟩ := h
  refine tG_of (P := []) (U := []) (by rw [List.append_nil]; exact wd) tt sl (k := fun os δ1 => match (sees δ1 os).bind g with
    | some xs => .ok xs δ1
    | none => .bad) (by rw [List.append_nil]; exact out) (fun j h => h.elim id fun h => by cases h) fun vs os δ1 G1 H1 Fs1 g1 w1 wd1 tt1 sl1 kp1 r1 _ out1 => ?_
  cases e1 : sees δ1 os with
  | none => simp only [e1, Option.bind_none] at out1; exact out1.elim
  | some xs =>
    simp only [e1, Option.bind_some] at out1
    cases e2 : g xs with
    | none => simp only [e2] at out1; exact out1.elim
    | some ys =>
      simp only [e2] at out1
      refine ⟨xs, ⟨G1, r1.sees sl1 e1⟩, ys, e2, fun J item n wk he => ?_⟩
      exact out1 J G1 H1 Fs1 [] ((Fw.refl wd1).sub (by rw [List.append_nil]; exact wd1.left.nd) fun a h => by rw [List.append_nil] at h; exact List.mem_append_left _ h) sl1 Kp.refl ⟨item, n, _, wk, he, rfl⟩
theorem inR_of {i : Int} (h : inR i = true) : -(2 ^ 62) ≤ i ∧ i < 2 ^ 62 := by
  unfold inR at h
  rw [Bool.and_eq_true] at h
  exact ⟨of_decide_eq_true h.1, of_decide_eq_true h.2⟩
theorem si_range1 {fs : Sls → Res (List OV)} {p : Pos} (hg : Gl X "range") (hm : X.mg "range" = none) (ha : SA X C T [a] fs) (hs : starEach [a] X.env = [(false, eval a X.env)] := by rfl) : SI X C T tg (.Call (.Name "range" p) [a] [] pos) (mRange rangeD1 fs) := by
  refine ⟨fun W tk => PI.imp (pi_range1 hg hm (ha.run W tk) hs) fun σ H R h => ?_⟩
  refine tG_imp (range_out h) fun vs H1 ⟨xs, ⟨G, rx⟩, ys, hr, k⟩ => ?_
  unfold rangeD1 at hr
  split at hr
  · rename_i x
    match vs, rx with
    | [v], ⟨⟨f, rv⟩, _⟩ =>
      split at hr
      · rename_i j ej
        split at hr <;> cases hr
        rename_i hj
        have := inR_of hj
        exact ⟨j, by rw [dv_int ej rv], this.1, this.2, k _ _ _ wk_range rfl⟩
      · cases hr
  · cases hr
theorem si_range2 {fs : Sls → Res (List OV)} {p : Pos} (ha : SA X C T [a, b] fs)
    (hp : ∀ {ta : TA}, PA X [a, b] ta → PI X tg (.Call (.Name "range" p) [a, b] [] pos) (iRng2 ta)) : SI X C T tg (.Call (.Name "range" p) [a, b] [] pos) (mRange rangeD2 fs) := by
  refine ⟨fun W tk => PI.imp (hp (ha.run W tk)) fun σ H R h => ?_⟩
  refine tG_imp (range_out h) fun vs H1 ⟨xs, ⟨G, rx⟩, ys, hr, k⟩ => ?_
  unfold rangeD2 at hr
  split at hr
  · rename_i x y
    match vs, rx with
    | [v, v'], ⟨⟨f, rv⟩, ⟨f', rv'⟩, _⟩ =>
      split at hr
      · rename_i i j ei ej
        split at hr <;> cases hr
        rename_i hj
        rw [Bool.and_eq_true] at hj
        have h1 := inR_of hj.1
        have h2 := inR_of hj.2
        exact ⟨i, j, by rw [dv_int ei rv, dv_int ej rv'], ⟨h1.1, h1.2, h2.1, h2.2⟩, k _ _ _ wk_range rfl⟩
      · cases hr
  · cases hr
theorem si_range3 {c : Expr} {fs : Sls → Res (List OV)} {p : Pos} (ha : SA X C T [a, b, c] fs)
    (hp : ∀ {ta : TA}, PA X [a, b, c] ta → PI X tg (.Call (.Name "range" p) [a, b, c] [] pos) (iRng3 ta)) : SI X C T tg (.Call (.Name "range" p) [a, b, c] [] pos) (mRange rangeD3 fs) := by
  refine ⟨fun W tk => PI.imp (hp (ha.run W tk)) fun σ H R h => ?_⟩
  refine tG_imp (range_out h) fun vs H1 ⟨xs, ⟨G, rx⟩, ys, hr, k⟩ => ?_
  unfold rangeD3 at hr
  split at hr
  · rename_i x y z
    match vs, rx with
    | [v, v', v''], ⟨⟨f, rv⟩, ⟨f', rv'⟩, ⟨f'', rv''⟩, _⟩ =>
      split at hr
      · rename_i i j c ei ej ec
        split at hr <;> cases hr
        rename_i hj
        rw [Bool.and_eq_true, Bool.and_eq_true] at hj
        have h1 := inR_of hj.1.1
        have h2 := inR_of hj.1.2
        have h3 : c = -1 := of_decide_eq_true hj.2
        subst h3
        exact ⟨i, j, -1, _, by rw [dv_int ei rv, dv_int ej rv', dv_int ec rv''], RgC.neg h1.1 h1.2 h2.1 h2.2, k _ _ _ wk_rangeC rfl⟩
      · cases hr
  · cases hr

/-! ### while -/
/-- at most n turns -/
def whileS (c : Sls → Res Bool) (body : Sls → RS) : Nat → Sls → RS
  | 0, _ => .bad
  | n + 1, δ => (c δ).thenS fun b δ1 => if b = true then (match body δ1 with
    | .nx δ2 => whileS c body n δ2
    | .ct δ2 => whileS c body n δ2
    | .bk δ2 => .nx δ2
    | m => m) else .nx δ1
theorem ss_while {n : Nat} {fc : Sls → Res Bool} {bd : List Stmt} {body : Sls → RS} (hp : PassesOwn (model X.prog X.w) X.A X.env X.xe) (hc : ST X C T e fc) (hb : SSs X C bd body) : SS X C (.While e bd [] pos) (whileS fc body n) := by
  refine ⟨fun W tk => PS.imp (ps_while hp (hc.run W tk) (hb.run W tk)) fun D σ H q => ?_⟩
  refine ⟨fun m σ H => tS C W (whileS fc body m) D σ H, ⟨n, q⟩, fun m σ H h => ?_⟩
  cases m with
  | zero =>
    obtain ⟨G, δ, Fs, wd, tt, sl, out⟩ := h
    exact (show False from out).elim
  | succ m =>
    refine tS_of (T := T) h fun b b' δ1 G1 H1 Fs1 g wd tt sl r out => ?_
    obtain ⟨rfl, rfl⟩ := r
    rw [List.append_nil] at wd out
    split
    · rename_i hb
      rw [if_pos hb] at out
      refine ⟨fun σ' H' => tS C W (whileS fc body m) D σ' H', fun σ' H' h => ⟨m, Nat.lt_succ_self _, h⟩, G1, δ1, Fs1, wd, tt, sl, ?_⟩
      cases eb : body δ1 with
      | nx δ' =>
        simp only [eb] at out
        exact fun σ' G' H' Fs' w s => ⟨G', δ', Fs', w.wd, w.tt tt, s, out.step w⟩
      | ct δ' =>
        simp only [eb] at out
        exact fun σ' G' H' Fs' w s => ⟨G', δ', Fs', w.wd, w.tt tt, s, out.step w⟩
      | bk δ' => simp only [eb] at out; exact out
      | rt d δ' => simp only [eb] at out; exact out
      | er c δ' => simp only [eb] at out; exact out
      | bad => simp only [eb] at out; exact (show False from out).elim
    · rename_i hb
      rw [if_neg hb] at out
      exact tS_nx out wd (fun a h => h) sl

/-! ### an owned list in a slot is changed -/
/-- what stands in an owned list may be put in another's place: x.append(e), x[i] = e -/
def lstAt (δ : Sls) (i : Nat) : Option (Bool × Ow × List D) := match δ[i]? with
  | some (.s p (.ow (.lst .own ds))) => some (p, .own, ds)
  | some (.s p (.ow (.lst .deep ds))) => some (p, .deep, ds)
  | _ => none
/-- the mark behind a store of x -/
def markOf (o : Ow) : DV → Ow
  | .fr _ => o
  | .ow _ => .deep
/-- the list at slot i becomes vs' / ds' -/
theorem slot_list {G H : Hp} {σ : L2.St} {δ : Sls} {Fs : List (List Addr)} {i : Nat} {p : Bool} {o : Ow} {ds : List D} (sl : Slots C G H σ δ Fs) (h : lstAt δ i = some (p, o, ds)) :
    ∃ a vs f, σ[i]? = some (some (.ref a)) ∧ H a = some (.lst vs) ∧ Fs[i]? = some (a :: f) ∧ Reps C G H vs ds f ∧ (o = .own → f = []) ∧ (o = .own ∨ o = .deep) ∧
      ∀ (H' : Hp) (vs' : List V) (ds' : List D) (o' : Ow) (f' : List Addr), SlotsP C G H' C.pin σ (δ.set i .un) (Fs.set i []) → H' a = some (.lst vs') → Reps C G H' vs' ds' f' → (o' = .own → f' = []) → (o' = .own ∨ o' = .deep) → Slots C G H' σ (δ.set i (.s p (.ow (.lst o' ds')))) (Fs.set i (a :: f')) := by
  unfold lstAt at h
  have build : ∀ (pp : Option V) (a : Addr) (p : Bool), σ[i]? = some (some (.ref a)) → C.pin[i]? = some pp → (p = true → pp = some (.ref a)) → ∀ (H' : Hp) (vs' : List V) (ds' : List D) (o' : Ow) (f' : List Addr), SlotsP C G H' C.pin σ (δ.set i .un) (Fs.set i []) → H' a = some (.lst vs') → Reps C G H' vs' ds' f' → (o' = .own → f' = []) → (o' = .own ∨ o' = .deep) → Slots C G H' σ (δ.set i (.s p (.ow (.lst o' ds')))) (Fs.set i (a :: f')) := by
    intro pp a p h1 h0 hp H' vs' ds' o' f' s hH r ho hor
    have := SlotsP.setD (s := .s p (.ow (.lst o' ds'))) (f := a :: f') s h1 fun p' hp' => ⟨.ref a, rfl, ?_, fun e => by rw [h0] at hp'; cases hp'; exact hp e⟩
    · rwa [List.set_set, List.set_set] at this
    · rcases hor with rfl | rfl
      · have := ho rfl
        subst this
        exact ⟨a, vs', rfl, hH, r, rfl⟩
      · exact ⟨a, vs', f', rfl, hH, r, rfl⟩
  split at h
  · rename_i p' ds' hd
    cases h
    obtain ⟨pp, y, f, h0, h1, h2, v, rfl, ⟨a, vs, rfl, q, rs, rfl⟩, hp⟩ := SlotsP.get sl hd
    exact ⟨a, vs, [], h1, q, h2, rs, fun _ => rfl, .inl rfl, build pp a p h1 h0 hp⟩
  · rename_i p' ds' hd
    cases h
    obtain ⟨pp, y, f, h0, h1, h2, v, rfl, ⟨a, vs, g, rfl, q, rs, rfl⟩, hp⟩ := SlotsP.get sl hd
    exact ⟨a, vs, g, h1, q, h2, rs, fun h => (by cases h), .inr rfl, build pp a p h1 h0 hp⟩
  · cases h
/-- an owned thing is written -/
theorem Fw.write {C : Cb} {G H : Hp} {F : List Addr} {a : Addr} {o : HO} (wd : Wd G H F) (ha : a ∈ F) (ho : Plain o) : Fw C G H F G (upd H a o) F := by
  obtain ⟨o0, h0, t0⟩ := wd.inn a ha
  refine ⟨⟨fun b u e => ?_, wd.tb, wd.nd, wd.out, fun b hb => ?_⟩, fun _ _ e => e, fun b u e n _ => ?_, fun b e => (upd_none e).2, fun _ _ e => .inl e, fun _ h => .inl h, fun t => ⟨fun q hq => ?_, fun P hP => ?_⟩⟩
  · rw [upd_ne fun z => by rw [z, wd.out a ha] at e; cases e]
    exact wd.le b u e
  · by_cases z : b = a
    · exact ⟨o, by rw [z, upd_same], ho⟩
    · rw [upd_ne z]; exact wd.inn b hb
  · rw [upd_ne fun z => n (by rw [z]; exact ha)]; exact e
  · obtain ⟨ps, e1, e2, e3⟩ := t.1 q hq
    refine ⟨ps, by rw [upd_ne fun z => by rw [z, h0] at e1; cases e1; exact t0.1 _ rfl]; exact e1, e2, fun pos cv hc => ?_⟩
    obtain ⟨c, e4, e5⟩ := e3 pos cv hc
    refine ⟨c, e4, ?_⟩
    rw [upd_ne fun z => by rw [z, h0] at e5; cases e5; exact t0.2 _ rfl]; exact e5
  · obtain ⟨ps, e1, e2⟩ := t.2 P hP
    exact ⟨ps, by rw [upd_ne fun z => by rw [z, h0] at e1; cases e1; exact t0.1 _ rfl]; exact e1, e2⟩
end
end Pv

set_option Elab.async false
set_option linter.all false
set_option maxRecDepth 100000
/-! PvK: append, item stores, raise, try. -/
namespace Pv
open PySem PySem.Spec L2

section
variable {C : Cc} {G H : Hp} {σ : L2.St}
theorem list_write {δ : Sls} {Fs : List (List Addr)} {g : List Addr} {i : Nat} {p : Bool} {o : Ow} {ds : List D} (wd : Wd G H (Fs.flatten ++ g)) (sl : Slots C G H σ δ Fs) (h : lstAt δ i = some (p, o, ds)) :
    ∃ a vs f, σ[i]? = some (some (.ref a)) ∧ H a = some (.lst vs) ∧ Reps C G H vs ds f ∧ (o = .own → f = []) ∧ (f ++ g).Nodup ∧ ∀ vs' ds' o' f', Reps C G H vs' ds' f' → (o' = .own → f' = []) → (o' = .own ∨ o' = .deep) → f'.Nodup → (∀ b ∈ f', b ∈ f ++ g) →
      ∃ Fs', Slots C G (upd H a (.lst vs')) σ (δ.set i (.s p (.ow (.lst o' ds')))) Fs' ∧ Fw C G H (Fs.flatten ++ g) G (upd H a (.lst vs')) Fs'.flatten := by
  obtain ⟨a, vs, f, h1, hH, h2, rs, ho, hor, k⟩ := slot_list sl h
  have pm := flat_perm h2
  have hi : i < Fs.length := (List.getElem?_eq_some_iff.mp h2).1
  have nd0 : ((a :: f) ++ ((Fs.set i []).flatten ++ g)).Nodup := by
    rw [← List.append_assoc]
    exact (List.Perm.append_right g pm).nodup_iff.mp wd.nd
  have nda : a ∉ f ++ ((Fs.set i []).flatten ++ g) := by
    rw [List.cons_append] at nd0
    exact (List.nodup_cons.mp nd0).1
  have nd1 : (f ++ ((Fs.set i []).flatten ++ g)).Nodup := by
    rw [List.cons_append] at nd0
    exact (List.nodup_cons.mp nd0).2
  have ndfg : (f ++ g).Nodup := by
    refine List.nodup_append.mpr ⟨(List.nodup_append.mp nd1).1, (List.nodup_append.mp (List.nodup_append.mp nd1).2.1).2.1, fun x hx y hy e => ?_⟩
    exact (List.nodup_append.mp nd1).2.2 x hx y (List.mem_append_right _ hy) e
  refine ⟨a, vs, f, h1, hH, rs, ho, ndfg, fun vs' ds' o' f' r' ho' hor' nd' sub' => ?_⟩
  have ha : a ∈ Fs.flatten ++ g := List.mem_append_left _ (pm.mem_iff.mpr (by simp))
  have fw := Fw.write (C := C.toCb) (o := .lst vs') wd ha ⟨fun _ z => (by cases z), fun _ z => (by cases z)⟩
  have keep : ∀ b u, b ≠ a → H b = some u → (upd H a (.lst vs')) b = some u := fun b u n e => by rw [upd_ne n]; exact e
  have naf' : a ∉ f' := fun m => nda (by
    rcases List.mem_append.mp (sub' a m) with h | h
    · simp [h]
    · simp [h])
  have s0 : SlotsP C G (upd H a (.lst vs')) C.pin σ (δ.set i .un) (Fs.set i []) := by
    have s1 : Slots C G H σ (δ.set i .un) (Fs.set i []) := SlotsP.setD sl h1 fun _ _ => rfl
    refine s1.mono (fun _ _ e => e) fun b u m e _ => keep b u (fun z => nda ?_) e
    rw [z] at m
    simp [m]
  have r2 : Reps C G (upd H a (.lst vs')) vs' ds' f' := r'.mono (fun _ _ e => e) fun b u m e _ => keep b u (fun z => naf' (z ▸ m)) e
  refine ⟨Fs.set i (a :: f'), k _ vs' ds' o' f' s0 upd_same r2 ho' hor', ?_⟩
  have p2 := flat_set (g := a :: f') hi
  refine fw.sub ?_ fun b hb => ?_
  · refine p2.nodup_iff.mpr ?_
    rw [List.cons_append]
    refine List.nodup_cons.mpr ⟨fun m => ?_, List.nodup_append.mpr ⟨nd', (List.nodup_append.mp (List.nodup_append.mp nd1).2.1).1, fun x hx y hy e => ?_⟩⟩
    · rcases List.mem_append.mp m with m | m
      · exact naf' m
      · exact nda (by simp [m])
    · subst e
      rcases List.mem_append.mp (sub' x hx) with h | h
      · exact (List.nodup_append.mp nd1).2.2 x h x (List.mem_append_left _ hy) rfl
      · exact (List.nodup_append.mp (List.nodup_append.mp nd1).2.1).2.2 x hy x h rfl
  · rcases List.mem_append.mp (p2.mem_iff.mp hb) with h | h
    · rcases List.mem_cons.mp h with rfl | h
      · exact ha
      · rcases List.mem_append.mp (sub' b h) with h | h
        · exact List.mem_append_left _ (pm.mem_iff.mpr (by simp [h]))
        · exact List.mem_append_right _ h
    · exact List.mem_append_left _ (pm.mem_iff.mpr (by simp [h]))
theorem RepV.mark {v : V} {x : DV} {g : List Addr} {o : Ow} {f : List Addr} (r : RepV C G H v x g) (ho : o = .own → f = []) (hor : o = .own ∨ o = .deep) : Rep C G H v x.d g ∧ (markOf o x = .own → f ++ g = []) ∧ (markOf o x = .own ∨ markOf o x = .deep) := by
  cases x with
  | fr d =>
    obtain ⟨r, rfl⟩ := r
    exact ⟨r, fun h => by rw [ho h]; rfl, hor⟩
  | ow d => exact ⟨r, fun h => (by cases h), .inr rfl⟩
theorem Reps.set {v : V} {d : D} {g : List Addr} (r : Rep C G H v d g) : ∀ {vs : List V} {ds : List D} {f : List Addr} (n : Nat), Reps C G H vs ds f → (f ++ g).Nodup → ∃ f', Reps C G H (vs.set n v) (ds.set n d) f' ∧ f'.Nodup ∧ ∀ b ∈ f', b ∈ f ++ g
  | [], [], f, n, q, nd => ⟨f, q, (List.nodup_append.mp nd).1, fun b h => List.mem_append_left _ h⟩
  | w :: vs, e :: ds, f, 0, q, nd => by
    simp only [Reps] at q
    obtain ⟨f1, f2, q1, q2, rfl⟩ := q
    refine ⟨g ++ f2, ?_, ?_, fun b h => ?_⟩
    · show Reps C G H (v :: vs) (d :: ds) _
      simp only [Reps]
      exact ⟨g, f2, r, q2, rfl⟩
    · rw [List.append_assoc] at nd
      exact (List.perm_append_comm.nodup_iff.mp (List.nodup_append.mp nd).2.1)
    · rcases List.mem_append.mp h with h | h <;> simp [h]
  | w :: vs, e :: ds, f, n + 1, q, nd => by
    simp only [Reps] at q
    obtain ⟨f1, f2, q1, q2, rfl⟩ := q
    have nd2 : (f2 ++ g).Nodup := by rw [List.append_assoc] at nd; exact (List.nodup_append.mp nd).2.1
    obtain ⟨f', a1, a2, a3⟩ := Reps.set r n q2 nd2
    refine ⟨f1 ++ f', ?_, ?_, fun b h => ?_⟩
    · show Reps C G H (w :: vs.set n v) (e :: ds.set n d) _
      simp only [Reps]
      exact ⟨f1, f', q1, a1, rfl⟩
    · rw [List.append_assoc] at nd
      exact List.nodup_append.mpr ⟨(List.nodup_append.mp nd).1, a2, fun x hx y hy e => (List.nodup_append.mp nd).2.2 x hx y (a3 y hy) e⟩
    · rcases List.mem_append.mp h with h | h
      · simp [h]
      · have := a3 b h
        rcases List.mem_append.mp this with h | h <;> simp [h]
  | [], _ :: _, _, _, q, _ => by simp only [Reps] at q
  | _ :: _, [], _, _, q, _ => by simp only [Reps] at q
end

section
variable {X : Cx} {C : Cc} {T U A : List Nat} {st : Stmt} {e a b tg iter : Expr} {es : List Expr} {pos : Pos}
/-- as tS_at, while P is pending -/
theorem tS_atP {α β : Type} {R : RepOf β α} {W : WX} {D : Ends} {σ : L2.St} {G H : Hp} {δ : Sls} {Fs : List (List Addr)} {P : List Addr} {f : Sls → Res α} {k : α → Sls → RS} {K : β → Hp → Prop} (wd : Wd G H (Fs.flatten ++ P)) (tt : Tbs C H) (sl : Slots C G H σ δ Fs) (out : OutS C W G H (Fs.flatten ++ P) D ((f δ).thenS k))
    (hk : ∀ x a δ1 G1 H1 Fs1 g, Fw C G H (Fs.flatten ++ P) G1 H1 (Fs1.flatten ++ (g ++ P)) → Wd G1 H1 (Fs1.flatten ++ (g ++ P)) → Tbs C H1 → Slots C G1 H1 σ δ1 Fs1 → R σ C G1 H1 x a g → (∀ b o, b ∈ P → H b = some o → (∀ ps, o ≠ .tbl ps) → H1 b = some o) →
      OutS C W G1 H1 (Fs1.flatten ++ (g ++ P)) D (k a δ1) → K x H1) : tG C R W T f σ H K := by
  refine ⟨G, δ, Fs, wd.left, tt, sl, ?_⟩
  cases e : f δ with
  | bad => simp only [e, Res.thenS] at out; exact out.elim
  | er c δ' =>
    simp only [e, Res.thenS] at out
    exact fun G' H' Fs' w s => out σ G' H' Fs' (w.frame wd).left s
  | ok a δ' =>
    simp only [e, Res.thenS] at out
    intro x G' H' Fs' g w s kp r
    have w2 := w.frame wd
    rw [List.append_assoc] at w2
    exact hk x a δ' G' H' Fs' g w2 w2.wd (w.tt tt) s r (fun b o hb e t => w.hs b o e (fun m => wd.dis b m hb) t) (out.step w2)
/-- x.append(e) -/
def sAppend (i : Nat) (f : Sls → Res DV) : Sls → RS := fun δ => match lstAt δ i with
  | none => .bad
  | some _ => (f δ).thenS fun v δ1 => match lstAt δ1 i with
    | some (p, o, ds) => if ds.length < sizeLine then .nx (δ1.set i (.s p (.ow (.lst (markOf o v) (ds ++ [v.d]))))) else .bad
    | none => .bad
theorem ss_append {i : Nat} {f : Sls → Res DV} (hK : X.K = C.K) (h : SE X C T e f) (hp : ∀ {te : TE}, PE X e te → PS X st (tDrop (tBM X.K "list" rAppend (tVar i) (tCons te tNil)))) : SS X C st (sAppend i f) := by
  refine ⟨fun W tk => PS.imp (hp (h.run W tk)) fun D σ H q => ?_⟩
  obtain ⟨G, δ, Fs, wd, tt, sl, out⟩ := q
  unfold sAppend at out
  cases e1 : lstAt δ i with
  | none => simp only [e1] at out; exact (show False from out).elim
  | some q1 =>
    obtain ⟨p0, o0, ds0⟩ := q1
    simp only [e1] at out
    obtain ⟨a0, vs0, f0, h0, hH0, _⟩ := slot_list sl e1
    refine ⟨.ref a0, h0, .inl ⟨rfl, vs0, .of hH0⟩, ?_⟩
    refine tS_at (T := T) wd tt sl out fun v x δ1 G1 H1 Fs1 g1 w1 _ wd1 tt1 sl1 r1 out1 => ?_
    cases e2 : lstAt δ1 i with
    | none => simp only [e2] at out1; exact (show False from out1).elim
    | some q2 =>
      obtain ⟨p, o, ds⟩ := q2
      simp only [e2] at out1
      split at out1
      rotate_left
      · exact (show False from out1).elim
      rename_i hl
      obtain ⟨a, vs, f, h1, hH, rs, ho, nd, k⟩ := list_write wd1 sl1 e2
      rw [h0] at h1; cases h1
      obtain ⟨_, _, _, _, _, _, _, _, hor, _⟩ := slot_list sl1 e2
      obtain ⟨m1, m2, m3⟩ := RepV.mark r1 ho hor
      obtain ⟨Fs', s', w'⟩ := k (vs ++ [v]) (ds ++ [x.d]) (markOf o x) (f ++ g1) (Reps.app rs (by simp only [Reps]; exact ⟨g1, [], m1, rfl, by simp⟩)) m2 m3 nd fun b hb => hb
      refine ⟨a0, vs, v, rfl, rfl, hH, by rw [rs.len]; exact hl, ?_⟩
      exact out1 σ G1 _ Fs' w' s'
/-- x[k] = e -/
def sItem (i : Nat) (fe fk : Sls → Res DV) : Sls → RS := fun δ => (fe δ).thenS fun v δ1 => match lstAt δ1 i with
  | none => .bad
  | some _ => (fk δ1).thenS fun k δ2 => match lstAt δ2 i, k.d with
    | some (p, o, ds), .int j => match ixN ds.length j with
      | some n => .nx (δ2.set i (.s p (.ow (.lst (markOf o v) (ds.set n v.d)))))
      | none => .bad
    | _, _ => .bad
theorem ss_item {i : Nat} {fe fk : Sls → Res DV} (he : SE X C T e fe) (hk : SE X C U b fk) (hp : ∀ {te tk : TE}, PE X e te → PE X b tk → PS X st (tAsg te (gSub (tVar i) tk rSetL))) : SS X C st (sItem i fe fk) := by
  refine ⟨fun W tk => PS.imp (hp (he.run W tk) (hk.run W tk)) fun D σ H q => ?_⟩
  refine tS_of (T := T) q fun v x δ1 G1 H1 Fs1 g1 wd1 tt1 sl1 r1 out1 => ?_
  cases e1 : lstAt δ1 i with
  | none => simp only [e1] at out1; exact (show False from out1).elim
  | some q1 =>
    obtain ⟨p0, o0, ds0⟩ := q1
    simp only [e1] at out1
    obtain ⟨a0, vs0, f0, h0, hH0, _⟩ := slot_list sl1 e1
    refine ⟨.ref a0, h0, ?_⟩
    refine tS_atP (T := U) wd1 tt1 sl1 out1 fun kv k δ2 G2 H2 Fs2 g2 w2 wd2 tt2 sl2 r2 st2 out2 => ?_
    have r1' : RepV C G2 H2 v x g1 := r1.mono w2.gs fun b o hb e t => st2 b o hb e t
    have wd3 : Wd G2 H2 (Fs2.flatten ++ g1) := wd2.sub (by
      have := wd2.nd
      have p1 : (Fs2.flatten ++ (g2 ++ g1)).Perm ((Fs2.flatten ++ g1) ++ g2) := by
        rw [List.append_assoc]
        exact List.Perm.append_left _ List.perm_append_comm
      exact (List.nodup_append.mp (p1.nodup_iff.mp this)).1) fun b hb => by
        rcases List.mem_append.mp hb with h | h <;> simp [h]
    cases e2 : lstAt δ2 i with
    | none => simp only [e2] at out2; exact (show False from out2).elim
    | some q2 =>
      obtain ⟨p, o, ds⟩ := q2
      simp only [e2] at out2
      split at out2
      · rename_i _ _ p' o' ds' j eq1 ej
        cases eq1
        cases e3 : ixN ds.length j with
        | none => simp only [e3] at out2; exact (show False from out2).elim
        | some n =>
          simp only [e3] at out2
          obtain ⟨a, vs, f, h1, hH, rs, ho, nd, kk⟩ := list_write wd3 sl2 e2
          rw [h0] at h1; cases h1
          obtain ⟨_, _, _, _, _, _, _, _, hor, _⟩ := slot_list sl2 e2
          obtain ⟨m1, m2, m3⟩ := RepV.mark r1' ho hor
          obtain ⟨f', r3, nd3, sub3⟩ := Reps.set m1 n rs nd
          obtain ⟨Fs', s', w'⟩ := kk (vs.set n v) (ds.set n x.d) (markOf o x) f' r3 (fun h => by
            have := m2 h
            cases hf : f' with
            | nil => rfl
            | cons y ys =>
              have := sub3 y (by rw [hf]; simp)
              rw [m2 h] at this; cases this) m3 nd3 sub3
          refine ⟨a0, vs, j, n, rfl, dv_int ej r2, hH, by rw [rs.len]; exact e3, ?_⟩
          refine out2 σ G2 _ Fs' (w'.more fun c hc => ?_) s'
          rcases List.mem_append.mp hc with h | h <;> simp [h]
      · exact (show False from out2).elim
/-! raise, try -/
def sRaise (c : Nat) : Sls → RS := fun δ => .er c δ
theorem ss_raise {c : Nat} (h : ∀ W, Takes X W → PS X st (fun _ σ H => W (.ref (C.exc c)) none σ H)) : SS X C st (sRaise c) :=
  ⟨fun W tk => PS.imp (h W tk) fun D σ H ⟨G, δ, Fs, wd, tt, sl, out⟩ => out σ G H Fs (Fw.refl wd) sl⟩
/-- try: .. except X: ..; sub c: is the class c one that the clause names -/
def sTry (n : Nat) (sub : Nat → Bool) (body suite : Sls → RS) : Sls → RS := fun δ => match body δ with
  | .er c δ' => if c < n then (if sub c = true then (match suite δ' with
    | .er _ _ => .bad
    | m => m) else .er c δ') else .bad
  | m => m
theorem ss_try {n : Nat} {sub : Nat → Bool} {x : Str} {cv : Value} {body suite : List Stmt} {b₀ : Stmt} {np pos' : Pos} {f g : Sls → RS} (hK : X.K = C.K) (hs : X.stack = X.env :: X.outer) (hf : X.env.frame = some X.env.locals) (hc : Names X x cv)
    (hx : ∀ c, c < n → PySem.W.exmOne C.K (.ref (C.exc c)) cv = some (sub c))
    (hb : ∀ (pn : List (Addr × Obj)) (xe : Value → Shared → Prop), PassesOwn (model X.prog X.w) X.A X.env xe → SSs (X.tr pn xe) C body f)
    (hsu : ∀ (a : Addr) (pn : List (Addr × Obj)), SSs (X.suite a pn) C (b₀ :: suite) g) :
    SS X C (.Try body [.ExceptHandler (some (.Name x np)) none (b₀ :: suite) pos'] [] [] pos) (sTry n sub f g) := by
  refine ⟨fun W tk => PS.imp (ps_try_only (tb := fun W => tS C W f) (ts := fun _ _ _ => tS C (fun _ _ _ _ => False) g) hs hf hc tk (fun W' pn xe tk' po => (hb pn xe po).run W' tk') (fun a oe cls d pn _ _ => (hsu a _).run _ takes0)) fun D σ H ⟨G, δ, Fs, wd, tt, sl, out⟩ => ⟨G, δ, Fs, wd, tt, sl, ?_⟩⟩
  unfold sTry at out
  cases e : f δ with
  | nx δ' => simp only [e] at out; exact out
  | rt d δ' => simp only [e] at out; exact out
  | bk δ' => simp only [e] at out; exact out
  | ct δ' => simp only [e] at out; exact out
  | bad => simp only [e] at out; exact out
  | er c δ' =>
    simp only [e] at out
    intro σ' G' H' Fs' w s
    split at out
    rotate_left
    · exact (show False from out).elim
    rename_i hcn
    refine ⟨sub c, by rw [hK]; exact hx c hcn, fun ht a _ => ?_, fun hnf => ?_⟩
    · rw [if_pos ht] at out
      refine ⟨G', δ', Fs', w.wd, w.tt tt, s, ?_⟩
      cases eg : g δ' with
      | er c' δ2 => simp only [eg] at out; exact (show False from out).elim
      | nx δ2 => simp only [eg] at out; exact out.step w
      | rt d δ2 => simp only [eg] at out; exact out.step w
      | bk δ2 => simp only [eg] at out; exact out.step w
      | ct δ2 => simp only [eg] at out; exact out.step w
      | bad => simp only [eg] at out; exact (show False from out).elim
    · rw [if_neg (by rw [hnf]; decide)] at out
      exact out σ' G' H' Fs' w s
end
end Pv

set_option Elab.async false
set_option linter.all false
set_option maxRecDepth 100000
/-! PvL: list comprehensions. -/
namespace Pv
open PySem PySem.Spec L2

/-! ### own slots of a block -/
def wipeS : Sls → List Nat → Sls
  | δ, [] => δ
  | δ, v :: vs => (wipeS δ vs).set v .un
def wipeF : List (List Addr) → List Nat → List (List Addr)
  | F, [] => F
  | F, v :: vs => (wipeF F vs).set v []
def okOwn (δ : Sls) : List Nat → Bool
  | [] => true
  | v :: vs => ((match δ[v]? with
    | some (.un) => true
    | some (.s _ (.fr _)) => true
    | _ => false) && !vs.contains v) && okOwn δ vs
/-- the block's own slots as they were -/
def restore (δ0 : Sls) : List Nat → Sls → Sls
  | [], δ => δ
  | v :: vs, δ => match δ0[v]? with
    | some s => restore δ0 vs (δ.set v s)
    | none => restore δ0 vs δ
section
variable {C : Cc} {G H : Hp} {σ : L2.St} {δ : Sls} {Fs : List (List Addr)}
theorem slots_wipe (s : Slots C G H σ δ Fs) : ∀ vs : List Nat, Slots C G H (wipe σ vs) (wipeS δ vs) (wipeF Fs vs)
  | [] => s
  | v :: vs => SlotsP.set v (slots_wipe s vs) fun _ _ => rfl
theorem wipeF_sub : ∀ (vs : List Nat) (Fs : List (List Addr)), List.Sublist (wipeF Fs vs).flatten Fs.flatten
  | [], _ => List.Sublist.refl _
  | v :: vs, Fs => by
    refine List.Sublist.trans ?_ (wipeF_sub vs Fs)
    show List.Sublist ((wipeF Fs vs).set v []).flatten (wipeF Fs vs).flatten
    have : ∀ (l : List (List Addr)) (i : Nat), List.Sublist (l.set i []).flatten l.flatten := by
      intro l
      induction l with
      | nil => intro i; simp
      | cons x l ih => intro i; cases i with
        | zero => simp
        | succ i =>
          simp only [List.set_cons_succ, List.flatten_cons]
          exact List.Sublist.append (List.Sublist.refl _) (ih i)
    exact this _ _
/-- own slots that own nothing: the footprint stays -/
theorem wipeF_ok (s : Slots C G H σ δ Fs) : ∀ (vs : List Nat), okOwn δ vs = true → wipeF Fs vs = Fs
  | [], _ => rfl
  | v :: vs, h => by
    simp only [okOwn, Bool.and_eq_true] at h
    have ih := wipeF_ok s vs h.2
    show (wipeF Fs vs).set v [] = Fs
    rw [ih]
    refine set_self ?_
    have h1 := h.1.1
    split at h1
    · rename_i hs
      obtain ⟨pp, y, f, h0, h1, h2, hf⟩ := SlotsP.get s hs
      have : f = [] := hf
      rw [h2, this]
    · rename_i hs
      obtain ⟨pp, y, f, h0, h1, h2, v', e, ⟨r, hf⟩, hp⟩ := SlotsP.get s hs
      rw [h2, hf]
    · cases h1
/-- behind the block -/
theorem slots_restore {G' H' : Hp} (s : Slots C G H σ δ Fs) (hG : ∀ a o, G a = some o → G' a = some o) : ∀ (vs : List Nat) {δ' : Sls} {Fs' : List (List Addr)}, okOwn δ vs = true → Slots C G' H' (wipe σ vs) δ' Fs' → ∃ Fs2, Slots C G' H' σ (restore δ vs δ') Fs2 ∧ List.Sublist Fs2.flatten Fs'.flatten ∧ (∀ j, j ∉ vs → (restore δ vs δ')[j]? = δ'[j]? ∧ Fs2[j]? = Fs'[j]?) ∧ (∀ j ∈ vs, (restore δ vs δ')[j]? = δ[j]? ∧ Fs2[j]? = Fs[j]?)
  | [], δ', Fs', _, s' => ⟨Fs', s', List.Sublist.refl _, fun _ _ => ⟨rfl, rfl⟩, fun j h => by cases h⟩
  | v :: vs, δ', Fs', h, s' => by
    simp only [okOwn, Bool.and_eq_true] at h
    have nv : v ∉ vs := fun m => by
      have := h.1.2
      simp [m] at this
    have fact : ∃ s0, δ[v]? = some s0 ∧ (∀ p x f, C.pin[v]? = some p → σ[v]? = some x → Fs[v]? = some f → f = [] ∧ Slot C G' H' p x s0 []) := by
      have h1 := h.1.1
      split at h1
      · rename_i hs
        refine ⟨_, hs, fun p x f hp hx hf => ?_⟩
        obtain ⟨pp, y, f', e0, e1, e2, q⟩ := SlotsP.get s hs
        rw [hf] at e2; cases e2
        exact ⟨q, rfl⟩
      · rename_i p0 d hs
        refine ⟨_, hs, fun p x f hp hx hf => ?_⟩
        obtain ⟨pp, y, f', e0, e1, e2, v', ev, ⟨r, ef⟩, hpin⟩ := SlotsP.get s hs
        rw [hf] at e2; cases e2
        rw [hx] at e1; cases e1
        rw [hp] at e0; cases e0
        exact ⟨ef, v', ev, ⟨r.mono hG (fun _ _ m => by cases m), rfl⟩, hpin⟩
      · cases h1
    obtain ⟨s0, hs0, hk⟩ := fact
    obtain ⟨pp, x0, f0, e0, e1, e2, _⟩ := SlotsP.get s hs0
    obtain ⟨hf0, hslot⟩ := hk pp x0 f0 e0 e1 e2
    have s2 := SlotsP.set (x := x0) (s := s0) (f := []) v s' fun p hp => by
      rw [e0] at hp; cases hp
      exact hslot
    have eσ : (wipe σ (v :: vs)).set v x0 = wipe σ vs := by
      show ((wipe σ vs).set v none).set v x0 = _
      rw [List.set_set]
      refine set_self ?_
      rw [wipe_out nv]; exact e1
    rw [eσ] at s2
    have er : restore δ (v :: vs) δ' = restore δ vs (δ'.set v s0) := by
      simp only [restore, hs0]
    rw [er]
    obtain ⟨Fs2, r1, r2, r3, r4⟩ := slots_restore s hG vs h.2 s2
    have hl : v < δ'.length ∧ v < Fs'.length := by
      have l1 := s'.len
      have l2 := s.len
      have l3 := (List.getElem?_eq_some_iff.mp hs0).1
      have l4 : (wipe σ (v :: vs)).length = σ.length := wipe_length _ _
      omega
    refine ⟨Fs2, r1, r2.trans ?_, fun j hj => ?_, fun j hj => ?_⟩
    · have : ∀ (l : List (List Addr)) (i : Nat), List.Sublist (l.set i []).flatten l.flatten := fun l i => wipeF_sub [i] l
      exact this _ _
    · have n1 : v ≠ j := fun e => hj (by rw [e]; exact List.mem_cons_self)
      obtain ⟨q1, q2⟩ := r3 j fun m => hj (List.mem_cons_of_mem _ m)
      exact ⟨q1.trans (List.getElem?_set_ne n1), q2.trans (List.getElem?_set_ne n1)⟩
    · rcases List.mem_cons.mp hj with rfl | hj
      · obtain ⟨q1, q2⟩ := r3 j nv
        refine ⟨q1.trans ?_, q2.trans ?_⟩
        · rw [List.getElem?_set_self hl.1, hs0]
        · rw [List.getElem?_set_self hl.2, e2, hf0]
      · exact r4 j hj
end

/-! ### [elt for tg in iter if test] -/
structure STs (X : Cx) (C : Cc) (T : List Nat) (ifs : List Expr) (f : Sls → Res Bool) : Prop where
  run : ∀ W, Takes X W → PTs X ifs (tG C rB W T f)
def compIt (s : DV → Sls → Option Sls) (ft : Sls → Res Bool) (fe : Sls → Res DV) (vs : List Nat) : List DV → Sls → List DV → Res (List DV)
  | [], δ, acc => .ok acc δ
  | x :: xs, δ, acc => match s x δ with
    | none => .bad
    | some δ2 => match ft δ2 with
      | .ok true δ3 => (match fe δ3 with
        | .ok y δ4 => if acc.length < sizeLine then compIt s ft fe vs xs (wipeS δ4 vs) (acc ++ [y]) else .bad
        | _ => .bad)
      | .ok false δ3 => compIt s ft fe vs xs (wipeS δ3 vs) acc
      | _ => .bad
def ownUn (δ : Sls) : List Nat → Bool
  | [] => true
  | v :: vs => (match δ[v]? with
    | some .un => true
    | _ => false) && ownUn δ vs
def mComp (s : DV → Sls → Option Sls) (fi : Sls → Res (List DV)) (ft : Sls → Res Bool) (fe : Sls → Res DV) (vs : List Nat) : Sls → Res DV := fun δ => (fi δ).bind fun xs δ1 =>
  if okOwn δ1 vs = true then (match compIt s ft fe vs xs (wipeS δ1 vs) [] with
    | .ok acc δ2 => .ok (mkL acc) (restore δ1 vs δ2)
    | _ => .bad) else .bad
section
variable {X : Cx} {C : Cc} {T U A : List Nat} {st : Stmt} {e a b tg iter elt : Expr} {ifs : List Expr} {pos : Pos}
theorem sts_nil : STs X C [] [] (mT true) := ⟨fun W tk => ⟨fun pins s σ H Q I h => pts_nil.run pins s σ H Q I (tG_pure h fun _ => ⟨rfl, rfl⟩)⟩⟩
theorem sts_one {c : Expr} {f : Sls → Res Bool} (h : ST X C T c f) : STs X C T [c] f := ⟨fun W tk => pts_one (h.run W tk)⟩
/-- what is wanted behind the block's loop -/
def OutC (C : Cc) (σ : L2.St) (vs : List Nat) (D : Addr) (Q : VK) (T : List Nat) (δ0 : Sls) (Fs0 : List (List Addr)) (H0 : Hp) (G H : Hp) (F : List Addr) : Res (List DV) → Prop
  | .ok acc δ' => ∀ av G' H' Fs' g, Fw C G H F G' H' (Fs'.flatten ++ (D :: g)) → Slots C G' H' (wipe σ vs) δ' Fs' → H' D = some (.lst av) → RepVs C G' H' av acc g → Kp (T ++ vs) δ0 Fs0 H0 δ' Fs' H' → Q (.ref D) H'
  | _ => False
theorem OutC.step {σ : L2.St} {vs : List Nat} {D : Addr} {Q : VK} {δ0 : Sls} {Fs0 : List (List Addr)} {H0 G H G1 H1 : Hp} {F F1 : List Addr} {m : Res (List DV)} (h : OutC C σ vs D Q T δ0 Fs0 H0 G H F m) (w : Fw C G H F G1 H1 F1) : OutC C σ vs D Q T δ0 Fs0 H0 G1 H1 F1 m := by
  cases m with
  | ok acc δ' => exact fun av G' H' Fs' g w' s hD r k => h av G' H' Fs' g (w.trans w') s hD r k
  | er c δ' => exact h
  | bad => exact h
theorem RepVs.snoc {C : Cb} {G H : Hp} {v : V} {x : DV} {g : List Addr} (r : RepV C G H v x g) : ∀ {vs : List V} {xs : List DV} {f : List Addr}, RepVs C G H vs xs f → RepVs C G H (vs ++ [v]) (xs ++ [x]) (f ++ g)
  | [], [], f, q => by
    have : f = [] := q
    subst this
    exact ⟨g, [], r, rfl, by simp⟩
  | w :: vs, y :: ys, f, ⟨f1, f2, q1, q2, e⟩ => ⟨f1, f2 ++ g, q1, RepVs.snoc r q2, by rw [e, List.append_assoc]⟩
  | [], _ :: _, _, q => q.elim
  | _ :: _, [], _, q => q.elim
theorem comp_out {J : It} {item : Nat → DV} {n : Nat} {Pn : Nat → Hp → Hp → List Addr → Prop} (wk : Wk C.toCb J item n Pn) {s : DV → Sls → Option Sls} {ft : Sls → Res Bool} {fe : Sls → Res DV} {vs : List Nat} {σ : L2.St} {Q : VK} {D : Addr} {δ0 : Sls} {Fs0 : List (List Addr)} {H0 : Hp}
    {G H : Hp} {δ : Sls} {Fs : List (List Addr)} {P g : List Addr} {av : List V} {acc : List DV} (wd : Wd G H (Fs.flatten ++ (P ++ (D :: g)))) (tt : Tbs C H) (sl : Slots C G H (wipe σ vs) δ Fs) (hp : Pn 0 G H P) (hD : H D = some (.lst av)) (hacc : RepVs C G H av acc g) (kp : Kp (T ++ U ++ vs) δ0 Fs0 H0 δ Fs H)
    (out : OutC C σ vs D Q (T ++ U) δ0 Fs0 H0 G H (Fs.flatten ++ (P ++ (D :: g))) (compIt s ft fe vs (fromTo item 0 n) δ acc)) :
    ∃ Wi : Nat → Nat → Hp → Prop, (∃ m, Wi 0 m H) ∧ ∀ i m H, Wi i m H → (J.stop i H ∧ Q (.ref D) H) ∨ (J.go i H ∧ ∃ Nx : Hp → Prop, (∀ H', Nx H' → ∃ m', m' < m ∧ Wi (i + 1) m' H') ∧ ∀ x H', J.yld i H x H' → tTg C vs s x (wipe σ vs) H' fun σ2 H2 => wipe σ2 vs = wipe σ vs ∧ tG C rB (fun _ _ _ _ => False) T ft σ2 H2 fun b H3 =>
      if b = true then tG C rV (fun _ _ _ _ => False) U fe σ2 H3 fun y H4 => ∃ av, H4 D = some (.lst av) ∧ av.length < sizeLine ∧ Nx (upd H4 D (.lst (av ++ [y]))) else Nx H3) := by
  let Inv' : Nat → Hp → Prop := fun i H => i ≤ n ∧ ∃ G δ Fs P g av acc, Wd G H (Fs.flatten ++ (P ++ (D :: g))) ∧ Tbs C H ∧ Slots C G H (wipe σ vs) δ Fs ∧ Pn i G H P ∧ H D = some (.lst av) ∧ RepVs C G H av acc g ∧ Kp (T ++ U ++ vs) δ0 Fs0 H0 δ Fs H ∧
    OutC C σ vs D Q (T ++ U) δ0 Fs0 H0 G H (Fs.flatten ++ (P ++ (D :: g))) (compIt s ft fe vs (fromTo item i n) δ acc)
  refine ⟨fun i m H => m = n - i ∧ Inv' i H, ⟨n, rfl, Nat.zero_le _, G, δ, Fs, P, g, av, acc, wd, tt, sl, hp, hD, hacc, kp, out⟩, ?_⟩
  rintro i m H ⟨rfl, hi, G, δ, Fs, P, g, av, acc, wd, tt, sl, hp, hD, hacc, kp, out⟩
  have wdP : Wd G H P := by
    have := wd.right
    exact this.left
  by_cases hn : i < n
  rotate_left
  · have e : i = n := by omega
    subst e
    rw [fromTo_end] at out
    refine .inl ⟨wk.stop G H P wdP hp, ?_⟩
    refine out av G H Fs g ?_ sl hD hacc kp
    refine (Fw.refl wd).sub ?_ fun a h => ?_
    · have p1 : (Fs.flatten ++ (P ++ (D :: g))).Perm (P ++ (Fs.flatten ++ (D :: g))) := by
        rw [← List.append_assoc, ← List.append_assoc]
        exact List.Perm.append_right _ List.perm_append_comm
      exact (List.nodup_append.mp (p1.nodup_iff.mp wd.nd)).2.1
    · rcases List.mem_append.mp h with h | h
      · exact List.mem_append_left _ h
      · exact List.mem_append_right _ (List.mem_append_right _ h)
  · refine .inr ⟨wk.go i G H P hn wdP hp, Inv' (i + 1), fun H' h => ⟨n - (i + 1), by omega, rfl, h⟩, fun x H' hy => ?_⟩
    rw [fromTo_lt hn] at out
    obtain ⟨G1, gi, P1, w1, r1, hp1, keep⟩ := wk.yld i G H P x H' hn wdP hp hy
    -- the pending: P1, D, g
    have wdc : Wd G H (P ++ (Fs.flatten ++ (D :: g))) := by
      refine wd.perm ?_
      rw [← List.append_assoc, ← List.append_assoc]
      exact List.Perm.append_right _ List.perm_append_comm
    have w2 := w1.frame wdc
    have pm : ((gi ++ P1) ++ (Fs.flatten ++ (D :: g))).Perm ((Fs.flatten ++ gi) ++ (P1 ++ (D :: g))) := by
      rw [List.append_assoc]
      have a1 : (gi ++ (P1 ++ (Fs.flatten ++ (D :: g)))).Perm (gi ++ (Fs.flatten ++ (P1 ++ (D :: g)))) := by
        refine List.Perm.append_left _ ?_
        rw [← List.append_assoc, ← List.append_assoc]
        exact List.Perm.append_right _ List.perm_append_comm
      refine a1.trans ?_
      rw [← List.append_assoc]
      exact List.Perm.append_right _ List.perm_append_comm
    have w3 : Fw C G H (Fs.flatten ++ (P ++ (D :: g))) G1 H' ((Fs.flatten ++ gi) ++ (P1 ++ (D :: g))) := (w2.perm pm).more fun a h => by
      rcases List.mem_append.mp h with h | h
      · simp [h]
      · rcases List.mem_append.mp h with h | h
        · simp [h]
        · simp only [List.mem_append]; exact .inr (.inr h)
    have sl1 : Slots C G1 H' (wipe σ vs) δ Fs := sl.mono w1.gs fun a o _ e t => keep a o e t
    have kp1 : Kp (T ++ U ++ vs) δ0 Fs0 H0 δ Fs H' := (kp.trans (U := []) (fun j _ => ⟨rfl, rfl, fun f e a m o e2 t => keep a o e2 t⟩)).more fun j hj => by simpa using hj
    have out1 := out.step w3
    simp only [compIt] at out1
    cases es : s (item i) δ with
    | none => simp only [es] at out1; exact (show False from out1).elim
    | some δ1 =>
      simp only [es] at out1
      refine ⟨G1, δ, Fs, gi, item i, δ1, w3.wd.left, sl1, r1, es, fun σ2 G2 H2 Fs2 w4 s2 ow2 kp2 => ?_⟩
      have w5 := w4.frame w3.wd
      have keep5 : ∀ a o, a ∈ P1 ++ (D :: g) → H' a = some o → (∀ ps, o ≠ .tbl ps) → H2 a = some o := fun a o m e t => w4.hs a o e (fun m2 => w3.wd.dis a m2 m) t
      have hp2 : Pn (i + 1) G2 H2 P1 := wk.mono _ _ _ _ _ _ hp1 w4.gs fun a o m e t => keep5 a o (List.mem_append_left _ m) e t
      have hD1 : H' D = some (.lst av) := keep _ _ hD fun _ z => by cases z
      have hD2 : H2 D = some (.lst av) := keep5 _ _ (by simp) hD1 fun _ z => by cases z
      have hacc1 : RepVs C G1 H' av acc g := hacc.mono w1.gs fun a o _ e t => keep a o e t
      have hacc2 : RepVs C G2 H2 av acc g := hacc1.mono w4.gs fun a o m e t => keep5 a o (by simp [m]) e t
      have out2 := out1.step w5
      have tt2 : Tbs C H2 := w5.tt (w3.tt tt)
      have eqw : wipe σ2 vs = wipe σ vs := by
        apply List.ext_getElem?
        intro j
        by_cases hj : j ∈ vs
        · have e1 : ∀ τ : L2.St, ∀ vs : List Nat, j ∈ vs → (wipe τ vs)[j]? = if j < τ.length then some none else none := by
            intro τ vs
            induction vs with
            | nil => intro h; cases h
            | cons v vs ih =>
              intro h
              show ((wipe τ vs).set v none)[j]? = _
              by_cases hv : v = j
              · subst hv
                by_cases hl : v < τ.length
                · rw [if_pos hl, List.getElem?_set_self (by rw [wipe_length]; exact hl)]
                · rw [if_neg hl, List.getElem?_eq_none (by rw [List.length_set, wipe_length]; omega)]
              · rw [List.getElem?_set_ne hv]
                exact ih ((List.mem_cons.mp h).resolve_left fun e => hv e.symm)
          rw [e1 σ2 vs hj, e1 σ vs hj, ow2.2, wipe_length]
        · rw [wipe_out hj, ow2.1 j hj]
      have wn : ∀ (δ' : Sls) (σ' : List (Option V)) (G' : Hp) (H'' : Hp) (Fs' : List (List Addr)), Slots C G' H'' σ' δ' Fs' → σ' = σ2 → Slots C G' H'' (wipe σ vs) (wipeS δ' vs) (wipeF Fs' vs) := fun δ' σ' G' H'' Fs' s e => by
        subst e
        have := slots_wipe s vs
        rwa [eqw] at this
      have kpw : ∀ (δ' : Sls) (Fs' : List (List Addr)) (H'' : Hp) (A : List Nat), Kp A δ0 Fs0 H0 δ' Fs' H'' → (∀ j, j ∈ A → j ∈ T ++ U ++ vs) → Kp (T ++ U ++ vs) δ0 Fs0 H0 (wipeS δ' vs) (wipeF Fs' vs) H'' := fun δ' Fs' H'' A k hA j hj => by
        obtain ⟨k1, k2, k3⟩ := k j fun m => hj (hA j m)
        have hv : j ∉ vs := fun m => hj (List.mem_append_right _ m)
        have eS : ∀ vs : List Nat, j ∉ vs → (wipeS δ' vs)[j]? = δ'[j]? := by
          intro vs
          induction vs with
          | nil => intro _; rfl
          | cons v vs ih =>
            intro h
            show ((wipeS δ' vs).set v .un)[j]? = _
            rw [List.getElem?_set_ne fun e => h (by rw [e]; exact List.mem_cons_self)]
            exact ih fun m => h (List.mem_cons_of_mem _ m)
        have eF : ∀ vs : List Nat, j ∉ vs → (wipeF Fs' vs)[j]? = Fs'[j]? := by
          intro vs
          induction vs with
          | nil => intro _; rfl
          | cons v vs ih =>
            intro h
            show ((wipeF Fs' vs).set v [])[j]? = _
            rw [List.getElem?_set_ne fun e => h (by rw [e]; exact List.mem_cons_self)]
            exact ih fun m => h (List.mem_cons_of_mem _ m)
        exact ⟨(eS vs hv).trans k1, (eF vs hv).trans k2, k3⟩
      have kp2' : Kp (T ++ U ++ vs) δ0 Fs0 H0 δ1 Fs2 H2 := (kp1.trans kp2).more fun j hj => by
        simp only [List.mem_append] at hj ⊢
        rcases hj with h | h
        · exact h
        · exact .inr h
      refine ⟨eqw, G2, δ1, Fs2, w4.wd, tt2, s2, ?_⟩
      cases et : ft δ1 with
      | bad => simp only [et] at out2; exact (show False from out2).elim
      | er c δ' => simp only [et] at out2; exact (show False from out2).elim
      | ok b δ3 =>
        intro b' G3 H3 Fs3 g3 w6 s3 kp3 rb
        obtain ⟨rfl, rfl⟩ := rb
        rw [List.append_nil] at w6
        have w7 := w6.frame w5.wd
        have keep7 : ∀ a o, a ∈ P1 ++ (D :: g) → H2 a = some o → (∀ ps, o ≠ .tbl ps) → H3 a = some o := fun a o m e t => w6.hs a o e (fun m2 => w5.wd.dis a m2 m) t
        have hp3 : Pn (i + 1) G3 H3 P1 := wk.mono _ _ _ _ _ _ hp2 w6.gs fun a o m e t => keep7 a o (List.mem_append_left _ m) e t
        have hD3 : H3 D = some (.lst av) := keep7 _ _ (by simp) hD2 fun _ z => by cases z
        have hacc3 : RepVs C G3 H3 av acc g := hacc2.mono w6.gs fun a o m e t => keep7 a o (by simp [m]) e t
        have kp3' := kp2'.trans kp3
        cases b' with
        | false =>
          simp only [et] at out2
          rw [if_neg Bool.false_ne_true]
          have out3 := out2.step w7
          have sub : List.Sublist ((wipeF Fs3 vs).flatten ++ (P1 ++ (D :: g))) (Fs3.flatten ++ (P1 ++ (D :: g))) := List.Sublist.append (wipeF_sub vs Fs3) (List.Sublist.refl _)
          have wd8 : Wd G3 H3 ((wipeF Fs3 vs).flatten ++ (P1 ++ (D :: g))) := w7.wd.sub (sub.nodup w7.wd.nd) fun a h => sub.subset h
          refine ⟨hn, G3, wipeS δ3 vs, wipeF Fs3 vs, P1, g, av, acc, wd8, w7.tt tt2, wn _ _ _ _ _ s3 rfl, hp3, hD3, hacc3, kpw _ _ _ _ kp3' fun j hj => ?_, out3.step ((Fw.refl w7.wd).sub (sub.nodup w7.wd.nd) fun a h => sub.subset h)⟩
          simp only [List.mem_append] at hj ⊢
          rcases hj with h | h
          · exact h
          · exact .inl (.inl h)
        | true =>
          simp only [et] at out2
          rw [if_pos rfl]
          refine ⟨G3, δ3, Fs3, w6.wd, w7.tt tt2, s3, ?_⟩
          have out3 := out2.step w7
          cases ee : fe δ3 with
          | bad => simp only [ee] at out3; exact (show False from out3).elim
          | er c δ' => simp only [ee] at out3; exact (show False from out3).elim
          | ok y δ4 =>
            simp only [ee] at out3
            split at out3
            rotate_left
            · exact (show False from out3).elim
            rename_i hl
            intro yv G4 H4 Fs4 g4 w8 s4 kp4 r4
            have w9 := w8.frame w7.wd
            have keep9 : ∀ a o, a ∈ P1 ++ (D :: g) → H3 a = some o → (∀ ps, o ≠ .tbl ps) → H4 a = some o := fun a o m e t => w8.hs a o e (fun m2 => w7.wd.dis a m2 m) t
            have hp4 : Pn (i + 1) G4 H4 P1 := wk.mono _ _ _ _ _ _ hp3 w8.gs fun a o m e t => keep9 a o (List.mem_append_left _ m) e t
            have hD4 : H4 D = some (.lst av) := keep9 _ _ (by simp) hD3 fun _ z => by cases z
            have hacc4 : RepVs C G4 H4 av acc g := hacc3.mono w8.gs fun a o m e t => keep9 a o (by simp [m]) e t
            refine ⟨av, hD4, by rw [hacc4.len]; exact hl, hn, ?_⟩
            have dD : D ∈ (Fs4.flatten ++ g4) ++ (P1 ++ (D :: g)) := by simp
            have w10 := Fw.write (C := C.toCb) (o := .lst (av ++ [yv])) w9.wd dD ⟨fun _ z => (by cases z), fun _ z => (by cases z)⟩
            -- D is in no other footprint
            have ndD : D ∉ Fs4.flatten ++ g4 ∧ D ∉ P1 ∧ D ∉ g := by
              have nd := w9.wd.nd
              refine ⟨fun m => (List.nodup_append.mp nd).2.2 D m D (by simp) rfl, fun m => ?_, fun m => ?_⟩
              · exact (List.nodup_append.mp (List.nodup_append.mp nd).2.1).2.2 D m D (by simp) rfl
              · exact (List.nodup_cons.mp (List.nodup_append.mp (List.nodup_append.mp nd).2.1).2.1).1 m
            have keepD : ∀ a o, a ≠ D → H4 a = some o → upd H4 D (.lst (av ++ [yv])) a = some o := fun a o n e => by rw [upd_ne n]; exact e
            have ne4 : ∀ a, a ∈ Fs4.flatten → a ≠ D := fun a m z => ndD.1 (by rw [z] at m; exact List.mem_append_left _ m)
            have neg4 : ∀ a, a ∈ g4 → a ≠ D := fun a m z => ndD.1 (by rw [z] at m; exact List.mem_append_right _ m)
            have neP : ∀ a, a ∈ P1 → a ≠ D := fun a m z => ndD.2.1 (by rw [z] at m; exact m)
            have neg : ∀ a, a ∈ g → a ≠ D := fun a m z => ndD.2.2 (by rw [z] at m; exact m)
            have s5 : Slots C G4 (upd H4 D (.lst (av ++ [yv]))) σ2 δ4 Fs4 := s4.mono (fun _ _ e => e) fun a o m e _ => keepD a o (ne4 a m) e
            have hp5 : Pn (i + 1) G4 (upd H4 D (.lst (av ++ [yv]))) P1 := wk.mono _ _ _ _ _ _ hp4 (fun _ _ e => e) fun a o m e _ => keepD a o (neP a m) e
            have acc5 : RepVs C G4 (upd H4 D (.lst (av ++ [yv]))) (av ++ [yv]) (acc ++ [y]) (g ++ g4) :=
              RepVs.snoc (r4.mono (fun _ _ e => e) fun a o m e _ => keepD a o (neg4 a m) e) (hacc4.mono (fun _ _ e => e) fun a o m e _ => keepD a o (neg a m) e)
            have kp4' : Kp (T ++ U ++ vs) δ0 Fs0 H0 (wipeS δ4 vs) (wipeF Fs4 vs) (upd H4 D (.lst (av ++ [yv]))) := by
              have k5 : Kp [] δ4 Fs4 H4 δ4 Fs4 (upd H4 D (.lst (av ++ [yv]))) := fun j _ => ⟨rfl, rfl, fun f e a m o e2 _ => keepD a o (ne4 a (mem_flat e a m)) e2⟩
              refine kpw _ _ _ _ ((kp3'.trans kp4).trans k5) fun j hj => ?_
              simp only [List.mem_append, List.not_mem_nil, or_false] at hj ⊢
              rcases hj with (h | h) | h
              · exact h
              · exact .inl (.inl h)
              · exact .inl (.inr h)
            have pm2 : ((Fs4.flatten ++ g4) ++ (P1 ++ (D :: g))).Perm (Fs4.flatten ++ (P1 ++ (D :: (g ++ g4)))) := by
              rw [List.append_assoc]
              refine List.Perm.append_left _ ?_
              have a1 : (g4 ++ (P1 ++ (D :: g))).Perm ((P1 ++ (D :: g)) ++ g4) := List.perm_append_comm
              refine a1.trans ?_
              rw [List.append_assoc, List.cons_append]
            have sub2 : List.Sublist ((wipeF Fs4 vs).flatten ++ (P1 ++ (D :: (g ++ g4)))) (Fs4.flatten ++ (P1 ++ (D :: (g ++ g4)))) := List.Sublist.append (wipeF_sub vs Fs4) (List.Sublist.refl _)
            have w11 := (w10.perm pm2).sub (sub2.nodup (pm2.nodup_iff.mp w9.wd.nd)) fun a h => sub2.subset h
            exact ⟨G4, wipeS δ4 vs, wipeF Fs4 vs, P1, g ++ g4, av ++ [yv], acc ++ [y], w11.wd, w11.tt (w9.tt (w7.tt tt2)), wn _ _ _ _ _ s5 rfl, hp5, upd_same, acc5, kp4', (out3.step w9).step w11⟩
theorem wipeF_own {Fs : List (List Addr)} : ∀ {vs : List Nat} {j : Nat} {f : List Addr}, j ∈ vs → (wipeF Fs vs)[j]? = some f → f = []
  | v :: vs, j, f, h, e => by
    change ((wipeF Fs vs).set v [])[j]? = some f at e
    by_cases hv : v = j
    · subst hv
      by_cases hl : v < (wipeF Fs vs).length
      · rw [List.getElem?_set_self hl] at e; cases e; rfl
      · rw [List.getElem?_eq_none (by rw [List.length_set]; omega)] at e; cases e
    · rw [List.getElem?_set_ne hv] at e
      exact wipeF_own ((List.mem_cons.mp h).resolve_left fun e => hv e.symm) e
theorem lc_out {V' : List Nat} {s : DV → Sls → Option Sls} {fi : Sls → Res (List DV)} {ft : Sls → Res Bool} {fe : Sls → Res DV} {vs : List Nat} {W : WX} {σ : L2.St} {H : Hp} {Q : VK} (h : tG C rV W (V' ++ (T ++ U)) (mComp s fi ft fe vs) σ H Q) :
    tLc (tG C rI W V' fi) (tTg C vs s) (tG C rB (fun _ _ _ _ => False) T ft) (tG C rV (fun _ _ _ _ => False) U fe) vs σ H Q := by
  obtain ⟨G, δ, Fs, wd, tt, sl, out⟩ := h
  refine tG_of (P := []) (U := T ++ U) (by rw [List.append_nil]; exact wd) tt sl (k := fun xs δ1 =>
    if okOwn δ1 vs = true then (match compIt s ft fe vs xs (wipeS δ1 vs) [] with
      | .ok acc δ2 => .ok (mkL acc) (restore δ1 vs δ2)
      | _ => .bad) else .bad) (by rw [List.append_nil]; exact out) (fun j => List.mem_append.mpr) fun J xs δ1 G1 H1 Fs1 P w1 wd1 tt1 sl1 kp1 r1 _ out1 => ?_
  rw [List.append_nil] at wd1 out1
  obtain ⟨item, n, Pn, wk, rfl, hp⟩ := r1
  intro D hD
  split at out1
  rotate_left
  · exact (show False from out1).elim
  rename_i hok
  have eF := wipeF_ok sl1 vs hok
  have wn := Fw.new (C := C.toCb) (o := .lst []) (wd_nil wd1) hD ⟨fun _ z => (by cases z), fun _ z => (by cases z)⟩
  have w2 := Fw.frame (B := Fs1.flatten ++ P) wn (by rw [List.nil_append]; exact wd1)
  rw [List.nil_append] at w2
  have pm : ([D] ++ (Fs1.flatten ++ P)).Perm (Fs1.flatten ++ (P ++ [D])) := by
    refine List.perm_append_comm.trans ?_
    rw [List.append_assoc]
  have w3 := w2.perm pm
  have keep : ∀ a o, H1 a = some o → upd H1 D (.lst []) a = some o := upd_keep hD
  have s3 : Slots C G1 (upd H1 D (.lst [])) (wipe σ vs) (wipeS δ1 vs) Fs1 := by
    have := slots_wipe sl1 vs
    rw [eF] at this
    exact this.mono (fun _ _ e => e) fun a o _ e _ => keep a o e
  refine comp_out (T := T) (U := U) (δ0 := δ1) (Fs0 := Fs1) (H0 := H1) wk w3.wd (w3.tt tt1) s3 (wk.mono _ _ _ _ _ _ hp (fun _ _ e => e) fun a o _ e _ => keep a o e) upd_same (acc := []) (av := []) rfl (fun j hj => ?_) ?_
  · have hv : j ∉ vs := fun m => hj (List.mem_append_right _ m)
    have eS : ∀ vs : List Nat, j ∉ vs → (wipeS δ1 vs)[j]? = δ1[j]? := by
      intro vs
      induction vs with
      | nil => intro _; rfl
      | cons v vs ih =>
        intro h
        show ((wipeS δ1 vs).set v .un)[j]? = _
        rw [List.getElem?_set_ne fun e => h (by rw [e]; exact List.mem_cons_self)]
        exact ih fun m => h (List.mem_cons_of_mem _ m)
    exact ⟨eS vs hv, rfl, fun f e a m o e2 _ => keep a o e2⟩
  · cases ec : compIt s ft fe vs (fromTo item 0 n) (wipeS δ1 vs) [] with
    | bad => simp only [ec] at out1; exact (show False from out1).elim
    | er c δ' => simp only [ec] at out1; exact (show False from out1).elim
    | ok acc δ2 =>
      simp only [ec] at out1
      intro av G' H' Fs' g w4 s4 hD4 r4 kp4
      obtain ⟨Fs2, q1, q2, q3, q4⟩ := slots_restore sl1 w4.gs vs hok s4
      have sub : List.Sublist (Fs2.flatten ++ (D :: g)) (Fs'.flatten ++ (D :: g)) := List.Sublist.append q2 (List.Sublist.refl _)
      have w5 := (w3.trans w4).sub (sub.nodup w4.wd.nd) fun a h => sub.subset h
      refine out1 (.ref D) G' H' Fs2 (D :: g) w5 q1 (fun j hj => ?_) ?_
      · by_cases hv : j ∈ vs
        · obtain ⟨a1, a2⟩ := q4 j hv
          refine ⟨a1, a2, fun f e a m o _ _ => ?_⟩
          have : f = [] := wipeF_own (Fs := Fs1) hv (by rw [eF]; exact e)
          rw [this] at m; cases m
        · obtain ⟨a1, a2⟩ := q3 j hv
          obtain ⟨b1, b2, b3⟩ := kp4 j fun m => (List.mem_append.mp m).elim hj hv
          exact ⟨a1.trans b1, a2.trans b2, b3⟩
      · unfold mkL
        split
        · rename_i ha
          obtain ⟨r5, rfl⟩ := r4.frs ha
          exact ⟨D, av, rfl, hD4, r5, rfl⟩
        · exact ⟨D, av, g, rfl, hD4, r4.reps, rfl⟩
/-- a list comprehension as a value -/
theorem se_lc {V' : List Nat} {scope : Scope} {own : List (Str × Nat)} {s : DV → Sls → Option Sls} {fi : Sls → Res (List DV)} {ft : Sls → Res Bool} {fe : Sls → Res DV} (hc : X.calm = true) (hN : X.N.Nodup) (hi : SI X C V' tg iter fi) (ok : BlkOk X.N X.env.scope scope own)
    (hg : ∀ (s' : Shared) (H : Hp) (K : Addr) (cl : List (Str × Addr)) (fp : List Addr), SG (X.blk s' H scope (compEnvC scope cl K X.env) fp) C (own.map (·.2)) tg s)
    (ht : ∀ (s' : Shared) (H : Hp) (K : Addr) (cl : List (Str × Addr)) (fp : List Addr), STs (X.blk s' H scope (compEnvC scope cl K X.env) fp) C T ifs ft)
    (he : ∀ (s' : Shared) (H : Hp) (K : Addr) (cl : List (Str × Addr)) (fp : List Addr), SE (X.blk s' H scope (compEnvC scope cl K X.env) fp) C U elt fe)
    (hs : ∀ x, foldedSetIterable iter X.env x = pure x := by intro _; rfl) : SE X C (V' ++ (T ++ U)) (.ListComp elt [⟨tg, iter, ifs, 0⟩] scope pos) (mComp s fi ft fe (own.map (·.2))) :=
  ⟨fun W tk => PE.imp (pe_lc hc hN (hi.run W tk) ok (fun s' H K cl fp => (hg s' H K cl fp).run) (fun s' H K cl fp => (ht s' H K cl fp).run _ takes0) (fun s' H K cl fp => (he s' H K cl fp).run _ takes0) hs) fun σ H Q h => lc_out h⟩
/-- y = [..] on one line -/
theorem ss_setLc {V' : List Nat} {i : Nat} {y : Str} {py spos : Pos} {scope : Scope} {own : List (Str × Nat)} {s : DV → Sls → Option Sls} {fi : Sls → Res (List DV)} {ft : Sls → Res Bool} {fe : Sls → Res DV} (hc : X.calm = true) (hN : X.N.Nodup) (hy : X.N[i]? = some y) (hyl : X.env.scope.names.lookup y = some .local)
    (hsw : swapsWith (.ListComp elt [⟨tg, iter, ifs, 0⟩] scope pos) (some (.Name y py)) spos.line X.env = pure true) (hi : SI X C V' tg iter fi) (ok : BlkOk X.N X.env.scope scope own)
    (hg : ∀ (s' : Shared) (H : Hp) (K : Addr) (cl : List (Str × Addr)) (fp : List Addr), SG (X.blk s' H scope (compEnvC scope cl K X.env) fp) C (own.map (·.2)) tg s)
    (ht : ∀ (s' : Shared) (H : Hp) (K : Addr) (cl : List (Str × Addr)) (fp : List Addr), STs (X.blk s' H scope (compEnvC scope cl K X.env) fp) C T ifs ft)
    (he : ∀ (s' : Shared) (H : Hp) (K : Addr) (cl : List (Str × Addr)) (fp : List Addr), SE (X.blk s' H scope (compEnvC scope cl K X.env) fp) C U elt fe)
    (hs : ∀ x, foldedSetIterable iter X.env x = pure x := by intro _; rfl) : SS X C (.Assign [.Name y py] (.ListComp elt [⟨tg, iter, ifs, 0⟩] scope pos) spos) (sSet i (mComp s fi ft fe (own.map (·.2)))) := by
  refine ⟨fun W tk => PS.imp (ps_setLc hc hN hy hyl hsw (hi.run W tk) ok (fun s' H K cl fp => (hg s' H K cl fp).run) (fun s' H K cl fp => (ht s' H K cl fp).run _ takes0) (fun s' H K cl fp => (he s' H K cl fp).run _ takes0) hs) fun D σ H q => ?_⟩
  refine lc_out (T := T) (U := U) (V' := V') (W := W) (Q := fun v H1 => gName i v σ H1 D.nx) (tS_of (T := V' ++ (T ++ U)) q fun v x δ1 G1 H1 Fs1 g wd tt sl r out => ?_)
  obtain ⟨δ', s', o', w', _⟩ := sto_out (B := []) (by rw [List.append_nil]; exact wd) sl r (by rw [List.append_nil]; exact out)
  rw [List.append_nil] at o' w'
  exact tS_nx o' w' (fun a h => h) s'
end
end Pv

set_option Elab.async false
set_option linter.all false
set_option maxRecDepth 100000
/-! PvM: built-in functions, products of rows, turned rows, join, calls without arguments, globals. -/
namespace Pv
open PySem PySem.Spec L2

/-! ### * of all kinds -/
def rMulA (K : PySem.W.Frag) : R2 := fun x y H Q => rMulI x y H Q ∨ rRep x y H Q ∨ rRepT K x y H Q
theorem op_mulAll {X : Cx} : OpR X (binaryOp .Mult) (rMulA X.K) := op_mulA.or (op_rep.or op_repT)
def dMul : DV → DV → Option DV := fun x y => match x.d, y.d with
  | .int i, .int j => (mulI i j).map .fr
  | .lst _ _, .int k => (kids x).bind fun ds => if -(2 ^ 63) ≤ k ∧ k < 2 ^ 63 ∧ ds.length * k.toNat ≤ sizeLine then some (.ow (.lst .own (List.replicate k.toNat ds).flatten)) else none
  | .tup _, .int k => (kidsT x).bind fun ds => if ds ≠ [] ∧ 2 ≤ k ∧ k ≤ 1000 ∧ ds.length ≤ 1000 then some (.fr (.tup (List.replicate k.toNat ds).flatten)) else none
  | _, _ => none
theorem o2_mul {C : Cb} : Op2 C (rMulA C.K) dMul := by
  intro G H x y d e f1 f2 z Q wd r1 r2 h w
  unfold dMul at h
  split at h
  · rename_i i j e1 e2
    refine .inl (o2_mulI G H x y d e f1 f2 z Q wd r1 r2 ?_ w)
    unfold ints2
    rw [e1, e2]
    exact h
  · rename_i k e1 e2
    cases hk : kids d with
    | none => rw [hk] at h; cases h
    | some ds =>
      rw [hk] at h
      simp only [Option.bind_some] at h
      split at h <;> cases h
      rename_i hc
      obtain ⟨a, vs, rfl, q, rs⟩ := kids_rep hk wd r1
      exact .inr (.inl ⟨a, k, vs, rfl, dv_int e2 r2, q, hc.1, hc.2.1, by rw [rs.len]; exact hc.2.2, wt_list wd w (rs.rep0 _)⟩)
  · rename_i k e1 e2
    cases hk : kidsT d with
    | none => rw [hk] at h; cases h
    | some ds =>
      rw [hk] at h
      simp only [Option.bind_some] at h
      split at h <;> cases h
      rename_i hc
      obtain ⟨a, vs, rfl, q, q2, rs⟩ := kidsT_rep hk wd r1
      exact .inr (.inr ⟨a, k, vs, rfl, dv_int e2 r2, q, fun e => hc.1 (by rw [e] at rs; exact List.eq_nil_of_length_eq_zero rs.len.symm), hc.2.1, hc.2.2.1, by rw [rs.len]; exact hc.2.2.2, wt_tup wd w (rs.rep0 _)⟩)
  · cases h

/-! ### in place -/
theorem o2_addS {C : Cb} : Op2 C (fun x y H Q => (rI0 fun i j => .int (i + j)) x y H Q ∨ (∃ i j, x = .str i ∧ y = .str j ∧ i.length + j.length ≤ sizeLine ∧ Q (.str (i ++ j)) H)) (fun x y => match x.d, y.d with
  | .int i, .int j => some (.fr (.int (i + j)))
  | .str a, .str b => if a.length + b.length ≤ sizeLine then some (.fr (.str (a ++ b))) else none
  | _, _ => none) := by
  intro G H x y d e f1 f2 z Q wd r1 r2 h w
  simp only at h
  split at h
  · rename_i i j e1 e2
    cases h
    exact .inl ⟨i, j, dv_int e1 r1, dv_int e2 r2, wt_int wd w⟩
  · rename_i a b e1 e2
    split at h <;> cases h
    rename_i hl
    exact .inr ⟨_, _, dv_str e1 r1, dv_str e2 r2, by rw [strV_len, strV_len]; exact hl, wt_str wd w (strV_app a b)⟩
  · cases h
def imulI : Int → Int → Option D := fun i j => if small i || small j then some (.int (i * j)) else none
theorem o2_imul {C : Cb} : Op2 C (L2.rI CMul fun i j => .int (i * j)) (ints2 imulI) := o2_ints fun i j d h => by
  unfold imulI at h
  split at h <;> cases h
  rename_i hc
  rw [Bool.or_eq_true] at hc
  exact ⟨hc.elim (fun h => .inl (of_decide_eq_true h)) fun h => .inr (of_decide_eq_true h), fun _ _ => ⟨rfl, rfl⟩⟩
def idivI : Int → Int → Option D := fun i j => if 0 < j ∧ j < 1073741824 then some (.int (i / j)) else none
theorem o2_idiv {C : Cb} : Op2 C (L2.rI CDiv fun i j => .int (i / j)) (ints2 idivI) := o2_ints fun i j d h => by
  unfold idivI at h
  split at h <;> cases h
  rename_i hc
  exact ⟨hc, fun _ _ => ⟨rfl, rfl⟩⟩

/-! ### built-in functions -/
section
variable {C : Cb}
def g1 (g : DV → Option DV) : List DV → Option DV
  | [x] => g x
  | _ => none
def g2 (g : DV → DV → Option DV) : List DV → Option DV
  | [x, y] => g x y
  | _ => none
theorem opn1 {r : List V → Hp → VK → Prop} {g : DV → Option DV} (h : ∀ (G H : Hp) (x : V) (d : DV) (f : List Addr) (z : DV) (Q : VK), Wd G H [] → RepV C G H x d f → g d = some z → Wt C G H z Q → r [x] H Q) : OpN C r (g1 g) := by
  intro G H vs xs z Q wd rx hz w
  match xs, vs, rx, hz with
  | [x], [v], ⟨⟨f, rx⟩, _⟩, hz => exact h G H v x f z Q wd rx hz w
theorem opn2 {r : List V → Hp → VK → Prop} {g : DV → DV → Option DV} (h : ∀ (G H : Hp) (x y : V) (d e : DV) (f1 f2 : List Addr) (z : DV) (Q : VK), Wd G H [] → RepV C G H x d f1 → RepV C G H y e f2 → g d e = some z → Wt C G H z Q → r [x, y] H Q) : OpN C r (g2 g) := by
  intro G H vs xs z Q wd rx hz w
  match xs, vs, rx, hz with
  | [x, y], [v, u], ⟨⟨f, rx⟩, ⟨f', ry⟩, _⟩, hz => exact h G H v u x y f f' z Q wd rx ry hz w
def dLen : DV → Option DV := fun x => match x.d with
  | .str s => if s.length ≤ sizeLine then some (.fr (.int s.length)) else none
  | d => (items d).map fun ds => .fr (.int ds.length)
theorem on_len : OpN C (fun xs H Q => ∃ x n, xs = [x] ∧ LenV C.K x H n ∧ Q (.int n) H) (g1 dLen) := opn1 fun G H x d f z Q wd r h w => by
  unfold dLen at h
  split at h
  · rename_i s e
    split at h <;> cases h
    rename_i hl
    exact ⟨x, s.length, rfl, by rw [dv_str e r]; exact ⟨by rw [strV_len]; exact hl, (strV_len s).symm⟩, wt_int wd w⟩
  · cases e : items d.d with
    | none => rw [e] at h; cases h
    | some ds =>
      rw [e] at h; cases h
      obtain ⟨a, vs, g, rfl, q, rs⟩ := items_rep wd r.d e
      refine ⟨_, ds.length, rfl, ?_, wt_int wd w⟩
      rcases q with q | q
      · exact .inl ⟨vs, q, rs.len.symm⟩
      · exact .inr ⟨vs, q, rs.len.symm⟩
def dAbs : DV → Option DV := fun x => match x.d with
  | .int i => some (.fr (.int (if i < 0 then -i else i)))
  | _ => none
theorem on_abs : OpN C (fun xs H Q => ∃ i, xs = [.int i] ∧ Q (.int (if i < 0 then -i else i)) H) (g1 dAbs) := opn1 fun G H x d f z Q wd r h w => by
  unfold dAbs at h
  split at h <;> cases h
  rename_i i e
  exact ⟨i, by rw [dv_int e r], wt_int wd w⟩
def dInt : DV → Option DV := fun x => match x.d with
  | .int i => some (.fr (.int i))
  | .bl b => some (.fr (.int (if b then 1 else 0)))
  | _ => none
theorem on_int : OpN C (fun xs H Q => (∃ i, xs = [.int i] ∧ Q (.int i) H) ∨ ∃ k, xs = [.bl k] ∧ Q (.int (if k then 1 else 0)) H) (g1 dInt) := opn1 fun G H x d f z Q wd r h w => by
  unfold dInt at h
  split at h <;> cases h
  · rename_i i e
    exact .inl ⟨i, by rw [dv_int e r], wt_int wd w⟩
  · rename_i b e
    exact .inr ⟨b, by rw [dv_bl e r], wt_int wd w⟩
def dOrd : DV → Option DV := fun x => match x.d with
  | .str [c] => some (.fr (.int c))
  | _ => none
theorem on_ord : OpN C (fun xs H Q => ∃ x, xs = [.str x] ∧ x.length = 1 ∧ Q (.int (x.cps.getD 0 0 : Nat)) H) (g1 dOrd) := opn1 fun G H x d f z Q wd r h w => by
  unfold dOrd at h
  split at h <;> cases h
  rename_i c e
  exact ⟨strV [c], by rw [dv_str e r], rfl, wt_int wd w⟩
/-- tuple(a list | a tuple) -/
def dTup : DV → Option DV := fun x => match x.d with
  | .lst _ _ => (kidsL x).map fun ds => .fr (.tup ds)
  | .tup _ => (kidsT x).map fun ds => .fr (.tup ds)
  | _ => none
theorem on_tuple : OpN C (fun xs H Q => ∃ p ys, xs = [.ref p] ∧ ((SqL C.K H p ys ∧ ∀ l, H l = none → Q (.ref l) (upd H l (.tup ys))) ∨ (SqT C.K H p ys ∧ Q (.ref p) H))) (g1 dTup) := opn1 fun G H x d f z Q wd r h w => by
  unfold dTup at h
  split at h
  · cases hk : kidsL d with
    | none => rw [hk] at h; cases h
    | some ds =>
      rw [hk] at h; cases h
      obtain ⟨a, vs, rfl, q, rs⟩ := kidsL_rep hk wd r
      exact ⟨a, vs, rfl, .inl ⟨q, wt_tup wd w rs⟩⟩
  · cases hk : kidsT d with
    | none => rw [hk] at h; cases h
    | some ds =>
      rw [hk] at h; cases h
      obtain ⟨a, vs, rfl, q, q2, rs⟩ := kidsT_rep hk wd r
      exact ⟨a, vs, rfl, .inr ⟨q, wt_sc wd w ⟨a, vs, rfl, q2, rs⟩⟩⟩
  · cases h
def dList : DV → Option DV := fun x => match x.d with
  | .lst _ _ => (kidsL x).map fun ds => .ow (.lst .own ds)
  | .tup _ => (kidsT x).map fun ds => .ow (.lst .own ds)
  | _ => none
theorem on_list : OpN C (fun xs H Q => ∃ p ys, xs = [.ref p] ∧ (SqL C.K H p ys ∨ SqT C.K H p ys) ∧ ∀ l, H l = none → Q (.ref l) (upd H l (.lst ys))) (g1 dList) := opn1 fun G H x d f z Q wd r h w => by
  unfold dList at h
  split at h
  · cases hk : kidsL d with
    | none => rw [hk] at h; cases h
    | some ds =>
      rw [hk] at h; cases h
      obtain ⟨a, vs, rfl, q, rs⟩ := kidsL_rep hk wd r
      exact ⟨a, vs, rfl, .inl q, wt_list wd w rs⟩
  · cases hk : kidsT d with
    | none => rw [hk] at h; cases h
    | some ds =>
      rw [hk] at h; cases h
      obtain ⟨a, vs, rfl, q, q2, rs⟩ := kidsT_rep hk wd r
      exact ⟨a, vs, rfl, .inr q, wt_list wd w rs⟩
  · cases h
def dMax2 : DV → DV → Option DV := ints2 fun i j => some (.int (if j > i then j else i))
def dMin2 : DV → DV → Option DV := ints2 fun i j => some (.int (if j < i then j else i))
theorem on_ints2 {r : List V → Hp → VK → Prop} {k : Int → Int → Int} (h : ∀ i j H Q, Q (.int (k i j)) H → r [.int i, .int j] H Q) : OpN C r (g2 (ints2 fun i j => some (.int (k i j)))) := opn2 fun G H x y d e f1 f2 z Q wd r1 r2 hz w => by
  unfold ints2 at hz
  split at hz <;> cases hz
  rename_i i j e1 e2
  rw [dv_int e1 r1, dv_int e2 r2]
  exact h i j H Q (wt_int wd w)
theorem on_max2 : OpN C (fun xs H Q => ∃ i j, xs = [.int i, .int j] ∧ Q (.int (if j > i then j else i)) H) (g2 dMax2) := on_ints2 fun i j H Q q => ⟨i, j, rfl, q⟩
theorem on_min2 : OpN C (fun xs H Q => ∃ i j, xs = [.int i, .int j] ∧ Q (.int (if j < i then j else i)) H) (g2 dMin2) := on_ints2 fun i j H Q q => ⟨i, j, rfl, q⟩
end

/-! ### xs[::-1], xs a list or a tuple -/
section
variable {M : Model} {A : Around} {E : Value → Shared → Prop} {s : Shared} {prog : Program} {w : World}
open PyProof in
theorem sliceApplied_rev {sl : Addr} {vs : Value} {n : Nat} {Q : Int × Int × Nat → Shared → Prop} (hs : s.heap.IsSliceOf sl .none .none vs) (ps : IsPart vs (some (-1)))
    (h : Q ((n : Int) - 1, -1, n) s) : wpAny (model prog w) A (Builtin.Slice.sliceApplied (.ref sl) (pure (n : Int))) Q E s := by
  obtain ⟨os, hos, hcs, hds⟩ := id hs
  unfold Builtin.Slice.sliceApplied Builtin.Slice.sliceFields
  refine wpAny_bind (wpAny_bind (wpAny_field hos hds (x := .none) rfl (wpAny_bind (wpAny_field hos hds (x := .none) rfl (wpAny_bind (wpAny_field hos hds (x := vs) rfl (wpAny_pure ?_)))))))
  refine wpAny_bind (HT.slicePart_ ps ?_)
  show wpAny _ _ (if ((-1 : Int) == 0) = true then _ else _) _ _ s
  rw [if_neg (by decide)]
  refine wpAny_bind (HT.slicePart_ .none (wpAny_bind (HT.slicePart_ .none (wpAny_bind (wpAny_pure ?_)))))
  have e : Builtin.Slice.sliceAdjust none none (-1) (n : Int) = ((n : Int) - 1, -1) := by
    unfold Builtin.Slice.sliceAdjust
    simp
  have e2 : Builtin.Slice.slicePlaces ((n : Int) - 1) (-1) (-1) = n := by
    unfold Builtin.Slice.slicePlaces
    simp
    omega
  show wpAny _ _ (match Builtin.Slice.sliceAdjust none none (-1) (n : Int) with | (lo, hi) => pure (lo, (-1 : Int), Builtin.Slice.slicePlaces lo hi (-1))) _ _ s
  rw [e]
  show wpAny _ _ (pure ((n : Int) - 1, (-1 : Int), Builtin.Slice.slicePlaces ((n : Int) - 1) (-1) (-1))) _ _ s
  rw [e2]
  exact wpAny_pure h
end
theorem fm_congr {α β : Type} {f g : α → Option β} : ∀ (l : List α), (∀ a ∈ l, f a = g a) → l.filterMap f = l.filterMap g
  | [], _ => rfl
  | a :: l, h => by
    rw [List.filterMap_cons, List.filterMap_cons, h a List.mem_cons_self, fm_congr l fun b hb => h b (List.mem_cons_of_mem _ hb)]
section
variable {M : Model} {A : Around} {E : Value → Shared → Prop} {s : Shared} {prog : Program} {w : World}
open PyProof PyProof.Rows in
theorem getItem_tuple_rev {t sl : Addr} {items : Array Value} {vs : Value} {Q : Value → Shared → Prop} (ht : IsTup s.heap t items) (hs : s.heap.IsSliceOf sl .none .none vs) (ps : IsPart vs (some (-1)))
    (h : Q (.ref s.heap.objs.size) { s with heap := s.heap.push { cls := .type "tuple", data := .seq items.toList.reverse.toArray } })
    (hsz : items.size ≤ sizeLine) : wpAny (model prog w) A (getItem (.ref t) (.ref sl)) Q E s := by
  have htake : sizeOk (.seq items.toList.reverse.toArray) := by
    show items.toList.reverse.toArray.size ≤ sizeLine
    rw [List.size_toArray, List.length_reverse, Array.length_toList]
    omega
  obtain ⟨os, hos, hcs, hds⟩ := id hs
  have hTs : s.TypeIs (.ref sl) "slice" := ⟨os, hos, hcs⟩
  have hpick : ((List.range items.size).filterMap fun (k : Nat) => items[(((items.size : Int) - 1) + (k : Int) * (-1)).toNat]?).toArray = items.toList.reverse.toArray := by
    congr 1
    apply List.ext_getElem?
    intro i
    have e : (List.range items.size).filterMap (fun (k : Nat) => items[(((items.size : Int) - 1) + (k : Int) * (-1)).toNat]?) = (List.range items.size).map fun k => items.getD (items.size - 1 - k) .none := by
      rw [← List.filterMap_eq_map]
      refine fm_congr _ fun k hk => ?_
      have hk' := List.mem_range.mp hk
      have e1 : (((items.size : Int) - 1) + (k : Int) * (-1)).toNat = items.size - 1 - k := by omega
      rw [e1]
      have h2 : items.size - 1 - k < items.size := by omega
      simp [Array.getD, h2]
    rw [e, List.getElem?_map]
    by_cases hi : i < items.size
    · have h2 : items.size - 1 - i < items.size := by omega
      rw [List.getElem?_range hi]
      simp [Array.getD, h2, hi]
    · simp [hi]
  unfold getItem
  try with_reducible refine wpAny_holding ?_
  first | refine wpAny_bind (wpAny_pure ?_) | skip
  refine wpAny_bind (wpAny_sequenceKey ht.typeIs (by decide) ?_)
  refine wpAny_bind (wpAny_callSpecial?_slot (name := Str.ofString "__getitem__") ht.typeIs PyProof.Rows.slot_tuple_getitem
    (wpAny_call_entry PyProof.Rows.slot_tuple_getitem ht.typeIs entry_tuple_getitem ?_ (args_tuple_getitem _ _)))
  show wpAny _ _ (Builtin.Tuple.tupleItemsOf (.ref t) >>= _) _ _ s
  refine wpAny_bind (tupleItemsOf_ ht ?_)
  refine wpAny_bind (wpAny_typeOf hTs ?_)
  rw [if_pos (by decide)]
  refine wpAny_bind (sliceApplied_rev hs ps ?_)
  have hno : ¬ ((((items.size : Int) - 1) == 0 && (-1 : Int) == 1 && items.size == items.size) = true) := by
    intro q
    rw [Bool.and_eq_true, Bool.and_eq_true] at q
    exact absurd q.1.2 (by decide)
  show wpAny _ _ (if (((items.size : Int) - 1) == 0 && (-1 : Int) == 1 && items.size == items.size) = true then _ else _) _ _ s
  rw [if_neg hno, hpick]
  first
    | exact wpAny_bind (m := Builtin.Tuple.tupleExact _) (wpAny_newObj_type (wpAny_pure ⟨_, rfl, wpAny_pure h⟩) htake)
    | exact wpAny_bind (m := Builtin.Tuple.tupleExact _) (wpAny_newObj_type (wpAny_bind (wpAny_pure (wpAny_pure ⟨_, rfl, wpAny_pure h⟩))) htake)
    | exact wpAny_bind (wpAny_bind (m := Builtin.Tuple.tupleExact _) (wpAny_newObj_type (wpAny_pure (wpAny_pure ⟨_, rfl, wpAny_pure h⟩)) htake))
    | exact wpAny_bind (wpAny_bind (m := Builtin.Tuple.tupleExact _) (wpAny_newObj_type (wpAny_pure ⟨_, rfl, wpAny_pure h⟩) htake))
end
section
open PyProof PyProof.Rows
variable {X : Cx} {C : Cc} {T U : List Nat} {e : Expr} {es : List Expr} {pos : Pos}
def rRevA (K : PySem.W.Frag) : V → Hp → VK → Prop := fun x H1 Q => ∃ a xs, x = .ref a ∧ ((SqL K H1 a xs ∧ ∀ p, H1 p = none → Q (.ref p) (upd H1 p (.lst xs.reverse))) ∨ (SqT K H1 a xs ∧ ∀ p, H1 p = none → Q (.ref p) (upd H1 p (.tup xs.reverse))))
theorem pe_revA {te : TE} {k : Nat} {p1 p2 p3 pos : Pos} (he : PE X e te) : PE X (.Subscript e (.Slice none none (some (.UnaryOp .USub (.Constant (.int 1) k p1) p2)) p3) pos) (tUn (rRevA X.K) te) := by
  refine ⟨fun pins s σ H Q I h => ?_⟩
  refine Subscript_ (thn (he.run pins s σ H _ I h) fun v s1 ⟨x, H1, I1, r1, q1⟩ => ?_)
  obtain ⟨a, xs, ex, hx⟩ := q1
  subst ex
  cases r1
  have hst : PO X (some (.UnaryOp .USub (.Constant (.int 1) k p1) p2)) (tPart (tUn (rU fun i => .int (-i)) (tC (.int 1)))) := po_some (pe_un un_neg pe_int)
  refine wpAny_Slice (thn (po_none.run pins s1 σ H1 (fun o H2 => o = none ∧ H2 = H1) I1 ⟨rfl, rfl⟩) fun vl s2 ⟨l, H2, I2, pl, el, e2⟩ => ?_)
  subst el e2
  refine thn (po_none.run pins s2 σ H2 (fun o H3 => o = none ∧ H3 = H2) I2 ⟨rfl, rfl⟩) fun vu s3 ⟨u, H3, I3, pu, eu, e3⟩ => ?_
  subst eu e3
  refine thn (hst.run pins s3 σ H3 (fun o H4 => o = some (-1) ∧ H4 = H3) I3 ⟨1, rfl, -1, rfl, rfl, rfl⟩) fun vs s4 ⟨o, H4, I4, ps, eo, e4⟩ => ?_
  subst eo e4
  have I5 : Inv X pins σ H4 { s4 with heap := s4.heap.push { cls := .type "slice", data := .fields #[vl, vu, vs] } } := I4.kept (t' := s4.toks) fun b ob q => Heap.get?_push_of_some _ q
  show wpAny (model X.prog X.w) X.A (subscriptTail e (.Slice none none (some (.UnaryOp .USub (.Constant (.int 1) k p1) p2)) p3) (.ref a) (.ref s4.heap.objs.size)) (EP X pins σ Q) X.xe { s4 with heap := s4.heap.push { cls := .type "slice", data := .fields #[vl, vu, vs] } }
  rcases hx with ⟨hx, q⟩ | ⟨hx, q⟩
  · obtain ⟨its, r, ht, hz⟩ := I5.list hx
    have hlen := r.length
    refine tail_any (ops := [.ref a, .ref s4.heap.objs.size]) ht.isList.typeIs (PySem.slot_list_getitem.lookup) ?_ (by with_unfolding_all rfl)
    refine wpAny_getItem_list_slice ht.isList (Heap.IsSliceOf.new _ vl vu vs) pl pu ps (by decide) ?_ (by rw [List.size_toArray]; omega)
    rw [PySem.W.krv_pick]
    refine ⟨.ref _, _, I5.laid (t' := s4.toks) (o := .lst xs.reverse) (fun b ob q => Heap.get?_push_of_some _ q) (Nat.le_refl _) ?_, rfl, q _ (I5.hok.fresh (Nat.le_refl _))⟩
    exact ⟨by rw [List.length_reverse]; exact hz, _, 0, r.reverse, Heap.get?_push_size _ rfl⟩
  · obtain ⟨its, r, ht, hz⟩ := I5.tuple hx
    have hlen := r.length
    refine tail_any (ops := [.ref a, .ref s4.heap.objs.size]) ht.typeIs PyProof.Rows.slot_tuple_getitem.lookup ?_ (by with_unfolding_all rfl)
    cases pl
    cases pu
    refine getItem_tuple_rev ht (Heap.IsSliceOf.new _ .none .none vs) ps ?_ (by rw [List.size_toArray]; omega)
    refine ⟨.ref _, _, I5.laid (t' := s4.toks) (o := .tup xs.reverse) (fun b ob q => Heap.get?_push_of_some _ q) (Nat.le_refl _) ?_, rfl, q _ (I5.hok.fresh (Nat.le_refl _))⟩
    exact ⟨by rw [List.length_reverse]; exact hz, _, r.reverse, by
      rw [List.toList_toArray]; exact IsTup.new _ _⟩
def dRev : DV → Option DV := fun x => match x.d with
  | .lst _ _ => (kidsL x).map fun ds => .ow (.lst .own ds.reverse)
  | .tup _ => (kidsT x).map fun ds => .fr (.tup ds.reverse)
  | _ => none
theorem o1_rev {C : Cb} : Op1 C (rRevA C.K) dRev := by
  intro G H x d f z Q wd r h w
  unfold dRev at h
  split at h
  · cases hk : kidsL d with
    | none => rw [hk] at h; cases h
    | some ds =>
      rw [hk] at h; cases h
      obtain ⟨a, vs, rfl, q, rs⟩ := kidsL_rep hk wd r
      exact ⟨a, vs, rfl, .inl ⟨q, wt_list wd w rs.rev0⟩⟩
  · cases hk : kidsT d with
    | none => rw [hk] at h; cases h
    | some ds =>
      rw [hk] at h; cases h
      obtain ⟨a, vs, rfl, q, q2, rs⟩ := kidsT_rep hk wd r
      exact ⟨a, vs, rfl, .inr ⟨q, wt_tup wd w rs.rev0⟩⟩
  · cases h
theorem se_rev {k : Nat} {p1 p2 p3 : Pos} {fa : Sls → Res OV} (hK : X.K = C.K) (ha : SO X C T e fa) : SE X C T (.Subscript e (.Slice none none (some (.UnaryOp .USub (.Constant (.int 1) k p1) p2)) p3) pos) (mOp1 dRev fa) :=
  ⟨fun W tk => PE.imp (pe_revA (ha.run W tk)) fun _ _ _ h => by rw [hK]; exact one_out o1_rev h⟩

/-! ### "".join(xs) -/
def strsD : List D → Option (List (List Nat))
  | [] => some []
  | .str x :: ds => (strsD ds).map fun xs => x :: xs
  | _ => none
theorem strs_rep {C : Cb} {G H : Hp} : ∀ {ds : List D} {vs : List V} {g : List Addr} {xs : List (List Nat)}, Reps C G H vs ds g → strsD ds = some xs → vs = (xs.map strV).map V.str
  | [], [], _, _, _, h => by simp only [strsD] at h; cases h; rfl
  | [], _ :: _, _, _, r, _ => by simp only [Reps] at r
  | d :: ds, [], _, _, r, _ => by simp only [Reps] at r
  | d :: ds, v :: vs, _, _, r, h => by
    simp only [Reps] at r
    obtain ⟨f1, f2, r1, r2, _⟩ := r
    cases d <;> simp only [strsD] at h <;> try cases h
    rename_i x
    cases e : strsD ds with
    | none => rw [e] at h; cases h
    | some xs =>
      rw [e] at h; cases h
      simp only [Rep] at r1
      rw [r1.1, strs_rep r2 e]; rfl
def dJoin (sep : List Nat) : DV → Option DV := fun x => (items x.d).bind fun ds => (strsD ds).bind fun ys => if (ys.map (·.length)).sum + ys.length * sep.length ≤ 16777216 then some (.fr (.str (TL.joinL sep ys))) else none
def mJoin (sep : List Nat) (fa : Sls → Res OV) : Sls → Res DV := mOp1 (dJoin sep) fa
theorem se_join {j : Nat} {p0 apos : Pos} {fa : Sls → Res OV} {sep : Str} {sp : List Nat} (hK : X.K = C.K) (hsp : sep = strV sp) (ha : SO X C T e fa) (hs : starEach [e] X.env = [(false, eval e X.env)] := by rfl) (hbase : attributeBase (.Constant (.str sep) j p0) "join" X.env (eval (.Constant (.str sep) j p0) X.env) = eval (.Constant (.str sep) j p0) X.env := by rfl) (hline : (apos.endLine == pos.line) = true := by rfl) :
    SE X C T (.Call (.Attribute (.Constant (.str sep) j p0) "join" apos) [e] [] pos) (mJoin sp fa) := by
  refine ⟨fun W tk => PE.imp (pe_join pe_str (ha.run W tk) hs hbase hline) fun σ H Q h => ?_⟩
  refine ⟨⟨_, rfl⟩, ?_⟩
  have : Op1 C (fun y H Q => ∃ a p, ∃ ys : List Str, V.str sep = .str a ∧ [y] = [.ref p] ∧ (SqL X.K H p (ys.map V.str) ∨ SqT X.K H p (ys.map V.str)) ∧
      (ys.map (·.length)).sum + ys.length * a.length ≤ 16777216 ∧ Q (.str (Txt.join a ys)) H) (dJoin sp) := by
    intro G H x d f z Q wd r h w
    unfold dJoin at h
    cases e1 : items d.d with
    | none => rw [e1] at h; cases h
    | some ds =>
      rw [e1] at h
      simp only [Option.bind_some] at h
      cases e2 : strsD ds with
      | none => rw [e2] at h; cases h
      | some ys =>
        rw [e2] at h
        simp only [Option.bind_some] at h
        split at h <;> cases h
        rename_i hl
        obtain ⟨a, vs, g, rfl, q, rs⟩ := items_rep wd r.d e1
        have ev := strs_rep rs e2
        subst ev
        subst hsp
        refine ⟨_, a, ys.map strV, rfl, rfl, hK ▸ q, ?_, wt_str wd w (SX.join_S sp ys)⟩
        have l1 : ((ys.map strV).map (·.length)) = ys.map (·.length) := SX.lens ys
        rw [l1, List.length_map, strV_len]
        exact hl
  exact one_out this h
/-! ### f() -/
theorem sl_call0 {F : List DV → RF} {W : WX} {n : Nat} {σ : L2.St} {H : Hp} {Q : VK} (h : tG C rV W ([] ++ []) (mCallF [] n F mNil) σ H Q) : spF C.toCb n F [] H Q (WE W σ) := by
  have := callF_out h
  exact tG_pure (R := rOs) (x := []) this fun _ => rfl
theorem se_call0 {x : Str} {p pos : Pos} {f : Addr} {fd : FuncData} {ps : List Str} {k n : Nat} {F : List DV → RF} (hF : FnOk X.prog X.w X.K X.mg X.base (L2.CX X.prog X.w) k f fd ps (spF C.toCb n F)) (hr : Room k X.A) (hg : Gl X x) (hm : X.mg x = some (.ref f)) (hk : PySem.W.keepIn X.K (.ref f) = true) (hb : Binds X.K fd ps [])
    (hdb : (x == ("__debug__" : Str)) = false := by decide) :
    SE X C [] (.Call (.Name x p) [] [] pos) (mCallF [] n F mNil) := by
  refine ⟨fun W tk => ⟨fun pins s σ H Q I h => ?_⟩⟩
  refine wpAny_Call_Name_kw (ld_glob I hg hm ?_ hdb)
  refine PySem.W.callWith_K0 I.kIn hk ?_
  exact run_fnS (E := WE W) hF hr hb (passAt tk σ) I .nil (sl_call0 (σ := σ) h)
/-! ### a global that stands -/
theorem se_glob {x : Str} {v : V} {u : Value} {d : D} (hg : Gl X x) (hm : X.mg x = some u) (r : RelV v u) (rd : ∀ G H, Rep C G H v d []) (hd : (x == ("__debug__" : Str)) = false := by decide) : SE X C [] (.Name x pos) (mC d) := se_const (pe_glob hg hm r hd) rd
end
end Pv

set_option Elab.async false
set_option linter.all false
set_option maxRecDepth 100000
/-! PvN: what the top has written; the words of the printed terms. -/
namespace Pv
open PySem PySem.Spec L2

structure FnT (C : Cb) (mg : Str → Option Value) (x : Str) (st : Stmt) (a : Addr) (ps : List Str) : Prop where
  g : mg x = some (.ref a)
  k : PySem.W.keepIn C.K (.ref a) = true
  fn : ∃ fd, Fun C.K x x st a fd ∧ Binds C.K fd ps []
/-- the function object at a -/
def LkF (K : PySem.W.Frag) (a : Addr) (fd : FuncData) : Prop := ∃ (oc : Value) (od : Option Addr) (osl : Array (Option Value)), K.lookup a = some ⟨oc, od, .func fd, osl⟩
theorem LkF.of {K : PySem.W.Frag} {x q : Str} {st : Stmt} {a : Addr} {fd : FuncData} (F : Fun K x q st a fd) : LkF K a fd := by
  obtain ⟨oc, od, kV, doc, pm, an, cdv, ct, osl, rfl, lk, hcd⟩ := F.1
  exact ⟨_, _, _, lk⟩
theorem LkF.inj {K : PySem.W.Frag} {a : Addr} {fd fd' : FuncData} (h : LkF K a fd) (h' : LkF K a fd') : fd = fd' := by
  obtain ⟨_, _, _, e⟩ := h
  obtain ⟨_, _, _, e'⟩ := h'
  rw [e] at e'
  cases e'
  rfl
def OkF (P : Program) (w : World) (C : Cb) (mg : Str → Option Value) (base : Heap) (k : Nat) (a : Addr) (ps : List Str) (n : Nat) (F : List DV → RF) : Prop :=
  ∃ fd, FnOk P w C.K mg base (L2.CX P w) k a fd ps (spF C n F) ∧ Binds C.K fd ps [] ∧ LkF C.K a fd
theorem FnT.ok {P : Program} {w : World} {C : Cb} {mg : Str → Option Value} {base : Heap} {x : Str} {st : Stmt} {a : Addr} {N ps : List Str} {k : Nat} {body : Sls → RS} (T : FnT C mg x st a ps) (S : FnScope N ps (defScope st))
    (hb : ∀ (cdv : Value) (A : Around) (outer : List Env) (s : Shared) (H : Hp) (vs : List V) (E : XK), vs.length = ps.length → Room k (A.deeper (PyProof.Rows.envOfC x (defScope st) s.heap.objs.size a cdv)) →
      SSs (cxOf (L2.CX P w) P w C.K mg base N x (defScope st) a cdv A outer s H E) (ccOf C N vs) (defBody st) body) : OkF P w C mg base (k + 1) a ps ps.length (mFun N.length body) := by
  obtain ⟨fd, F, b⟩ := T.fn
  exact ⟨fd, fun_ok F S hb, b, .of F⟩
theorem OkF.mono {P : Program} {w : World} {C : Cb} {mg : Str → Option Value} {base : Heap} {k k' : Nat} {a : Addr} {ps : List Str} {n : Nat} {F : List DV → RF} (h : OkF P w C mg base k a ps n F) (hk : k ≤ k') : OkF P w C mg base k' a ps n F := by
  obtain ⟨fd, F, b⟩ := h
  exact ⟨fd, F.mono hk, b⟩
theorem hu64 {k : Nat} {A : Around} (hr : Room k A) : A.units + 64 < cLine := by
  have := hr.un
  omega
theorem po_cx {P : Program} {w : World} {K : PySem.W.Frag} {mg : Str → Option Value} {base : Heap} {N : List Str} {qual : Str} {scope : Scope} {f : Addr} {cd : Value} {A : Around} {outer : List Env} {s : Shared} {H : Hp} {E : XK} :
    PassesOwn (model P w) (cxOf (L2.CX P w) P w K mg base N qual scope f cd A outer s H E).A (cxOf (L2.CX P w) P w K mg base N qual scope f cd A outer s H E).env (cxOf (L2.CX P w) P w K mg base N qual scope f cd A outer s H E).xe :=
  passes_of (X := cxOf (L2.CX P w) P w K mg base N qual scope f cd A outer s H E) (K := fun e s'' => L2.CX P w outer H s E e s'') (E₁ := fun e s'' => L2.CX P w outer H s E e s'') rfl
/-- a global constant -/
def ConT (mg : Str → Option Value) (x : Str) (d : D) : Prop := ∃ v u, mg x = some u ∧ RelV v u ∧ ∀ C G H, Rep C G H v d []
theorem ConT.se {X : Cx} {C : Cc} {x : Str} {d : D} {pos : Pos} (h : ConT X.mg x d) (hg : Gl X x) (hd : (x == ("__debug__" : Str)) = false := by decide) : SE X C [] (.Name x pos) (mC d) := by
  obtain ⟨v, u, e, r, rd⟩ := h
  exact se_glob hg e r (fun G H => rd C.toCb G H) hd
/-- an exception class without an __init__ of its own, over ValueError -/
structure ExcT (C : Cb) (mg : Str → Option Value) (x : Str) (c : Nat) : Prop where
  g : mg x = some (.ref (C.exc c))
  q : ∃ bm, PySem.W.excIn C.K (C.exc c) bm "ValueError.__new__" = true ∧ bm = [.type "ValueError", .type "Exception", .type "BaseException", .type "object"]
  k : PySem.W.keepIn C.K (.ref (C.exc c)) = true
  b : PySem.W.subIn C.K (.ref (C.exc c)) (.type "BaseException") = some true
  t : PySem.W.typeIn C.K (.ref (C.exc c)) = some (.type "type")
theorem ExcT.ps {X : Cx} {C : Cc} {x : Str} {c : Nat} {W : WX} {m : Str} {j : Nat} {p p2 pos pos2 : Pos} (T : ExcT C.toCb X.mg x c) (tk : Takes X W) (hK : X.K = C.K) (hc : X.calm = true) (hg : Gl X x) (hdb : (x == ("__debug__" : Str)) = false := by decide) :
    PS X (.Raise (some (.Call (.Name x p) [.Constant (.str m) j p2] [] pos)) none pos2) (fun _ σ H => W (.ref (C.exc c)) none σ H) := by
  obtain ⟨bm, q, e⟩ := T.q
  subst e
  exact ps_raise hc tk (pmk_own PySem.F.excBase_ValueError (by rw [hK]; exact q) T.g (by rw [hK]; exact T.k) (raises_own (by rw [hK]; exact T.b) (by rw [hK]; exact T.t)) hg hdb)
def dAddS : DV → DV → Option DV := fun x y => match x.d, y.d with
  | .int i, .int j => some (.fr (.int (i + j)))
  | .str a, .str b => if a.length + b.length ≤ sizeLine then some (.fr (.str (a ++ b))) else none
  | _, _ => none
theorem o2_addS' {C : Cb} : Op2 C (fun x y H Q => (rI0 fun i j => .int (i + j)) x y H Q ∨ (∃ i j, x = .str i ∧ y = .str j ∧ i.length + j.length ≤ sizeLine ∧ Q (.str (i ++ j)) H)) dAddS := o2_addS
end Pv

set_option Elab.async false
set_option linter.all false
set_option maxRecDepth 100000
/-! PvO: generator expressions: the frame, its turns. -/
namespace Pv
open PySem PySem.Spec L2
open PyProof.Rows (AllBare)

/-- the context of a generator expression's frame; no exception leaves it -/
def gx (P : Program) (w : World) (K : PySem.W.Frag) (mg : Str → Option Value) (base : Heap) (N : List Str) (env : Env) (A : Around) (outer : List Env) (s : Shared) (H : Hp) (fp : List Addr) (pn : List (Addr × Obj)) : Cx where
  prog := P
  w := w
  K := K
  mg := mg
  base := base
  A := A.deeper env
  N := N
  s_0 := s
  H_0 := H
  env := env
  outer := outer
  stack := env :: outer
  ex := fp
  fn := fun _ => false
  calm := true
  pn := pn
  xe := fun _ _ => False

/-- slots of the generator's frame: its own names first, then what it captures from the slots caps -/
def gSt (n : Nat) (σ : L2.St) (caps : List Nat) : L2.St := List.replicate n none ++ caps.map fun k => (σ[k]?).getD none
structure GScope2 (X : Cx) (scope : Scope) (N own : List Str) (caps : List Nat) : Prop where
  kind : scope.kind = .function
  co : scope.isCoroutine = false
  cell : ∀ y ∈ scope.names, y.2 ≠ .cell
  dot : scope.names.lookup (".0" : Str) = some NameKind.local
  free : ∀ y ∈ scope.names, y.2 = .free → ∃ c, X.env.cells.lookup y.1 = some c
  names : N = own ++ caps.map fun k => (X.N[k]?).getD ("" : Str)
  cap : ∀ k ∈ caps, ∃ x, X.N[k]? = some x ∧ (x, NameKind.free) ∈ scope.names ∧ scope.names.lookup x = some .free ∧ (X.env.kindOf x = some .cell ∨ X.env.kindOf x = some .free)
  ownl : ∀ x ∈ own, scope.names.lookup x = some .local
section
variable {X : Cx} {pins : List (Addr × Obj)} {σ : L2.St} {H : Hp} {s : Shared}
theorem gx_inv {scope : Scope} {N own : List Str} {caps : List Nat} {code itv : Value} {bi : Addr} {A : Around} {h' h5 : Heap} {g5 : Array GenState} {t5 : Nat} {fp : List Addr} {a : Addr} {go : Obj} (S : GScope2 X scope N own caps) (I : Inv X pins σ H s) (hc : X.calm = true)
    (hA : A.frames = some X.stack) (hAh : A.handled = none) (hbi : bi = builtinsNs)
    (hn : h'.Ns s.heap.objs.size (fun y => if y = ".0" then some itv else none)) (hs : Heap.SameBut s.heap.objs.size (s.heap.push { cls := .type "frame", data := .dict #[] }) h')
    (ha : a = h'.objs.size) (h5e : h5 = h'.push go) (hgo : ∀ v, go.data ≠ .cell v) (hpush : h5.get? a = some go) (hb : AllBare g5) (hf : ∀ b ∈ fp, FpOk X pins H b) (hfo : ∀ b ∈ fp, ∃ o, s.heap.get? b = some o) :
    Inv (gx X.prog X.w X.K X.mg X.base N (genEnv scope (cloFrom X.env.cells scope.names []) s.heap.objs.size code bi X.env) A X.stack s H fp [(a, go)]) [] (gSt own.length σ caps) H { s with heap := h5, gens := g5, toks := t5 } := by
  have k1 : ∀ b o, s.heap.get? b = some o → h'.get? b = some o := fun b o e => hs.extBut b o (Nat.ne_of_lt (Heap.lt_size e)) (Heap.get?_push_of_some _ e)
  have sz' : h'.objs.size = s.heap.objs.size + 1 := by rw [hs.1, Heap.size_push]
  have k2 : ∀ b o, h'.get? b = some o → h5.get? b = some o := fun b o e => by rw [h5e]; exact Heap.get?_push_of_some _ e
  have kk : ∀ b o, s.heap.get? b = some o → h5.get? b = some o := fun b o e => k2 b o (k1 b o e)
  have fresh : ∀ b, s.heap.objs.size ≤ b → H b = none := fun b hb => I.hok.fresh hb
  have clo : ∀ x c, (cloFrom X.env.cells scope.names []).lookup x = some c → X.env.cells.lookup x = some c := fun x c e => NdefX.clo_cm S.free e
  have e0 := I.env0
  have bsz := e0.bsz
  have cellk : ∀ x c, X.env.cells.lookup x = some c → ∃ v, s.heap.IsCell c v := I.cell
  have clt : ∀ x c, X.env.cells.lookup x = some c → c < s.heap.objs.size := fun x c e => by
    obtain ⟨v, q⟩ := I.cell x c e
    exact q.lt
  have fpx : ∀ b ∈ fp, ∀ o, X.base.get? b = some o → False := fun b hb o e => by
    obtain ⟨_, _, _, h4, _, _⟩ := hf b hb
    rcases h4 with h4 | h4
    · exact I.ok.noex b o e h4
    · have h1 := Heap.lt_size e
      exact absurd (Nat.lt_of_lt_of_le h1 (Nat.le_trans I.ok.bsz h4)) (Nat.lt_irrefl _)
  refine
    { ok := ?ok, os := rfl, bare := hb, base := Un.kept kk, loc := ⟨_, hn.keeps k2, fun i x v hx hv hvis => ?loc⟩, cell := fun x c e => ?cell, free := fresh _ (Nat.le_refl _), freeC := fun x c e => I.freeC x c (clo x c e), pin := fun p hp => ?pin, hok := I.hok.kept kk, len := ?len }
  case ok =>
    refine
      { mod := I.ok.mod, kind := S.kind, glob := I.ok.glob, blt := hbi, above := Nat.le_refl _, inj := fun x y c e1 e2 => I.ok.inj x y c (clo x c e1) (clo y c e2), has := fun x hx => ?has, cab := fun x c h => (by cases h), hd := fun _ => hAh,
        frames := ?frames, stk := .inr ⟨rfl, rfl⟩, exf := fun b hb => ?exf, bs := I.bs, bsz := bsz, noex := fun b o e hb => fpx b hb o e, exfs := fun b hb hm => ?exfs, funs := e0.funs, frf := e0.frf }
    case has =>
      rcases hx with hx | hx
      · exact absurd rfl (S.cell _ (mem_of_lookup hx))
      · obtain ⟨c, hc2⟩ := S.free _ (mem_of_lookup hx) rfl
        exact ⟨c, NdefX.clo_has S.free (mem_of_lookup hx) hc2⟩
    case frames =>
      show A.frames.map _ = some (_ :: X.stack)
      rw [hA]; rfl
    case exf =>
      obtain ⟨h1, h2, h3, h4, h5, h6⟩ := hf b hb
      refine ⟨fun e => ?_, fun x c e z => h5 x c (clo x c e) z⟩
      obtain ⟨o, ho⟩ := hfo b hb
      have h7 := Heap.lt_size ho
      have e' : b = s.heap.objs.size := e
      rw [e'] at h7
      exact absurd h7 (Nat.lt_irrefl _)
    case exfs =>
      obtain ⟨h1, h2, h3, h4, h5, h6⟩ := hf b hb
      rcases List.mem_cons.mp (I.stkSub b hm) with e | e
      · exact h2 e
      · exact h3 e
  case loc =>
    obtain ⟨m, hm, hl⟩ := I.loc
    have hv' : (gSt own.length σ caps)[i]? = some (some v) := hv
    unfold gSt at hv'
    by_cases hi : i < own.length
    · rw [List.getElem?_append_left (by simpa using hi)] at hv'
      simp [List.getElem?_replicate, hi] at hv'
    · have hi' : own.length ≤ i := Nat.le_of_not_lt hi
      rw [List.getElem?_append_right (by simpa using hi')] at hv'
      simp only [List.length_replicate, List.getElem?_map] at hv'
      have hx' : N[i]? = some x := hx
      rw [S.names, List.getElem?_append_right hi', List.getElem?_map] at hx'
      cases hk : caps[i - own.length]? with
      | none => rw [hk] at hv'; cases hv'
      | some k =>
        rw [hk] at hv' hx'
        simp only [Option.map_some, Option.some.injEq] at hv' hx'
        obtain ⟨y, hy, hfree, hlk, hkind⟩ := S.cap k (List.mem_of_getElem? hk)
        rw [hy] at hx'
        have hxy : y = x := hx'
        subst hxy
        cases hs1 : σ[k]? with
        | none => rw [hs1] at hv'; cases hv'
        | some o =>
          rw [hs1] at hv'
          have ho : o = some v := hv'
          subst ho
          have hvis0 : Vis X.env.scope y := by
            rcases hkind with q | q
            · exact .inr (.inl q)
            · exact .inr (.inr q)
          obtain ⟨u, ru, lu⟩ := hl k y v hy hs1 hvis0
          refine ⟨u, ru, .inr ⟨.inr hlk, ?_⟩⟩
          rcases lu with ⟨q, _⟩ | ⟨_, c, hc1, hc2⟩
          · rcases hkind with z | z <;> (rw [q] at z; cases z)
          · exact ⟨c, NdefX.clo_has S.free hfree hc1, hc2.keeps kk⟩
  case cell =>
    obtain ⟨v, q⟩ := I.cell x c (clo x c e)
    exact ⟨v, q.keeps kk⟩
  case pin =>
    have e : p = (a, go) := by simpa [gx] using hp
    subst e
    have hle : s.heap.objs.size ≤ a := by rw [ha, sz']; exact Nat.le_succ _
    refine ⟨hpush, fresh _ hle, ?_, fun hm => ?_, hgo⟩
    · show a ≠ s.heap.objs.size
      rw [ha, sz']; exact Nat.succ_ne_self _
    · obtain ⟨_, o, ho, _⟩ := e0.funs.mem hm
      exact absurd (Nat.lt_of_lt_of_le (Heap.lt_size ho) hle) (Nat.lt_irrefl _)
  case len =>
    show (gSt own.length σ caps).length = N.length
    rw [S.names]
    simp [gSt]
end

/-! ### the consumer -/
/-- the consumer's own objects, by what came so far -/
structure Con where
  ad : List Addr
  ok : List Value → List (Addr × Obj) → Prop
  sub : ∀ us pl, ok us pl → pl.map (·.1) = ad ∧ ∀ p ∈ pl, ∀ v, p.2.data ≠ .cell v
def Con.no : Con := ⟨[], fun _ pl => pl = [], fun _ pl h => by subst h; exact ⟨rfl, fun p hp => by cases hp⟩⟩
def Con.lst (S : Addr) : Con := ⟨[S], fun us pl => ∃ c, pl = [(S, lstObj us.toArray c)], fun us pl h => by
  obtain ⟨c, rfl⟩ := h
  exact ⟨rfl, fun p hp v q => by rw [List.mem_singleton.mp hp] at q; cases q⟩⟩
structure Nap (K : Con) (v : Value) (s s' : Shared) : Prop where
  os : s'.os = s.os
  bare : AllBare s'.gens
  keep : ∀ b o, b ∉ K.ad → s.heap.get? b = some o → s'.heap.get? b = some o
  own : ∀ us pl, K.ok us pl → (∀ p ∈ pl, s.heap.get? p.1 = some p.2) → ∃ pl', K.ok (us ++ [v]) pl' ∧ ∀ p ∈ pl', s'.heap.get? p.1 = some p.2
structure Far (X : Cx) (K : Con) : Prop where
  lo : ∀ b ∈ K.ad, X.s_0.heap.objs.size ≤ b
  cells : ∀ b ∈ K.ad, ∀ x c, X.env.cells.lookup x = some c → c ≠ b
  pn : ∀ b ∈ K.ad, ∀ p ∈ X.pn, p.1 ≠ b
theorem woken {X : Cx} {K : Con} {us : List Value} {pl : List (Addr × Obj)} {σ : L2.St} {H : Hp} {s s' : Shared} {v : Value} (hA : Far X K) (ok : K.ok us pl) (I : Inv X pl σ H s) (z : Nap K v s s') : ∃ pl', K.ok (us ++ [v]) pl' ∧ Inv X pl' σ H s' := by
  obtain ⟨z1, z2, z3, z4⟩ := z
  obtain ⟨pl', ok', st'⟩ := z4 us pl ok fun p hp => (I.pin p (List.mem_append_right _ hp)).1
  have ead := (K.sub us pl ok).1
  have ead' := (K.sub _ pl' ok').1
  have at_ : ∀ b ∈ K.ad, H b = none ∧ b ≠ X.env.locals ∧ b ∉ X.fs := fun b hb => by
    rw [← ead] at hb
    obtain ⟨p, hp, rfl⟩ := List.mem_map.mp hb
    obtain ⟨_, h2, h3, h4, _⟩ := I.pin p (List.mem_append_right _ hp)
    exact ⟨h2, h3, h4⟩
  have nt : ∀ b u, H b = some u → b ∉ K.ad := fun b u q hb => by rw [(at_ b hb).1] at q; cases q
  have I0 : Inv X [] σ H s := I.pins_of fun p hp => by cases hp
  obtain ⟨hh, g, d, t, o⟩ := s'
  have ho : o = s.os := z1
  subst ho
  have J : Inv X [] σ H { s with heap := hh, gens := g, drawn := d, toks := t } := by
    refine I0.step (g' := g) (t' := t) (d' := d) (ch := K.ad) (fun b hb => ?_)
      (fun b ob _ _ hc q _ => z3 b ob hc q) (fun b ob _ _ hc q _ => ⟨ob.slots, z3 b ob hc q⟩) (fun _ _ _ _ n => n) (fun b ob hc q => ⟨ob, z3 b ob hc q⟩)
      (fun _ _ q => q) (fun _ _ _ q => q) (fun b ps q => ⟨#[], by rw [q]; simp⟩) (fun m hm => ?_) (fun b u q => ?_) z2
    · refine ⟨.inr (hA.lo b hb), (at_ b hb).2.1, hA.cells b hb, fun p hp => ?_⟩
      rcases List.mem_append.mp hp with hp | hp
      · exact hA.pn b hb p hp
      · cases hp
    · obtain ⟨ob, es, ep, ho, r⟩ := hm
      exact ⟨ob, es, ep, z3 _ ob (fun hb => (at_ _ hb).2.1 rfl) ho, r⟩
    · refine (I0.hok b u q).stay (fun c v hc y => z3 c v ?_ y) (fun _ y => y) fun _ _ y => y
      rcases hc with y | y
      · rw [y]; exact nt b u q
      · exact nt c _ y
  refine ⟨pl', ok', J.pins_of fun p hp => ?_⟩
  · have hb : p.1 ∈ K.ad := by rw [← ead']; exact List.mem_map.mpr ⟨p, hp, rfl⟩
    obtain ⟨h1, h2, h3⟩ := at_ _ hb
    exact ⟨st' p hp, h1, h2, h3, (K.sub _ pl' ok').2 p hp⟩

/-! ### the turns -/
/-- what is handed out; whether the walk comes to its end -/
def genIt (s : DV → Sls → Option Sls) (ft : Sls → Res Bool) (fe : Sls → Res DV) : List DV → Sls → List D × Bool
  | [], _ => ([], true)
  | x :: xs, δ => match s x δ with
    | none => ([], false)
    | some δ1 => match ft δ1 with
      | .ok true δ2 => match fe δ2 with
        | .ok y δ3 => match genIt s ft fe xs δ3 with
          | (ys, e) => (fz y.d :: ys, e)
        | _ => ([], false)
      | .ok false δ2 => genIt s ft fe xs δ2
      | _ => ([], false)
/-- what stands while the generator is at δ, ds handed out -/
structure GAt (X : Cx) (C : Cc) (K : Con) (G0 H0 : Hp) (F0 : List Addr) (δ0 : Sls) (Fs0 : List (List Addr)) (A : List Nat) (δ : Sls) (ds : List D) (B : Hp → Hp → List Addr → Prop) (us : List Value) (pl : List (Addr × Obj)) (σ : L2.St) (H : Hp) (G : Hp) (Fs : List (List Addr)) (P : List Addr) (ws : List V) (s : Shared) : Prop where
  ok : K.ok us pl
  I : Inv X pl σ H s
  wd : Wd G H (Fs.flatten ++ P)
  tt : Tbs C.toCb H
  sl : Slots C G H σ δ Fs
  b : B G H P
  vs : Vals ws us
  rs : Reps C.toCb G H ws ds []
  fw : Fw C.toCb G0 H0 F0 G H (Fs.flatten ++ P)
  kp : Kp A δ0 Fs0 H0 δ Fs H
section
variable {X : Cx} {C : Cc} {K : Con} {G0 H0 : Hp} {F0 : List Addr} {δ0 : Sls} {Fs0 : List (List Addr)} {L T U : List Nat} {tg elt iter : Expr} {ifs : List Expr} {scope : Scope} {pos : Pos} {s : DV → Sls → Option Sls} {ft : Sls → Res Bool} {fe : Sls → Res DV}
  {J : It} {item : Nat → DV} {n : Nat} {Pn : Nat → Hp → Hp → List Addr → Prop} {fp : List Addr} {it a : Addr} {g : Nat} {go : Obj} {tn : Nat → Heap → Prop} {yall : List D} {eall : Bool} {A : Around}
/-- an item d is handed out as v, behind ds -/
def Hand (X : Cx) (C : Cc) (K : Con) (G0 H0 : Hp) (F0 : List Addr) (δ0 : Sls) (Fs0 : List (List Addr)) (A : List Nat) (a : Addr) (g : Nat) (ds : List D) (d : D) (v : Value) (st : Shared) : Prop :=
  (∃ δ B us pl σ H G Fs P vs, GAt X C K G0 H0 F0 δ0 Fs0 A δ ds B us pl σ H G Fs P vs st ∧ ∃ x, RelV x v ∧ Rep C.toCb G H x d []) ∧ st.heap.IsGen a g
def gY (X : Cx) (C : Cc) (K : Con) (G0 H0 : Hp) (F0 : List Addr) (δ0 : Sls) (Fs0 : List (List Addr)) (A : List Nat) (a : Addr) (g : Nat) (yall : List D) (eall : Bool) : Protocol := fun m _ v st kap =>
  ∃ ds d, (∃ rest, yall = ds ++ d :: rest ∧ m = rest.length) ∧ Hand X C K G0 H0 F0 δ0 Fs0 A a g ds d v st ∧ ((m = 0 ∧ eall = false) ∨ ∀ s', Nap K v st s' → kap (.send .none) s')
def gR (X : Cx) (C : Cc) (K : Con) (G0 H0 : Hp) (F0 : List Addr) (δ0 : Sls) (Fs0 : List (List Addr)) (A : List Nat) (yall : List D) (eall : Bool) : GenEnd := fun m _ r st =>
  r = .ok .next ∧ m = 0 ∧ eall = true ∧ ∃ δ B us pl σ H G Fs P vs, GAt X C K G0 H0 F0 δ0 Fs0 A δ yall B us pl σ H G Fs P vs st
theorem seg_turns (wk : Wk C.toCb J item n Pn) (Tn : Turn X.prog X.w X.K tg J fp it tn) (hc : X.calm = true) (hA : ∀ c : Code, c = .compLoop (.GeneratorExp elt [⟨tg, iter, ifs, 0⟩] scope pos) 0 (.ref it) .none X.env → A.over c [] = X.A) (hxe : X.xe = fun _ _ => False) (hco : X.env.scope.isCoroutine = false)
    (far : Far X K) (hpn : (a, go) ∈ X.pn) (hgo : go.cls = .type "generator" ∧ (∃ nm qn, go.data = .fields #[.int g 0, nm, qn]) ∧ go.slots = #[]) (hfp : ∀ b ∈ fp, b ≠ X.env.locals ∧ b ∉ X.fs ∧ (b ∈ X.ex ∨ X.s_0.heap.objs.size ≤ b) ∧ (∀ x c, X.env.cells.lookup x = some c → c ≠ b) ∧ (∀ p ∈ X.pn, p.1 ≠ b) ∧ b ∉ K.ad)
    (hg : SG X C L tg s) (ht : STs X C T ifs ft) (he : SE X C U elt fe) :
    ∀ (m i : Nat) (δ : Sls) (ds ys : List D) (s₀ st : Shared) (us : List Value) (pl : List (Addr × Obj)) (σ : L2.St) (H G : Hp) (Fs : List (List Addr)) (P : List Addr) (vs : List V), n - i = m → i ≤ n →
      GAt X C K G0 H0 F0 δ0 Fs0 (L ++ (T ++ U)) δ ds (Pn i) us pl σ H G Fs P vs st → tn i st.heap → (∀ b ∈ fp, H b = none) → genIt s ft fe (fromTo item i n) δ = (ys, eall) → ds ++ ys = yall → (ys = [] → eall = true) →
      Seg (model X.prog X.w) A (gR X C K G0 H0 F0 δ0 Fs0 (L ++ (T ++ U)) yall eall) (gY X C K G0 H0 F0 δ0 Fs0 (L ++ (T ++ U)) a g yall eall) ys.length s₀ (.compLoop (.GeneratorExp elt [⟨tg, iter, ifs, 0⟩] scope pos) 0 (.ref it) .none X.env)
        ((model X.prog X.w).den (.compLoop (.GeneratorExp elt [⟨tg, iter, ifs, 0⟩] scope pos) 0 (.ref it) .none X.env)) [] st := by
  have ho := hA _ rfl
  have fpok : ∀ {pl : List (Addr × Obj)} {H : Hp} {us : List Value}, K.ok us pl → (∀ b ∈ fp, H b = none) → ∀ b ∈ fp, FpOk X pl H b := fun {pl H us} ok hn b hb => by
    obtain ⟨h1, h2, h3, h4, h5, h6⟩ := hfp b hb
    refine ⟨hn b hb, h1, h2, h3, h4, fun p hp => ?_⟩
    rcases List.mem_append.mp hp with hp | hp
    · exact h5 p hp
    · intro e
      refine h6 ?_
      rw [← e, ← (K.sub us pl ok).1]
      exact List.mem_map.mpr ⟨p, hp, rfl⟩
  have tk : Takes X (fun _ _ _ _ => False) := takes0
  intro m
  induction m with
  | zero =>
    intro i δ ds ys s₀ st us pl σ H G Fs P vs hm hi W tn0 hn hgen hall hend
    have hin : i = n := by omega
    subst hin
    rw [fromTo_end] at hgen
    simp only [genIt, Prod.mk.injEq] at hgen
    obtain ⟨rfl, he1⟩ := hgen
    rw [List.append_nil] at hall
    subst hall
    show Seg _ A _ _ _ s₀ _ ((compTurn (.GeneratorExp elt [⟨tg, iter, ifs, 0⟩] scope pos) 0 (.ref it) .none X.env).onRaise (leaving X.env)) [] st
    rw [compTurn_gen, Sem.onRaise_eq_wrap]
    refine seg_bind_wrap (wpAny_standAt ?_)
    refine seg_bind_wrap ?_
    rw [ho]
    refine wpAny_mono (Tn.done X rfl rfl rfl hc i pl st σ H (fun _ _ => False) W.I (fpok W.ok hn) tn0 (wk.stop G H P W.wd.right W.b)) (fun r s1 hr => ?_) fun _ _ z => z.elim
    obtain ⟨rfl, I1⟩ := hr
    exact seg_end (.ok .next) ⟨rfl, rfl, he1.symm, δ, _, us, pl, σ, H, G, Fs, P, vs, { W with I := I1 }⟩
  | succ m ih =>
    intro i δ ds ys s₀ st us pl σ H G Fs P vs hm hi W tn0 hn hgen hall hend
    have hin : i < n := by omega
    rw [fromTo_lt hin] at hgen
    simp only [genIt] at hgen
    show Seg _ A _ _ _ s₀ _ ((compTurn (.GeneratorExp elt [⟨tg, iter, ifs, 0⟩] scope pos) 0 (.ref it) .none X.env).onRaise (leaving X.env)) [] st
    rw [compTurn_gen, Sem.onRaise_eq_wrap]
    refine seg_bind_wrap (wpAny_standAt ?_)
    refine seg_bind_wrap ?_
    rw [ho]
    refine wpAny_mono (Tn.item X rfl rfl rfl hc i pl st σ H (fun _ _ => False) W.I (fpok W.ok hn) tn0 (wk.go i G H P hin W.wd.right W.b)) (fun r s1 h1 => ?_) fun _ _ z => z.elim
    obtain ⟨u, rfl, h2⟩ := h1
    refine seg_bind_wrap ?_
    rw [ho]
    refine wpAny_mono h2 (fun _ s2 h3 => ?_) fun _ _ z => z.elim
    obtain ⟨x, H', I2, rx, hy, tn1, hn1⟩ := h3
    obtain ⟨G1, gi, P1, w1, r1, hp1, keep⟩ := wk.yld i G H P x H' hin W.wd.right W.b hy
    have wdc : Wd G H (P ++ Fs.flatten) := W.wd.perm List.perm_append_comm
    have w2 := w1.frame wdc
    have pm : ((gi ++ P1) ++ Fs.flatten).Perm ((Fs.flatten ++ gi) ++ P1) := by
      refine List.perm_append_comm.trans ?_
      rw [List.append_assoc]
    have w3 : Fw C G H (Fs.flatten ++ P) G1 H' ((Fs.flatten ++ gi) ++ P1) := (w2.perm pm).more fun a h => by
      rcases List.mem_append.mp h with h | h
      · exact List.mem_append_right _ h
      · exact List.mem_append_left _ h
    have sl1 : Slots C G1 H' σ δ Fs := W.sl.mono w1.gs fun a o _ e t => keep a o e t
    have tt1 : Tbs C.toCb H' := w3.tt W.tt
    have ip := I2.pinned (fpok W.ok hn1) (Tn.obj _ _ tn1)
    cases es : s (item i) δ with
    | none =>
      simp only [es, Prod.mk.injEq] at hgen
      have := hend hgen.1.symm
      rw [← hgen.2] at this
      cases this
    | some δ1 =>
      simp only [es] at hgen
      refine seg_bind_wrap ?_
      rw [ho]
      refine wpAny_mono (hg.run.run (pl ++ pinsAt fp s2.heap) s2 σ H' x u (fun σ3 H3 => ∃ G2 Fs2, Fw C G1 H' (Fs.flatten ++ gi) G2 H3 Fs2.flatten ∧ Slots C G2 H3 σ3 δ1 Fs2 ∧ Kp L δ Fs H' δ1 Fs2 H3) ip rx ⟨G1, δ, Fs, gi, item i, δ1, w3.wd.left, sl1, r1, es, fun σ3 G2 H3 Fs2 w4 s4 _ k4 => ⟨G2, Fs2, w4, s4, k4⟩⟩) (fun _ s3 h4 => ?_) fun _ _ z => (by rw [hxe] at z; exact z.elim)
      obtain ⟨σ3, H3, I3, G2, Fs2, w4, sl2, k4⟩ := h4
      have w5 := w4.frame w3.wd
      have tt2 : Tbs C.toCb H3 := w5.tt tt1
      cases et : ft δ1 with
      | bad =>
        simp only [et, Prod.mk.injEq] at hgen
        have := hend hgen.1.symm
        rw [← hgen.2] at this
        cases this
      | er c δ' =>
        simp only [et, Prod.mk.injEq] at hgen
        have := hend hgen.1.symm
        rw [← hgen.2] at this
        cases this
      | ok b δ3 =>
        refine seg_bind_wrap ?_
        rw [ho]
        refine wpAny_mono ((ht.run _ tk).run (pl ++ pinsAt fp s2.heap) s3 σ3 H3 (fun b' H4 => b' = b ∧ ∃ G3 Fs3, Fw C G2 H3 Fs2.flatten G3 H4 Fs3.flatten ∧ Slots C G3 H4 σ3 δ3 Fs3 ∧ Kp T δ1 Fs2 H3 δ3 Fs3 H4) I3 ⟨G2, δ1, Fs2, w4.wd, tt2, sl2, ?_⟩) (fun b' s4 h5 => ?_) fun _ _ z => (by rw [hxe] at z; exact z.elim)
        · rw [et]
          intro b' G3 H4 Fs3 g3 w6 s6 k6 rb
          obtain ⟨rfl, rfl⟩ := rb
          rw [List.append_nil] at w6
          exact ⟨rfl, G3, Fs3, w6, s6, k6⟩
        obtain ⟨H4, I4, rfl, G3, Fs3, w6, sl3, k6⟩ := h5
        have w7 := w6.frame w5.wd
        have tt3 : Tbs C.toCb H4 := w7.tt tt2
        have fwA := ((W.fw.trans w3).trans w5).trans w7
        have gsA : ∀ a o, G a = some o → G3 a = some o := fun a o e => w6.gs _ _ (w4.gs _ _ (w1.gs _ _ e))
        have kpA := ((W.kp.trans (U := []) (fun j _ => ⟨rfl, rfl, fun f e a m o e2 t => keep a o e2 t⟩)).trans k4).trans k6
        have hp2 : Pn (i + 1) G2 H3 P1 := wk.mono _ _ _ _ _ _ hp1 w4.gs fun a o m e t => w4.hs a o e (fun m2 => w3.wd.dis a m2 m) t
        have hp3 : Pn (i + 1) G3 H4 P1 := wk.mono _ _ _ _ _ _ hp2 w6.gs fun a o m e t => w6.hs a o e (fun m2 => w5.wd.dis a m2 m) t
        have fpAt : ∀ {σ' : L2.St} {Hx : Hp} {sx : Shared}, Inv X (pl ++ pinsAt fp s2.heap) σ' Hx sx → tn (i + 1) sx.heap ∧ ∀ b ∈ fp, Hx b = none := fun {σ' Hx sx} Ix => by
          refine ⟨Tn.keep _ _ _ tn1 fun b hb o e => (Ix.pin (b, o) (List.mem_append_right _ (List.mem_append_right _ (mem_pinsAt hb e)))).1, fun b hb => ?_⟩
          obtain ⟨o, e, d⟩ := Tn.obj _ _ tn1 b hb
          exact (Ix.pin (b, o) (List.mem_append_right _ (List.mem_append_right _ (mem_pinsAt hb e)))).2.1
        cases b' with
        | false =>
          simp only [et] at hgen
          obtain ⟨tn4, hn4⟩ := fpAt I4
          refine seg_again rfl (ih (i + 1) δ3 ds ys s₀ s4 us pl σ3 H4 G3 Fs3 P1 vs (by omega) hin ⟨W.ok, I4.unpinned, w7.wd, tt3, sl3, hp3, W.vs, W.rs.mono gsA (fun a o m => by cases m), fwA, kpA.more fun j hj => ?_⟩ tn4 hn4 hgen hall hend)
          simp only [List.mem_append, List.not_mem_nil, or_false] at hj ⊢
          rcases hj with (h | h) | h
          · exact h
          · exact .inl h
          · exact .inr (.inl h)
        | true =>
          simp only [et] at hgen
          have hyo : ∀ v, yieldOut X.env v = yieldValue v := fun v => by simp only [yieldOut, hco, Bool.false_eq_true, if_false]
          simp only [hyo, if_true]
          cases ee : fe δ3 with
          | bad =>
            simp only [ee, Prod.mk.injEq] at hgen
            have := hend hgen.1.symm
            rw [← hgen.2] at this
            cases this
          | er c δ' =>
            simp only [ee, Prod.mk.injEq] at hgen
            have := hend hgen.1.symm
            rw [← hgen.2] at this
            cases this
          | ok y δ4 =>
            simp only [ee] at hgen
            cases er : genIt s ft fe (fromTo item (i + 1) n) δ4 with
            | mk ys' e' =>
              simp only [er, Prod.mk.injEq] at hgen
              obtain ⟨rfl, rfl⟩ := hgen
              rw [Sem.bind_eq_wrap', Sem.bind_eq_wrap', Sem.wrap_wrap, Sem.wrap_wrap]
              refine seg_wrap ?_
              rw [ho]
              refine wpAny_mono ((he.run _ tk).run (pl ++ pinsAt fp s2.heap) s4 σ3 H4 (fun v H5 => ∃ G4 Fs4 g4, Fw C G3 H4 Fs3.flatten G4 H5 (Fs4.flatten ++ g4) ∧ Slots C G4 H5 σ3 δ4 Fs4 ∧ Kp U δ3 Fs3 H4 δ4 Fs4 H5 ∧ RepV C.toCb G4 H5 v y g4) I4 ⟨G3, δ3, Fs3, w6.wd, tt3, sl3, ?_⟩) (fun yv s5 h6 => ?_) fun _ _ z => (by rw [hxe] at z; exact z.elim)
              · rw [ee]
                exact fun v G4 H5 Fs4 g4 w8 s8 k8 r8 => ⟨G4, Fs4, g4, w8, s8, k8, r8⟩
              obtain ⟨v, H5, I5, rv, G4, Fs4, g4, w8, sl4, k8, r8⟩ := h6
              have w9 := w8.frame w7.wd
              have pm9 : ((Fs4.flatten ++ g4) ++ P1).Perm (g4 ++ (Fs4.flatten ++ P1)) := by
                rw [← List.append_assoc]
                exact List.Perm.append_right _ List.perm_append_comm
              have w10 := w9.perm pm9
              obtain ⟨G5, w11, fzk⟩ := Fw.freeze (C := C.toCb) w10.wd
              have rf := Rep.freeze w11.gs (fun a m o e => fzk a m o e) r8.d
              have tt5 : Tbs C.toCb H5 := w11.tt (w9.tt tt3)
              have hp5 : Pn (i + 1) G5 H5 P1 := wk.mono _ _ _ _ _ _ hp3 (fun a o e => w11.gs _ _ (w8.gs _ _ e)) fun a o m e t => w8.hs a o e (fun m2 => w7.wd.dis a m2 m) t
              obtain ⟨tn5, hn5⟩ := fpAt I5
              have kpB : Kp (L ++ (T ++ U)) δ0 Fs0 H0 δ4 Fs4 H5 := (kpA.trans k8).more fun j hj => by
                simp only [List.mem_append, List.not_mem_nil, or_false] at hj ⊢
                rcases hj with ((h | h) | h) | h
                · exact h
                · exact .inl h
                · exact .inr (.inl h)
                · exact .inr (.inr h)
              have gsB : ∀ a o, G a = some o → G5 a = some o := fun a o e => w11.gs _ _ (w8.gs _ _ (gsA a o e))
              have W5 : GAt X C K G0 H0 F0 δ0 Fs0 (L ++ (T ++ U)) δ4 ds (Pn (i + 1)) us pl σ3 H5 G5 Fs4 P1 vs s5 := ⟨W.ok, I5.unpinned, w11.wd, tt5, sl4.mono w11.gs (fun _ _ _ h _ => h), hp5, W.vs, W.rs.mono gsB (fun a o m => by cases m), (fwA.trans w10).trans w11, kpB⟩
              have isg : s5.heap.IsGen a g := by
                obtain ⟨q1, ⟨nm, qn, q2⟩, q3⟩ := hgo
                exact ⟨go, nm, qn, (I5.pin (a, go) (List.mem_append_left _ hpn)).1, q1, q2, q3⟩
              refine seg_at (seg_yield rfl rfl rfl ⟨ds, fz y.d, ⟨ys', hall.symm, rfl⟩, ⟨⟨δ4, _, us, pl, σ3, H5, G5, Fs4, P1, vs, W5, v, rv, rf⟩, isg⟩, ?_⟩)
              by_cases hcut : ys' = [] ∧ e' = false
              · exact .inl ⟨by rw [hcut.1]; rfl, hcut.2⟩
              · refine .inr fun s' nap => ?_
                obtain ⟨pl', ok', I6⟩ := woken far W5.ok W5.I nap
                refine seg_again rfl (ih (i + 1) δ4 (ds ++ [fz y.d]) ys' s' s' (us ++ [yv]) pl' σ3 H5 G5 Fs4 P1 (vs ++ [v]) (by omega) hin ⟨ok', I6, w11.wd, tt5, W5.sl, hp5, W5.vs.append (.cons rv .nil), Reps.app (f := []) (g := []) W5.rs (Reps.cons0.mpr ⟨rf, Reps.nil_of.mpr rfl⟩), W5.fw, W5.kp⟩ ?_ hn5 er (by rw [← hall, List.append_assoc]; rfl) (fun h => ?_))
                · exact Tn.keep _ _ _ tn5 fun b hb o e => nap.keep b o (hfp b hb).2.2.2.2.2 e
                · cases he' : e' with
                  | true => rfl
                  | false => exact absurd ⟨h, he'⟩ hcut
end
end Pv

set_option Elab.async false
set_option linter.all false
set_option maxRecDepth 100000
/-! PvP: generator expressions: the start, sleep, the consumers. -/
namespace Pv
open PySem PySem.Spec L2
open PyProof.Rows (AllBare)
section
variable {X : Cx} {C : Cc} {K : Con} {G0 H0 : Hp} {F0 : List Addr} {δ0 : Sls} {Fs0 : List (List Addr)} {L T U : List Nat} {tg elt iter : Expr} {ifs : List Expr} {scope : Scope} {pos : Pos} {s : DV → Sls → Option Sls} {ft : Sls → Res Bool} {fe : Sls → Res DV}
  {J : It} {item : Nat → DV} {n : Nat} {Pn : Nat → Hp → Hp → List Addr → Prop} {fp : List Addr} {it a : Addr} {g : Nat} {go : Obj} {tn : Nat → Heap → Prop} {yall : List D} {eall : Bool} {A : Around} {Tl : List Nat}
theorem seg_start (hask : A.over (.compStart (.GeneratorExp elt [⟨tg, iter, ifs, 0⟩] scope pos) 0 (.ref it) .none X.env) [] = X.A) {st s₀ : Shared} {R : GenEnd} {Y : Protocol} {m : Nat} (Tn : Turn X.prog X.w X.K tg J fp it tn) (tn0 : tn 0 st.heap)
    (loop : Seg (model X.prog X.w) A R Y m s₀ (.compLoop (.GeneratorExp elt [⟨tg, iter, ifs, 0⟩] scope pos) 0 (.ref it) .none X.env) ((model X.prog X.w).den (.compLoop (.GeneratorExp elt [⟨tg, iter, ifs, 0⟩] scope pos) 0 (.ref it) .none X.env)) [] st) :
    Seg (model X.prog X.w) A R Y m s₀ (.compStart (.GeneratorExp elt [⟨tg, iter, ifs, 0⟩] scope pos) 0 (.ref it) .none X.env) ((model X.prog X.w).den (.compStart (.GeneratorExp elt [⟨tg, iter, ifs, 0⟩] scope pos) 0 (.ref it) .none X.env)) [] st := by
  show Seg _ A _ _ _ s₀ _ ((compStart (.GeneratorExp elt [⟨tg, iter, ifs, 0⟩] scope pos) 0 (.ref it) .none X.env).onRaise (leaving X.env)) [] st
  unfold compStart
  rw [Sem.onRaise_eq_wrap]
  show Seg _ A _ _ _ s₀ _ ((ask >>= _).wrap _ _ _ _) [] st
  refine seg_bind_wrap (wpAny_askSetting ?_)
  split
  · exact seg_again rfl loop
  · first
      | exact seg_bind_wrap (wpAny_rule (seg_bind_wrap (wpAny_standAt (seg_bind_wrap (Tn.self _ 0 st _ _ tn0 (seg_again rfl loop))))))
      | (refine seg_bind_wrap (wpAny_rule ?_); show Seg _ A _ _ _ s₀ _ ((standAt iter.pos >>= _).wrap _ _ _ _) [] st; exact seg_bind_wrap (wpAny_standAt (seg_bind_wrap (Tn.self _ 0 st _ _ tn0 (seg_again rfl loop)))))

def gR2 (X : Cx) (C : Cc) (K : Con) (G0 H0 : Hp) (F0 : List Addr) (δ0 : Sls) (Fs0 : List (List Addr)) (Tl : List Nat) (yall : List D) (eall : Bool) : GenEnd := fun n s₀ r s₁ =>
  ((r = .ok (.ret .none) ∨ r = .ok .next) ∧ gR X C K G0 H0 F0 δ0 Fs0 Tl yall eall n s₀ (.ok .next) s₁) ∨ ∃ e, r = .error e ∧ False
/-- asleep, ds handed out -/
structure Asleep (X : Cx) (C : Cc) (K : Con) (G0 H0 : Hp) (F0 : List Addr) (δ0 : Sls) (Fs0 : List (List Addr)) (Tl : List Nat) (a : Addr) (g : Nat) (yall : List D) (eall : Bool) (A : Around) (ds : List D) (st : Shared) : Prop where
  gen : st.heap.IsGen a g
  lim : st.heap.NoLimit
  go : ∃ gs rest, st.gens[g]? = some gs ∧ yall = ds ++ rest ∧ (rest = [] → eall = true) ∧ gs.Goes (model X.prog X.w) A.in1 (gR2 X C K G0 H0 F0 δ0 Fs0 Tl yall eall) (gY X C K G0 H0 F0 δ0 Fs0 Tl a g yall eall) rest.length (.send .none) (st.setGen g .running)
/-- what stands at the end of the walk -/
def AtEnd (X : Cx) (C : Cc) (K : Con) (G0 H0 : Hp) (F0 : List Addr) (δ0 : Sls) (Fs0 : List (List Addr)) (Tl : List Nat) (ds : List D) (st : Shared) : Prop :=
  ∃ δ B us pl σ H G Fs P ws, GAt X C K G0 H0 F0 δ0 Fs0 Tl δ ds B us pl σ H G Fs P ws st
theorem GAt.to {δ : Sls} {ds : List D} {B : Hp → Hp → List Addr → Prop} {us : List Value} {pl : List (Addr × Obj)} {σ : L2.St} {H G : Hp} {Fs : List (List Addr)} {P : List Addr} {ws : List V} {st s' : Shared} (W : GAt X C K G0 H0 F0 δ0 Fs0 Tl δ ds B us pl σ H G Fs P ws st)
    (os : s'.os = st.os) (hb : AllBare s'.gens) (k : ∀ b o, st.heap.get? b = some o → s'.heap.get? b = some o) : GAt X C K G0 H0 F0 δ0 Fs0 Tl δ ds B us pl σ H G Fs P ws s' :=
  { W with I := W.I.call' (ch := []) os (Un.kept k) (W.I.hok.kept k) hb fun b hb => by cases hb }
theorem gen_next {ds : List D} {st : Shared} {Q : Option Value → Shared → Prop} {E : Value → Shared → Prop} (hh : A.handled = none) (hroom : A.depth < recursionLimit) (haK : a ∉ K.ad) (hcK : cStatics ∉ K.ad) (z : Asleep X C K G0 H0 F0 δ0 Fs0 Tl a g yall eall A ds st)
    (hnap : ∀ ds d v s₁, Hand X C K G0 H0 F0 δ0 Fs0 Tl a g ds d v s₁ → ∃ s', Nap K v s₁ s')
    (h1 : ∀ d rest v s₁ gs', yall = ds ++ d :: rest → Hand X C K G0 H0 F0 δ0 Fs0 Tl a g ds d v s₁ → AllBare (s₁.setGen g gs').gens → ((rest = [] ∧ eall = false) ∨ ∀ s', s'.gens = (s₁.setGen g gs').gens → Nap K v s₁ s' → Asleep X C K G0 H0 F0 δ0 Fs0 Tl a g yall eall A (ds ++ [d]) s') → Q (some v) (s₁.setGen g gs'))
    (h2 : yall = ds → eall = true → ∀ s₁, AtEnd X C K G0 H0 F0 δ0 Fs0 Tl yall s₁ → AllBare (s₁.setGen g .finished).gens → ∀ h', (∀ b o, s₁.heap.get? b = some o → h'.get? b = some o) → Q none { s₁.setGen g .finished with heap := h' }) :
    wpAny (model X.prog X.w) A (pyNext (.ref a)) Q E st := by
  obtain ⟨hg, hl, gs, rest, hgs, hy, hre, hgo⟩ := z
  have hgl : g < st.gens.size := (Array.getElem?_eq_some_iff.mp hgs).1
  refine GenW.wpAny_gsz (n := g + 1) hgl (next_genG (F := fun n s₀ s₁ => gR X C K G0 H0 F0 δ0 Fs0 Tl yall eall n s₀ (.ok .next) s₁) (Er := fun _ _ => False) (Y := gY X C K G0 H0 F0 δ0 Fs0 Tl a g yall eall) (n := rest.length) hh hl hroom hg hgs ?_ (fun v s₁ gs' hb hv => ?_) (fun s₁ hp h' hk => ?_) (fun e s₁ he => he.elim))
  · exact hgo
  · intro hsz
    obtain ⟨ds', d, ⟨rest', hy', hm⟩, hand, kap⟩ := hv
    obtain ⟨⟨δ, B, us, pl, σ, H, G, Fs, P, ws, W, x, rx, rr⟩, isg⟩ := _root_.id hand
    have bare1 := W.I.bare
    have bare2 : AllBare (s₁.setGen g gs').gens := allBare_setGen bare1 hb
    have hsz1 : g < s₁.gens.size := by
      have q : (s₁.setGen g gs').gens.size = s₁.gens.size := GenW.setGen_size _ _ _
      have hsz' : g + 1 ≤ (s₁.setGen g gs').gens.size := hsz
      omega
    cases rest with
    | nil =>
      exfalso
      have hyl := congrArg List.length hy
      have hyl' := congrArg List.length hy'
      simp only [List.length_append, List.length_nil, List.length_cons] at hyl hyl' hm
      rcases kap with ⟨_, k⟩ | k
      · rw [hre rfl] at k; cases k
      · obtain ⟨s', nap⟩ := hnap ds' d v s₁ hand
        exact k s' nap
    | cons d0 rest0 =>
      have hm' : rest0.length = rest'.length := by simpa using hm
      have e2 : ds = ds' ∧ d0 :: rest0 = d :: rest' := List.append_inj' (hy.symm.trans hy') (by simp [hm'])
      obtain ⟨rfl, e3⟩ := e2
      cases e3
      refine h1 d rest' v s₁ gs' hy hand bare2 ?_
      by_cases hcut : rest' = [] ∧ eall = false
      · exact .inl hcut
      · refine .inr fun s' hs' nap => ?_
        have nap' : Nap K v s₁ (s'.setGen g .running) := ⟨nap.os, allBare_setGen nap.bare rfl, nap.keep, nap.own⟩
        have k : ∀ s', Nap K v s₁ s' → gs'.Goes (model X.prog X.w) A.in1 (gR2 X C K G0 H0 F0 δ0 Fs0 Tl yall eall) (gY X C K G0 H0 F0 δ0 Fs0 Tl a g yall eall) rest'.length (.send .none) s' := by
          rcases kap with ⟨k1, k2⟩ | k
          · exact absurd ⟨List.eq_nil_of_length_eq_zero k1, k2⟩ hcut
          · exact k
        refine ⟨?_, ?_, gs', rest', ?_, ?_, fun h => ?_, k _ nap'⟩
        · obtain ⟨o, nm, qn, ho, q⟩ := isg
          exact ⟨o, nm, qn, nap.keep a o haK ho, q⟩
        · obtain ⟨mc, hns, hnn⟩ := W.I.nolimit
          exact ⟨mc, hns.at' fun o e => nap.keep _ o hcK e, hnn⟩
        · rw [hs']
          exact setGen_at hsz1
        · rw [hy, List.append_assoc]; rfl
        · cases he : eall with
          | true => rfl
          | false => exact absurd ⟨h, he⟩ hcut
  · intro hsz
    obtain ⟨_, hm, he, W⟩ := hp
    have hr0 : rest = [] := List.eq_nil_of_length_eq_zero hm
    subst hr0
    rw [List.append_nil] at hy
    refine h2 hy he s₁ W ?_ h' hk
    obtain ⟨δ, B, us, pl, σ, H, G, Fs, P, ws, W⟩ := W
    exact allBare_setGen W.I.bare rfl
theorem nap_no {v : Value} {s₁ s' : Shared} (os : s'.os = s₁.os) (hb : AllBare s'.gens) (k : ∀ b o, s₁.heap.get? b = some o → s'.heap.get? b = some o) : Nap Con.no v s₁ s' :=
  ⟨os, hb, fun b o _ e => k b o e, fun us pl h _ => ⟨[], rfl, fun p hp => by cases hp⟩⟩
theorem AtEnd.to {ds : List D} {st s' : Shared} (W : AtEnd X C K G0 H0 F0 δ0 Fs0 Tl ds st) (os : s'.os = st.os) (hb : AllBare s'.gens) (k : ∀ b o, st.heap.get? b = some o → s'.heap.get? b = some o) : AtEnd X C K G0 H0 F0 δ0 Fs0 Tl ds s' := by
  obtain ⟨δ, B, us, pl, σ, H, G, Fs, P, ws, W⟩ := W
  exact ⟨δ, B, us, pl, σ, H, G, Fs, P, ws, W.to os hb k⟩
/-! any, all -/
def anyD : List D → Bool → Option Bool
  | [], true => some false
  | .bl true :: _, _ => some true
  | .bl false :: r, e => anyD r e
  | _, _ => none
def allD : List D → Bool → Option Bool
  | [], true => some true
  | .bl false :: _, _ => some false
  | .bl true :: r, e => allD r e
  | _, _ => none
theorem code_any {b : Bool} {R : Result → Shared → Prop} (hh : A.handled = none) (hroom : A.depth < recursionLimit) : ∀ (rest ds : List D) (st : Shared), yall = ds ++ rest → Asleep X C .no G0 H0 F0 δ0 Fs0 Tl a g yall eall A.in1 ds st → anyD rest eall = some b →
    (∀ s' ds', AtEnd X C .no G0 H0 F0 δ0 Fs0 Tl ds' s' → R (.ok (.ret (.bool b))) s') → codeAny (model X.prog X.w) A (.builtin "any.loop" ⟨[.ref a], []⟩) R st := by
  intro rest
  induction rest with
  | nil =>
    intro ds st hy z hb hR
    refine codeAny_builtin F.entry_any_loop ?_
    rw [Around.under_plainId F.plain_any_loop _]
    show wpAny _ A.in1 (pyNext (.ref a) >>= _) _ _ st
    refine wpAny_bind (gen_next (A := A.in1) hh hroom (by simp [Con.no]) (by simp [Con.no]) z (fun ds d v s₁ hd => ?_) (fun d r v s₁ gs' hy' _ _ _ => ?_) (fun _ he s₁ W hbare h' hk => ?_))
    · obtain ⟨⟨δ, B, us, pl, σ, H, G, Fs, P, ws, W, _⟩, _⟩ := hd
      exact ⟨s₁, nap_no rfl W.I.bare fun _ _ h => h⟩
    · rw [hy] at hy'
      simp at hy'
    · refine wpAny_bind (wpAny_rule (wpAny_pure ?_))
      rw [he] at hb
      simp only [anyD, Option.some.injEq] at hb
      subst hb
      exact hR _ _ (W.to rfl hbare hk)
  | cons d rest ih =>
    intro ds st hy z hb hR
    refine codeAny_builtin F.entry_any_loop ?_
    rw [Around.under_plainId F.plain_any_loop _]
    show wpAny _ A.in1 (pyNext (.ref a) >>= _) _ _ st
    refine wpAny_bind (gen_next (A := A.in1) hh hroom (by simp [Con.no]) (by simp [Con.no]) z (fun ds d v s₁ hd => ?_) (fun d' r v s₁ gs' hy' hand hbare cont => ?_) (fun hy' _ _ _ _ _ _ => ?_))
    · obtain ⟨⟨δ, B, us, pl, σ, H, G, Fs, P, ws, W, _⟩, _⟩ := hd
      exact ⟨s₁, nap_no rfl W.I.bare fun _ _ h => h⟩
    · rw [hy] at hy'
      have e := List.append_cancel_left hy'
      cases e
      obtain ⟨⟨δ, B, us, pl, σ, H, G, Fs, P, ws, W, x, rx, rr⟩, isg⟩ := hand
      have AE : AtEnd X C .no G0 H0 F0 δ0 Fs0 Tl ds (s₁.setGen g gs') := ⟨δ, B, us, pl, σ, H, G, Fs, P, ws, W.to rfl hbare fun _ _ h => h⟩
      cases d with
      | bl k =>
        simp only [Rep] at rr
        obtain ⟨rfl, _⟩ := rr
        obtain rfl : v = Value.bool k := rx
        refine wpAny_bind (wpAny_holding (wpAny_truthy_bool ?_))
        refine wpAny_bind (wpAny_letGo ?_)
        cases k with
        | true =>
          simp only [anyD, Option.some.injEq] at hb
          subst hb
          simp only [if_true]
          exact wpAny_bind (wpAny_rule (wpAny_pure (hR _ _ AE)))
        | false =>
          simp only [anyD] at hb
          simp only [Bool.false_eq_true, if_false]
          refine wpAny_pure ⟨plainId_quiet F.plain_any_loop _, ?_⟩
          rcases cont with ⟨rfl, he⟩ | cont
          · rw [he] at hb
            simp [anyD] at hb
          · exact ih (ds ++ [D.bl false]) _ (by rw [hy, List.append_assoc]; rfl) (cont _ rfl (nap_no rfl hbare fun _ _ h => h)) hb hR
      | _ => simp [anyD] at hb
    · rw [hy] at hy'
      simp at hy'
theorem asleep_of (wk : Wk C.toCb J item n Pn) (Tn : Turn X.prog X.w X.K tg J fp it tn) (hc : X.calm = true) (hA : ∀ c : Code, c = .compLoop (.GeneratorExp elt [⟨tg, iter, ifs, 0⟩] scope pos) 0 (.ref it) .none X.env → A.in1.over c [] = X.A)
    (hask : A.in1.over (.compStart (.GeneratorExp elt [⟨tg, iter, ifs, 0⟩] scope pos) 0 (.ref it) .none X.env) [] = X.A) (hxe : X.xe = fun _ _ => False) (hco : X.env.scope.isCoroutine = false)
    (far : Far X K) (hpn : (a, go) ∈ X.pn) (hgo : go.cls = .type "generator" ∧ (∃ nm qn, go.data = .fields #[.int g 0, nm, qn]) ∧ go.slots = #[]) (hfp : ∀ b ∈ fp, b ≠ X.env.locals ∧ b ∉ X.fs ∧ (b ∈ X.ex ∨ X.s_0.heap.objs.size ≤ b) ∧ (∀ x c, X.env.cells.lookup x = some c → c ≠ b) ∧ (∀ p ∈ X.pn, p.1 ≠ b) ∧ b ∉ K.ad)
    (hg : SG X C L tg s) (ht : STs X C T ifs ft) (he : SE X C U elt fe) {δ : Sls} {st : Shared} {us : List Value} {pl : List (Addr × Obj)} {σ : L2.St} {H G : Hp} {Fs : List (List Addr)} {P : List Addr} {vs : List V}
    (W : GAt X C K G0 H0 F0 δ0 Fs0 (L ++ (T ++ U)) δ [] (Pn 0) us pl σ H G Fs P vs st) (tn0 : tn 0 st.heap) (hn : ∀ b ∈ fp, H b = none) (hgen : genIt s ft fe (fromTo item 0 n) δ = (yall, eall)) (hend : yall = [] → eall = true)
    (hgs : st.gens[g]? = some (.fresh (.compStart (.GeneratorExp elt [⟨tg, iter, ifs, 0⟩] scope pos) 0 (.ref it) .none X.env))) :
    Asleep X C K G0 H0 F0 δ0 Fs0 (L ++ (T ++ U)) a g yall eall A [] st := by
  have isg : st.heap.IsGen a g := by
    obtain ⟨q1, ⟨nm, qn, q2⟩, q3⟩ := hgo
    exact ⟨go, nm, qn, (W.I.pin (a, go) (List.mem_append_left _ hpn)).1, q1, q2, q3⟩
  have W' : GAt X C K G0 H0 F0 δ0 Fs0 (L ++ (T ++ U)) δ [] (Pn 0) us pl σ H G Fs P vs (st.setGen g .running) := W.to rfl (allBare_setGen W.I.bare rfl) fun _ _ h => h
  refine ⟨isg, W.I.nolimit, _, yall, hgs, rfl, hend, rfl, ?_⟩
  refine seg_imp (R := gR X C K G0 H0 F0 δ0 Fs0 (L ++ (T ++ U)) yall eall) (Y := gY X C K G0 H0 F0 δ0 Fs0 (L ++ (T ++ U)) a g yall eall) (fun n s₀ r s h => .inl ⟨.inr h.1, ⟨rfl, h.2⟩⟩) (fun n s₀ v s kap kap' hk ⟨ds, d, e, hd, c⟩ => ⟨ds, d, e, hd, c.imp id fun c s' nap => hk _ _ (c s' nap)⟩) _ ?_
  exact seg_start hask Tn tn0 (seg_turns wk Tn hc hA hxe hco far hpn hgo hfp hg ht he n 0 δ [] yall _ _ us pl σ H G Fs P vs rfl (Nat.zero_le _) W' tn0 hn hgen rfl hend)

/-! collect -/
theorem nap_lst {S : Addr} {v : Value} {s₁ s' : Shared} (os : s'.os = s₁.os) (hb : AllBare s'.gens) (hs : s'.heap = s₁.heap.update S (Obj.mapSeq (·.push v))) : Nap (.lst S) v s₁ s' := by
  refine ⟨os, hb, fun b o hn e => ?_, fun us pl h st => ?_⟩
  · rw [hs]
    exact (Heap.get?_update_other _ _ (fun h : S = b => hn (by rw [← h]; exact List.mem_singleton.mpr rfl))).trans e
  · obtain ⟨c, rfl⟩ := h
    have hS := st _ (List.mem_singleton.mpr rfl)
    have h3 : ∃ c', s'.heap.get? S = some (lstObj (us.toArray.push v) c') := ⟨_, by rw [hs]; exact Heap.get?_update_self _ hS rfl⟩
    obtain ⟨c', h3⟩ := h3
    have e : (us ++ [v]).toArray = us.toArray.push v := by simp
    refine ⟨[(S, lstObj (us ++ [v]).toArray c')], ⟨c', rfl⟩, fun p hp => ?_⟩
    rw [List.mem_singleton.mp hp, e]
    exact h3
theorem code_extend {S : Addr} {res : Value} {R : Result → Shared → Prop} (hh : A.handled = none) (hroom : A.depth < recursionLimit) (hSa : a ≠ S) (hSc : cStatics ≠ S) (hlen : yall.length ≤ sizeLine) (het : eall = true) : ∀ (rest ds : List D) (st : Shared), yall = ds ++ rest → Asleep X C (.lst S) G0 H0 F0 δ0 Fs0 Tl a g yall eall A.in1 ds st →
    (∀ s', AtEnd X C (.lst S) G0 H0 F0 δ0 Fs0 Tl yall s' → R (.ok (.ret res)) s') → codeAny (model X.prog X.w) A (.builtin "list.extend.loop" ⟨[.ref S, .ref a, res], []⟩) R st := by
  have haK : a ∉ (Con.lst S).ad := by simpa [Con.lst] using hSa
  have hcK : cStatics ∉ (Con.lst S).ad := by simpa [Con.lst] using hSc
  have hnap : ∀ ds d v s₁, Hand X C (.lst S) G0 H0 F0 δ0 Fs0 Tl a g ds d v s₁ → ∃ s', Nap (.lst S) v s₁ s' := fun ds d v s₁ hd => by
    obtain ⟨⟨δ, B, us, pl, σ, H, G, Fs, P, ws, W, _⟩, _⟩ := hd
    exact ⟨{ s₁ with heap := s₁.heap.update S (Obj.mapSeq (·.push v)) }, nap_lst rfl W.I.bare rfl⟩
  intro rest
  induction rest with
  | nil =>
    intro ds st hy z hR
    refine codeAny_builtin F.entry_extend_loop ?_
    rw [Around.under_plainId F.plain_extend_loop _]
    show wpAny _ A.in1 (pyNext (.ref a) >>= _) _ _ st
    refine wpAny_bind (gen_next (A := A.in1) hh hroom haK hcK z hnap (fun d r v s₁ gs' hy' _ _ _ => ?_) (fun _ he s₁ W hbare h' hk => ?_))
    · rw [hy] at hy'
      simp at hy'
    · exact wpAny_pure (hR _ (W.to rfl hbare hk))
  | cons d rest ih =>
    intro ds st hy z hR
    refine codeAny_builtin F.entry_extend_loop ?_
    rw [Around.under_plainId F.plain_extend_loop _]
    show wpAny _ A.in1 (pyNext (.ref a) >>= _) _ _ st
    refine wpAny_bind (gen_next (A := A.in1) hh hroom haK hcK z hnap (fun d' r v s₁ gs' hy' hand hbare cont => ?_) (fun hy' _ _ _ _ _ _ => ?_))
    · rw [hy] at hy'
      have e := List.append_cancel_left hy'
      cases e
      obtain ⟨⟨δ, B, us, pl, σ, H, G, Fs, P, ws, W, x, rx, rr⟩, isg⟩ := hand
      obtain ⟨c, hpl⟩ := W.ok
      subst hpl
      have hS : s₁.heap.get? S = some (lstObj us.toArray c) := (W.I.pin (S, lstObj us.toArray c) (List.mem_append_right _ (List.mem_singleton.mpr rfl))).1
      have hsz : us.toArray.size < sizeLine := by
        have e1 := W.vs.length
        have e2 := W.rs.len
        have e3 := congrArg List.length hy
        simp only [List.length_append, List.length_cons] at e3
        rw [List.size_toArray]
        omega
      show wpAny _ A.in1 (updateSeq S (·.push v) >>= _) _ _ _
      refine wpAny_bind ?_
      refine wpAny_updateSeq (s := s₁.setGen g gs') hS rfl (wpAny_pure ⟨plainId_quiet F.plain_extend_loop _, ?_⟩) (Nat.le_of_lt hsz) (by show (us.toArray.push v).size ≤ sizeLine + 1; rw [Array.size_push]; omega)
      rcases cont with ⟨rfl, he⟩ | cont
      · rw [het] at he; cases he
      · exact ih (ds ++ [d]) _ (by rw [hy, List.append_assoc]; rfl) (cont _ rfl (nap_lst rfl hbare rfl)) hR
    · rw [hy] at hy'
      simp at hy'
end
end Pv

set_option Elab.async false
set_option linter.all false
set_option maxRecDepth 100000
/-! PvQ: generator expressions made and consumed: any, all, tuple. -/
namespace Pv
open PySem PySem.Spec L2
open PyProof.Rows (AllBare)

def gSl (n : Nat) (δ : Sls) (caps : List Nat) : Sls := List.replicate n .un ++ caps.map fun k => (δ[k]?).getD .un
def gFs (n : Nat) (Fs : List (List Addr)) (caps : List Nat) : List (List Addr) := List.replicate n [] ++ caps.map fun k => (Fs[k]?).getD []
def gC (C : Cc) (n : Nat) (σ : L2.St) (caps : List Nat) : Cc := { C with pin := gSt n σ caps, lam := noLam, lamUp := fun _ _ _ _ h _ => h.elim }
def capsOk (δ : Sls) (caps : List Nat) : Bool := caps.all fun k => match δ[k]? with
  | some (.s _ _) => true
  | _ => false
section
variable {C : Cc} {G H : Hp} {σ : L2.St} {δ : Sls} {Fs : List (List Addr)}
theorem cap_slots {C' : Cc} (e : C'.toCb = C.toCb) (s : Slots C G H σ δ Fs) : ∀ (caps : List Nat), capsOk δ caps = true → SlotsP C' G H (caps.map fun k => (σ[k]?).getD none) (caps.map fun k => (σ[k]?).getD none) (caps.map fun k => (δ[k]?).getD .un) (caps.map fun k => (Fs[k]?).getD [])
  | [], _ => trivial
  | k :: caps, h => by
    have h' : (match δ[k]? with | some (.s _ _) => true | _ => false) = true ∧ capsOk δ caps = true := by simpa [capsOk] using h
    refine ⟨?_, cap_slots e s caps h'.2⟩
    have h1 := h'.1
    split at h1
    · rename_i p x hd
      obtain ⟨pp, y, f, h0, h1, h2, v, rfl, q, _⟩ := SlotsP.get s hd
      simp only [h1, hd, h2, Option.getD_some]
      exact ⟨v, rfl, by rw [e]; exact q, fun _ => rfl⟩
    · cases h1
theorem g_slots (n : Nat) {caps : List Nat} (s : Slots C G H σ δ Fs) (h : capsOk δ caps = true) : Slots (gC C n σ caps) G H (gSt n σ caps) (gSl n δ caps) (gFs n Fs caps) :=
  SlotsP.app (C := gC C n σ caps) (SlotsP.nils n) (cap_slots (C := C) (C' := gC C n σ caps) rfl s caps h)
theorem wipeF_at {Fs : List (List Addr)} {k : Nat} : ∀ {vs : List Nat}, k ∉ vs → (wipeF Fs vs)[k]? = Fs[k]?
  | [], _ => rfl
  | v :: vs, h => by
    show ((wipeF Fs vs).set v [])[k]? = _
    rw [List.getElem?_set_ne fun e => h (by rw [e]; exact List.mem_cons_self)]
    exact wipeF_at fun m => h (List.mem_cons_of_mem _ m)
theorem cap_perm {Fs : List (List Addr)} : ∀ {caps : List Nat}, caps.Nodup → (∀ k ∈ caps, k < Fs.length) → Fs.flatten.Perm ((caps.map fun k => (Fs[k]?).getD []).flatten ++ (wipeF Fs caps).flatten)
  | [], _, _ => List.Perm.refl _
  | k :: caps, nd, h => by
    have ih := cap_perm (Fs := Fs) (caps := caps) (List.nodup_cons.mp nd).2 fun j hj => h j (List.mem_cons_of_mem _ hj)
    have hk : k < Fs.length := h k List.mem_cons_self
    have e1 : (wipeF Fs caps)[k]? = some Fs[k] := by rw [wipeF_at (List.nodup_cons.mp nd).1]; exact List.getElem?_eq_getElem hk
    have p1 := flat_perm e1
    rw [List.map_cons, List.flatten_cons, List.getElem?_eq_getElem hk, Option.getD_some]
    refine ih.trans ((List.Perm.append_left _ p1).trans ?_)
    rw [List.append_assoc, ← List.append_assoc, ← List.append_assoc (as := Fs[k])]
    exact List.Perm.append_right _ List.perm_append_comm
theorem gFs_flat {n : Nat} {Fs : List (List Addr)} {caps : List Nat} : (gFs n Fs caps).flatten = (caps.map fun k => (Fs[k]?).getD []).flatten := by
  unfold gFs
  rw [List.flatten_append]
  simp
/-- behind the run the captured slots own what they owned -/
theorem drop_eq {n : Nat} {Fs Fs' : List (List Addr)} {caps : List Nat} (h : ∀ j, n ≤ j → Fs'[j]? = (gFs n Fs caps)[j]?) : Fs'.flatten = (Fs'.take n).flatten ++ (caps.map fun k => (Fs[k]?).getD []).flatten := by
  have e : Fs'.drop n = caps.map fun k => (Fs[k]?).getD [] := by
    apply List.ext_getElem?
    intro i
    rw [List.getElem?_drop, h _ (Nat.le_add_right _ _)]
    unfold gFs
    rw [List.getElem?_append_right (by simp)]
    simp
  conv => lhs; rw [← List.take_append_drop n Fs', List.flatten_append, e]
end
/-- the table at P has grown -/
theorem Fw.tab {C : Cb} {G H : Hp} {F : List Addr} {P : Addr} {ps : Array Value} {more : Array Value} (wd : Wd G H F) (hP : H P = some (.tbl ps)) (ht : TriplesOk (ps ++ more).toList) (hL : ∀ p ∈ C.TL, p.1 ≠ P) : Fw C G H F G (upd H P (.tbl (ps ++ more))) F := by
  have ne : ∀ a o, H a = some o → (∀ qs, o ≠ .tbl qs) → a ≠ P := fun a o e t z => by
    rw [z, hP] at e
    exact t ps (Option.some.inj e).symm
  have gne : ∀ a o, G a = some o → a ≠ P := fun a o e z => by
    have := wd.le a o e
    rw [z, hP] at this
    rw [← Option.some.inj this] at e
    exact wd.tb a ps e
  refine ⟨⟨fun a o e => by rw [upd_ne (gne a o e)]; exact wd.le a o e, wd.tb, wd.nd, wd.out, fun a h => ?_⟩, fun _ _ h => h, fun a o e _ t => by rw [upd_ne (ne a o e t)]; exact e, fun a e => ?_, fun _ _ h => .inl h, fun a h => .inl h, fun t => ⟨fun p hp => ?_, fun Q hQ => ?_⟩⟩
  · obtain ⟨o, e, q⟩ := wd.inn a h
    exact ⟨o, by rw [upd_ne (ne a o e q.1)]; exact e, q⟩
  · by_cases z : a = P
    · rw [z, upd_same] at e; cases e
    · rw [upd_ne z] at e; exact e
  · have := t.1 p hp
    have hne := hL p hp
    obtain ⟨qs, e, t1, t2⟩ := this
    refine ⟨qs, by rw [upd_ne hne]; exact e, t1, fun pos cv h => ?_⟩
    obtain ⟨c, ec, hc⟩ := t2 pos cv h
    refine ⟨c, ec, ?_⟩
    rw [upd_ne (ne c _ hc fun qs z => by cases z)]
    exact hc
  · by_cases z : Q = P
    · subst z
      exact ⟨_, upd_same, ht⟩
    · obtain ⟨qs, e, k⟩ := t.2 Q hQ
      exact ⟨qs, by rw [upd_ne z]; exact e, k⟩
/-- what stands for the maker at the end of a run -/
def GDone (X : Cx) (C : Cc) (pins : List (Addr × Obj)) (σ : L2.St) (δ : Sls) (Fs : List (List Addr)) (G1 H1 : Hp) (F1 : List Addr) (K : Con) (ds : List D) (s' : Shared) : Prop :=
  ∃ us pl G' H' ws, Inv X pins σ H' s' ∧ K.ok us pl ∧ (∀ p ∈ pl, s'.heap.get? p.1 = some p.2 ∧ H' p.1 = none) ∧ Fw C.toCb G1 H1 F1 G' H' Fs.flatten ∧ Slots C G' H' σ δ Fs ∧ (∀ a o, a ∈ Fs.flatten → H1 a = some o → (∀ ps, o ≠ .tbl ps) → H' a = some o) ∧ Vals ws us ∧ Reps C.toCb G' H' ws ds []
/-- a generator that has been made, at a -/
def GReady (X : Cx) (C : Cc) (pins : List (Addr × Obj)) (σ : L2.St) (δ : Sls) (Fs : List (List Addr)) (G1 H1 : Hp) (F1 : List Addr) (k : Nat) (yall : List D) (eall : Bool) (a : Addr) (s5 : Shared) : Prop :=
  a < s5.heap.objs.size ∧ s5.TypeIs (.ref a) "generator" ∧ (∃ g, s5.heap.IsGen a g) ∧ cStatics < s5.heap.objs.size ∧ ∀ (Aw : Around) (K : Con) (s6 : Shared) (pl : List (Addr × Obj)), Room (k + 1) Aw → Aw.frames = some X.stack → (∀ b ∈ K.ad, s5.heap.objs.size ≤ b) → K.ok [] pl → (∀ p ∈ pl, s6.heap.get? p.1 = some p.2) →
    s6.os = s5.os → s6.gens = s5.gens → (∀ b o, s5.heap.get? b = some o → s6.heap.get? b = some o) → (yall = [] → eall = true) →
    ∃ X' C' G0 H0 F0 δ0 Fs0 Tl g, X'.prog = X.prog ∧ X'.w = X.w ∧ Asleep X' C' K G0 H0 F0 δ0 Fs0 Tl a g yall eall Aw [] s6 ∧ ∀ ds s', AtEnd X' C' K G0 H0 F0 δ0 Fs0 Tl ds s' → GDone X C pins σ δ Fs G1 H1 F1 K ds s'
def mGen (n : Nat) (caps : List Nat) (s : DV → Sls → Option Sls) (fi : Sls → Res (List DV)) (ft : Sls → Res Bool) (fe : Sls → Res DV) (kf : List D → Bool → Option DV) : Sls → Res DV := fun δ => (fi δ).bind fun xs δ1 =>
  if capsOk δ1 caps = true then (match genIt s ft fe xs (gSl n δ1 caps) with
    | (ys, e) => fin (kf ys e) δ1) else .bad
theorem room_gen {k : Nat} {A : Around} {env : Env} (r : Room (k + 1) A) : Room k (A.in1.deeper env) :=
  ⟨r.hd, by have := r.dp; show A.depth + 1 + 3 * k + 5 < _; omega, by have := r.un; show A.units + 1 + 3 + 16 * k + 200 < _; omega⟩
section
variable {X : Cx} {C : Cc} {pins : List (Addr × Obj)} {σ : L2.St} {H : Hp} {st : Shared} {L T U V' : List Nat} {tg elt iter : Expr} {ifs : List Expr} {scope : Scope} {pos : Pos} {s : DV → Sls → Option Sls} {fi : Sls → Res (List DV)} {ft : Sls → Res Bool} {fe : Sls → Res DV} {N own : List Str} {caps : List Nat} {c P : Addr} {k kA : Nat}
abbrev GCx (X : Cx) (scope : Scope) (N : List Str) (code : Value) (A : Around) (s : Shared) (H : Hp) (fp : List Addr) (pn : List (Addr × Obj)) : Cx :=
  gx X.prog X.w X.K X.mg X.base N (genEnv scope (cloFrom X.env.cells scope.names []) s.heap.objs.size code builtinsNs X.env) A X.stack s H fp pn
theorem gen_made {kf : List D → Bool → Option DV} {W : WX} {Q : VK} (hc : X.calm = true) (hr : Room kA X.A) (TB : GxR.TabB X.base X.mg c P) (hcode : X.env.code = .ref c) (hPG : P ∈ C.TG) (hPL : ∀ p ∈ C.TL, p.1 ≠ P) (S : GScope2 X scope N own caps) (hcaps : caps.Nodup) (hcl : ∀ k ∈ caps, k < X.N.length)
    (hi : SI X C V' tg iter fi)
    (hsg : ∀ code A s0 H0 fp pn σ', SG (GCx X scope N code A s0 H0 fp pn) (gC C own.length σ' caps) L tg s)
    (hst : ∀ code A s0 H0 fp pn σ', Room k (GCx X scope N code A s0 H0 fp pn).A → STs (GCx X scope N code A s0 H0 fp pn) (gC C own.length σ' caps) T ifs ft)
    (hel : ∀ code A s0 H0 fp pn σ', Room k (GCx X scope N code A s0 H0 fp pn).A → SE (GCx X scope N code A s0 H0 fp pn) (gC C own.length σ' caps) U elt fe)
    (hLT : ∀ j ∈ L ++ (T ++ U), j < own.length) (hs : ∀ v, genFold iter X.env v = pure v) (tk : Takes X W) (I : Inv X pins σ H st) (h : tG C rV W V' (mGen own.length caps s fi ft fe kf) σ H Q) :
    wpAny (model X.prog X.w) X.A (eval (.GeneratorExp elt [⟨tg, iter, ifs, 0⟩] scope pos) X.env) (fun u s5 => ∃ a, u = .ref a ∧ ∃ G1 H1 δ1 Fs1 F1 ys e, GReady X C pins σ δ1 Fs1 G1 H1 F1 k ys e a s5 ∧ Out C rV W [] σ G1 H1 δ1 Fs1 F1 Q (fin (kf ys e) δ1)) X.xe st := by
  refine wpAny_GeneratorExp_make S.co (closure_ok S.free) S.cell S.dot S.kind (by have := hr.dp; omega) ?_ hs
  obtain ⟨G, δ, Fs, wd, tt, sl, out⟩ := h
  have hR : tG C rI W V' fi σ H (fun J H' => ∃ G1 δ1 Fs1 g xs, Wd G1 H' (Fs1.flatten ++ (g ++ [])) ∧ Tbs C.toCb H' ∧ Slots C G1 H' σ δ1 Fs1 ∧ rI σ C G1 H' J xs g ∧ Out C rV W [] σ G1 H' δ1 Fs1 (Fs1.flatten ++ (g ++ [])) Q (if capsOk δ1 caps = true then (match genIt s ft fe xs (gSl own.length δ1 caps) with
    | (ys, e) => fin (kf ys e) δ1) else .bad)) :=
    tG_of (P := []) (U := []) (by rw [List.append_nil]; exact wd) tt sl (k := fun xs δ1 => if capsOk δ1 caps = true then (match genIt s ft fe xs (gSl own.length δ1 caps) with
      | (ys, e) => fin (kf ys e) δ1) else .bad) (by rw [List.append_nil]; exact out) (fun j h => h.elim id fun h => by cases h) fun J xs δ1 G1 H1 Fs1 g w1 wd1 tt1 sl1 kp1 r1 _ out1 => ⟨G1, δ1, Fs1, g, xs, wd1, tt1, sl1, r1, out1⟩
  refine wpAny_mono ((hi.run W tk).run pins st σ H _ I hR) (fun v s1 h1 => wpAny_mono h1 (fun itv s2 h2 => ?_) fun _ _ h => h) fun _ _ h => h
  obtain ⟨it, fp, tn, J, H2, rfl, I2, Tn, tn0, hf, G1, δ1, Fs1, g, xs, wd1, tt1, sl1, ⟨item, n, Pn, wk, hxs, hp0⟩, out1⟩ := h2
  rw [List.append_nil] at wd1 out1
  split at out1
  rotate_left
  · exact out1.elim
  rename_i hcap
  cases hgen : genIt s ft fe xs (gSl own.length δ1 caps) with
  | mk ys e =>
  simp only [hgen] at out1
  refine ⟨I2.nolimit, ?_⟩
  obtain ⟨ps, hP, ht⟩ := tt1.2 P hPG
  have hPs : s2.heap.get? P = some { cls := .none, data := .fields ps } := I2.hok P _ hP
  have cd : PySem.W.CodeHd s2.heap c P := TB.code.keeps fun b u e => I2.bk b u e
  have cont : ∀ (code : Value) (h3 : Heap) (tk3 : Nat) (more : Array Value), Heap.ExtBut P s2.heap h3 → s2.heap.objs.size ≤ h3.objs.size → h3.get? P = some { cls := .none, data := .fields (ps ++ more) } → TriplesOk (ps ++ more).toList →
      wpAny (model X.prog X.w) X.A (builtinsFor X.env.globals X.env.builtins) (fun bi s₄ =>
        ∀ h', h'.Ns s₄.heap.objs.size (fun y => if y = ".0" then some (.ref it) else none) → Heap.SameBut s₄.heap.objs.size (s₄.heap.push { cls := .type "frame", data := .dict #[] }) h' →
          ∃ a, Value.ref h'.objs.size = .ref a ∧ ∃ G1 H1 δ1 Fs1 F1 ys e, GReady X C pins σ δ1 Fs1 G1 H1 F1 k ys e a { s₄ with
            gens := s₄.gens.push (.fresh (.compStart (.GeneratorExp elt [⟨tg, iter, ifs, 0⟩] scope pos) 0 (.ref it) .none (genEnv scope (cloFrom X.env.cells scope.names []) s₄.heap.objs.size code bi X.env))),
            toks := s₄.toks + 1 + 1 + 1,
            heap := h'.push { cls := .type "generator", data := .fields #[.int s₄.gens.size 0, .str "<genexpr>" (s₄.toks + 1), .str (X.env.qual ++ "<genexpr>") (s₄.toks + 1 + 1)] } } ∧ Out C rV W [] σ G1 H1 δ1 Fs1 F1 Q (fin (kf ys e) δ1)) X.xe { s2 with heap := h3, toks := tk3 } := by
    intro code h3 tk3 more hx hsz hP3 ht3
    obtain ⟨bm, ob, e1, e2, e3, e4, e5, e6, e7, e8⟩ := TB.bm
    refine wpAny_builtinsFor (m := X.mg) (by rw [I2.ok.glob]; exact ((I2.mod.glob.keeps I2.bk)).extBut hx TB.gP) e1 e2 (hx _ _ e4 (I2.bk _ _ e5)) e6 e7 e8 ?_
    intro h' hn hs'
    have I3 : Inv X pins σ (upd H2 P (.tbl (ps ++ more))) { s2 with heap := h3, toks := tk3 } :=
      GxR.inv_tab (more := more) (h' := h3) (g' := s2.gens) (d' := s2.drawn) (t' := tk3) I2 hP (fun b u hb e => hx b u hb e) hP3 I2.bare
    have fw3 : Fw C.toCb G1 H2 (Fs1.flatten ++ g) G1 (upd H2 P (.tbl (ps ++ more))) (Fs1.flatten ++ g) := Fw.tab wd1 hP ht3 hPL
    have tt3 := fw3.tt tt1
    have neP : ∀ b, H2 b = none → b ≠ P := fun b e z => by rw [z, hP] at e; cases e
    have sl3 : Slots C G1 (upd H2 P (.tbl (ps ++ more))) σ δ1 Fs1 := sl1.mono fw3.gs fun a o _ e t => by
      rw [upd_ne (fun z => ?_)]
      · exact e
      · rw [z, hP] at e
        exact t ps (Option.some.inj e).symm
    refine ⟨h'.objs.size, rfl, G1, H2, δ1, Fs1, Fs1.flatten ++ g, ys, e, ?_, out1⟩
    have main : ∀ (go : Obj) (gs5 : Array GenState) (t5 : Nat), go.cls = .type "generator" → (∃ nm qn, go.data = .fields #[.int s2.gens.size 0, nm, qn]) → go.slots = #[] → (∀ h : Heap, (h.push go).get? h.objs.size = some go) → AllBare gs5 →
        gs5[s2.gens.size]? = some (.fresh (.compStart (.GeneratorExp elt [⟨tg, iter, ifs, 0⟩] scope pos) 0 (.ref it) .none (genEnv scope (cloFrom X.env.cells scope.names []) h3.objs.size code builtinsNs X.env))) →
        GReady X C pins σ δ1 Fs1 G1 H2 (Fs1.flatten ++ g) k ys e h'.objs.size { s2 with gens := gs5, toks := t5, heap := h'.push go } := by
      intro go gs5 t5 hgc hgd hgs hgp hbare hgen5
      have hgdc : ∀ v, go.data ≠ .cell v := fun v q => by
        obtain ⟨nm, qn, e⟩ := hgd
        rw [e] at q; cases q
      have isgen : ∀ h : Heap, h.get? h'.objs.size = some go → h.IsGen h'.objs.size s2.gens.size := fun h e => by
        obtain ⟨nm, qn, e2⟩ := hgd
        exact ⟨go, nm, qn, e, hgc, e2, hgs⟩
      have hf3 : ∀ b ∈ fp, FpOk X pins (upd H2 P (.tbl (ps ++ more))) b := fun b hb => by
        obtain ⟨q1, q2⟩ := hf b hb
        exact ⟨by rw [upd_ne (neP b q1)]; exact q1, q2⟩
      have hfo : ∀ b ∈ fp, ∃ o, h3.get? b = some o := fun b hb => by
        obtain ⟨o, e, _⟩ := Tn.obj _ _ tn0 b hb
        exact ⟨o, hx b o (neP b (hf b hb).1) e⟩
      have sz' : h'.objs.size = h3.objs.size + 1 := by rw [hs'.1, Heap.size_push]
      have k3 : ∀ b o, h3.get? b = some o → (h'.push go).get? b = some o := fun b o e => Heap.get?_push_of_some _ (hs'.extBut b o (Nat.ne_of_lt (Heap.lt_size e)) (Heap.get?_push_of_some _ e))
      refine ⟨?_, (isgen _ (hgp _)).typeIs, ⟨_, isgen _ (hgp _)⟩, ?_, ?_⟩
      · show h'.objs.size < (h'.push go).objs.size
        rw [Heap.size_push]; exact Nat.lt_succ_self _
      · obtain ⟨_, hns, _⟩ := I3.nolimit
        have h1 : cStatics < h3.objs.size := hns.lt
        show cStatics < (h'.push go).objs.size
        rw [Heap.size_push, sz']
        exact Nat.lt_succ_of_lt (Nat.lt_succ_of_lt h1)
      intro Aw K s6 pl hrw hfr hlo hok hpl os6 gens6 keep6 hend
      have I5 : Inv (GCx X scope N code Aw.in1 { s2 with heap := h3, toks := tk3 } (upd H2 P (.tbl (ps ++ more))) fp [(h'.objs.size, go)]) [] (gSt own.length σ caps) (upd H2 P (.tbl (ps ++ more))) { s2 with heap := h'.push go, gens := gs5, toks := t5 } :=
        gx_inv (s := { s2 with heap := h3, toks := tk3 }) S I3 hc (A := Aw.in1) hfr hrw.hd rfl hn hs' rfl rfl hgdc (hgp _) hbare hf3 hfo
      have I6a := I5.call' (s' := s6) (ch := []) os6 (Un.kept keep6) (I5.hok.kept keep6) (by rw [gens6]; exact hbare) (fun b hb => by cases hb)
      have ead := (K.sub [] pl hok).1
      have big : ∀ b ∈ K.ad, h3.objs.size + 2 ≤ b := fun b hb => by
        have := hlo b hb
        have e1 : (h'.push go).objs.size = h3.objs.size + 2 := by rw [Heap.size_push, sz']
        have this' : (h'.push go).objs.size ≤ b := this
        rw [e1] at this'
        exact this'
      have I6 : Inv (GCx X scope N code Aw.in1 { s2 with heap := h3, toks := tk3 } (upd H2 P (.tbl (ps ++ more))) fp [(h'.objs.size, go)]) pl (gSt own.length σ caps) (upd H2 P (.tbl (ps ++ more))) s6 := I6a.pins_of fun p hp => by
        have hb : p.1 ∈ K.ad := by rw [← ead]; exact List.mem_map.mpr ⟨p, hp, rfl⟩
        have hbig := big _ hb
        have hge : h3.objs.size ≤ p.1 := Nat.le_trans (Nat.le_add_right _ 2) hbig
        refine ⟨hpl p hp, I3.hok.fresh hge, ?_, fun hm => ?_, (K.sub [] pl hok).2 p hp⟩
        · show p.1 ≠ h3.objs.size
          exact Nat.ne_of_gt (Nat.lt_of_lt_of_le (Nat.lt_succ_of_lt (Nat.lt_succ_self _)) hbig)
        · obtain ⟨_, o, ho, _⟩ := I3.env0.funs.mem hm
          exact absurd (Nat.lt_of_lt_of_le (Heap.lt_size ho) hge) (Nat.lt_irrefl _)
      have slG : Slots (gC C own.length σ caps) G1 (upd H2 P (.tbl (ps ++ more))) (gSt own.length σ caps) (gSl own.length δ1 caps) (gFs own.length Fs1 caps) := g_slots own.length sl3 hcap
      have hcl2 : ∀ k ∈ caps, k < Fs1.length := fun k hk => by
        have l1 := sl1.len
        have l2 := I2.len
        have := hcl k hk
        omega
      have pm := cap_perm hcaps hcl2
      have wd3 := fw3.wd
      have pm2 : (Fs1.flatten ++ g).Perm (((gFs own.length Fs1 caps).flatten ++ g) ++ (wipeF Fs1 caps).flatten) := by
        rw [gFs_flat, List.append_assoc]
        refine (List.Perm.append_right g pm).trans ?_
        rw [List.append_assoc]
        exact List.Perm.append_left _ List.perm_append_comm
      have wdG := (wd3.perm pm2)
      have W0 : GAt (GCx X scope N code Aw.in1 { s2 with heap := h3, toks := tk3 } (upd H2 P (.tbl (ps ++ more))) fp [(h'.objs.size, go)]) (gC C own.length σ caps) K G1 (upd H2 P (.tbl (ps ++ more))) ((gFs own.length Fs1 caps).flatten ++ g) (gSl own.length δ1 caps) (gFs own.length Fs1 caps) (L ++ (T ++ U))
          (gSl own.length δ1 caps) [] (Pn 0) [] pl (gSt own.length σ caps) (upd H2 P (.tbl (ps ++ more))) G1 (gFs own.length Fs1 caps) g [] s6 :=
        ⟨hok, I6, wdG.left, tt3, slG, wk.mono _ _ _ _ _ _ hp0 fw3.gs (fun a o m e t => by
            rw [upd_ne (fun z => ?_)]
            · exact e
            · rw [z, hP] at e
              exact t ps (Option.some.inj e).symm), .nil, Reps.nil_of.mpr rfl, Fw.refl wdG.left, Kp.refl⟩
      refine ⟨GCx X scope N code Aw.in1 { s2 with heap := h3, toks := tk3 } (upd H2 P (.tbl (ps ++ more))) fp [(h'.objs.size, go)], gC C own.length σ caps, G1, upd H2 P (.tbl (ps ++ more)), (gFs own.length Fs1 caps).flatten ++ g, gSl own.length δ1 caps, gFs own.length Fs1 caps, L ++ (T ++ U), s2.gens.size, rfl, rfl,
        asleep_of (X := GCx X scope N code Aw.in1 { s2 with heap := h3, toks := tk3 } (upd H2 P (.tbl (ps ++ more))) fp [(h'.objs.size, go)]) (C := gC C own.length σ caps) (A := Aw) wk Tn rfl (fun c hc => by subst hc; rfl) rfl rfl S.co ⟨fun b hb => Nat.le_trans (Nat.le_add_right _ 2) (big b hb), fun b hb x c e z => ?_, fun b hb p hp z => ?_⟩ (List.mem_singleton.mpr rfl) ⟨hgc, hgd, hgs⟩ (fun b hb => ?_) (hsg _ _ _ _ _ _ _) (hst _ _ _ _ _ _ _ (room_gen hrw)) (hel _ _ _ _ _ _ _ (room_gen hrw)) W0
          (Tn.keep _ _ _ tn0 fun b hb o e => keep6 b o (k3 b o (hx b o (neP b (hf b hb).1) e))) (fun b hb => (hf3 b hb).1) (by rw [hxs]; exact hgen) hend (by rw [gens6]; exact hgen5), ?_⟩
      · obtain ⟨v, q⟩ := I3.cell x c (NdefX.clo_cm S.free e)
        have h1 : c < h3.objs.size := q.lt
        rw [z] at h1
        exact absurd (Nat.lt_of_lt_of_le (Nat.lt_succ_of_lt (Nat.lt_succ_of_lt h1)) (big b hb)) (Nat.lt_irrefl _)
      · have e : p = (h'.objs.size, go) := List.mem_singleton.mp hp
        subst e
        have h1 := big b hb
        rw [← z] at h1
        have h2 : h3.objs.size + 2 ≤ h'.objs.size := h1
        rw [sz'] at h2
        exact absurd h2 (Nat.not_succ_le_self _)
      · obtain ⟨q1, q2, q3, q4, q5, q6⟩ := hf3 b hb
        obtain ⟨o, ho⟩ := hfo b hb
        have hlt : b < h3.objs.size := Heap.lt_size ho
        refine ⟨Nat.ne_of_lt hlt, fun hm => ?_, .inl hb, fun x c e => q5 x c (NdefX.clo_cm S.free e), fun p hp => ?_, fun hk => ?_⟩
        · rcases List.mem_cons.mp (I3.stkSub b hm) with e | e
          · exact q2 e
          · exact q3 e
        · have e : p = (h'.objs.size, go) := List.mem_singleton.mp hp
          subst e
          show h'.objs.size ≠ b
          rw [sz']
          exact Nat.ne_of_gt (Nat.lt_succ_of_lt hlt)
        · exact absurd (Nat.lt_of_lt_of_le (Nat.lt_succ_of_lt (Nat.lt_succ_of_lt hlt)) (big b hk)) (Nat.lt_irrefl _)
      · rintro ds s' ⟨δ', B, us, pl', σ', H', G', Fs', P', ws, W'⟩
        have kpj : ∀ j, own.length ≤ j → Fs'[j]? = (gFs own.length Fs1 caps)[j]? := fun j hj => (W'.kp j fun m => absurd (hLT j m) (Nat.not_lt.mpr hj)).2.1
        have keepC : ∀ a o, a ∈ (caps.map fun k => (Fs1[k]?).getD []).flatten → upd H2 P (.tbl (ps ++ more)) a = some o → (∀ qs, o ≠ .tbl qs) → H' a = some o := fun a o m e t => by
          obtain ⟨l, hl, ha⟩ := List.mem_flatten.mp m
          obtain ⟨i, hi, ei⟩ := List.getElem_of_mem hl
          have hj : (gFs own.length Fs1 caps)[own.length + i]? = some l := by
            unfold gFs
            rw [List.getElem?_append_right (by simp)]
            simp only [List.length_replicate, Nat.add_sub_cancel_left]
            rw [List.getElem?_eq_getElem hi, ei]
          exact (W'.kp (own.length + i) fun m => absurd (hLT _ m) (Nat.not_lt.mpr (Nat.le_add_right _ _))).2.2 l hj a ha o e t
        have keepW : ∀ a o, a ∈ (wipeF Fs1 caps).flatten → upd H2 P (.tbl (ps ++ more)) a = some o → (∀ qs, o ≠ .tbl qs) → H' a = some o := fun a o m e t => W'.fw.hs a o e (fun m2 => wdG.dis a m2 m) t
        have keepF : ∀ a o, a ∈ Fs1.flatten → upd H2 P (.tbl (ps ++ more)) a = some o → (∀ qs, o ≠ .tbl qs) → H' a = some o := fun a o m e t => by
          rcases List.mem_append.mp (pm.mem_iff.mp m) with h | h
          · exact keepC a o h e t
          · exact keepW a o h e t
        have up3 : ∀ a o, H2 a = some o → (∀ qs, o ≠ .tbl qs) → upd H2 P (.tbl (ps ++ more)) a = some o := fun a o e t => by
          rw [upd_ne (fun z => ?_)]
          · exact e
          · rw [z, hP] at e
            exact t ps (Option.some.inj e).symm
        have wF := W'.fw.frame wdG
        have fin : Fw C.toCb G1 (upd H2 P (.tbl (ps ++ more))) (((gFs own.length Fs1 caps).flatten ++ g) ++ (wipeF Fs1 caps).flatten) G' H' Fs1.flatten := by
          have e1 := drop_eq kpj
          have sub : List.Sublist ((caps.map fun k => (Fs1[k]?).getD []).flatten ++ (wipeF Fs1 caps).flatten) ((Fs'.flatten ++ P') ++ (wipeF Fs1 caps).flatten) := by
            refine List.Sublist.append ?_ (List.Sublist.refl _)
            rw [e1, List.append_assoc]
            exact (List.sublist_append_left _ _).trans (List.sublist_append_right _ _)
          have w1 := wF.sub (sub.nodup wF.wd.nd) (fun a h => sub.subset h)
          exact w1.perm pm.symm
        have fin2 : Fw C.toCb G1 H2 (Fs1.flatten ++ g) G' H' Fs1.flatten := fw3.trans (fin.more fun a h => pm2.mem_iff.mpr h)
        refine ⟨us, pl', G', H', ws, ?_, W'.ok, fun p hp => ?_, fin2, sl1.mono fin2.gs (fun a o m e t => keepF a o m (up3 a o e t) t), fun a o m e t => keepF a o m (up3 a o e t) t, W'.vs, W'.rs⟩
        · refine I3.call' (ch := fp) W'.I.os W'.I.base W'.I.hok W'.I.bare fun b hb => ?_
          obtain ⟨q1, q2, q3, q4, q5, q6⟩ := hf3 b hb
          exact ⟨q4, q2, q5, q6⟩
        · obtain ⟨h1, h2, _⟩ := W'.I.pin p (List.mem_append_right _ hp)
          exact ⟨h1, h2⟩
    exact main _ _ _ rfl ⟨_, _, rfl⟩ rfl (fun h => Heap.get?_push_size _ rfl) (AllBare.push I2.bare rfl) (Array.getElem?_push_size ..)
  cases hf2 : codeAmong pos ps.toList with
  | none =>
    refine wpAny_genexprCodeX hcode (cd.code hPs ht) (cd.tab hPs) hf2 fun c' h' tk hx hge hlt hco' _ htab' _ => ?_
    obtain ⟨o1, vs, f1, tf, fl, tg, inF, tx, tt, op, _, _, _, _, _, _, _, _, _, htr, _⟩ := hco'
    exact cont _ h' tk _ hx (Nat.le_trans hge (Nat.le_of_lt hlt)) htab'.2 htr
  | some cv =>
    refine wpAny_genexprCode_hit hcode (cd.code hPs ht) hf2 ?_
    exact cont cv s2.heap s2.toks #[] (Heap.ExtBut.refl _ _) (Nat.le_refl _) (by simpa using hPs) (by simpa using ht)
end
end Pv

set_option Elab.async false
set_option linter.all false
set_option maxRecDepth 100000
/-! PvR: any(..), all(..), tuple(..) of generator expressions. -/
namespace Pv
open PySem PySem.Spec L2
open PyProof.Rows (AllBare)
/-- the sides that a generator expression asks -/
structure GSide (X : Cx) (C : Cc) (scope : Scope) (N own : List Str) (caps : List Nat) (c P : Addr) : Prop where
  calm : X.calm = true
  tb : GxR.TabB X.base X.mg c P
  code : X.env.code = .ref c
  mem : P ∈ C.TG
  lam : ∀ p ∈ C.TL, p.1 ≠ P
  sc : GScope2 X scope N own caps
  nd : caps.Nodup
  lt : ∀ k ∈ caps, k < X.N.length
section
variable {X : Cx} {C : Cc} {pins : List (Addr × Obj)} {σ : L2.St} {H : Hp} {st : Shared} {L T U V' : List Nat} {tg elt iter : Expr} {ifs : List Expr} {scope : Scope} {p pos gpos : Pos} {s : DV → Sls → Option Sls} {fi : Sls → Res (List DV)} {ft : Sls → Res Bool} {fe : Sls → Res DV} {N own : List Str} {caps : List Nat} {c P : Addr} {k : Nat}
theorem out_g {W : WX} {G1 H1 : Hp} {δ1 : Sls} {Fs1 : List (List Addr)} {F1 : List Addr} {Q : VK} {K : Con} {ds : List D} {s' : Shared} {z : D} {v : V} {u : Value} (out : Out C rV W [] σ G1 H1 δ1 Fs1 F1 Q (.ok (.fr z) δ1)) (hD : GDone X C pins σ δ1 Fs1 G1 H1 F1 K ds s')
    (rz : ∀ G H, Rep C.toCb G H v z []) (ru : RelV v u) : EP X pins σ Q u s' := by
  obtain ⟨us, pl, G', H', ws, I', ok, pin, fw, sl, keep, rv, rs⟩ := hD
  refine ⟨v, H', I', ru, out v G' H' Fs1 [] (by rw [List.append_nil]; exact fw) sl (fun j _ => ⟨rfl, rfl, fun f e a m o e2 t => keep a o (mem_flat e a m) e2 t⟩) ⟨rz G' H', rfl⟩⟩
def kAny : List D → Bool → Option DV := fun ys e => (anyD ys e).map fun b => .fr (.bl b)
theorem se_any (S : GSide X C scope N own caps c P) (hr : Room (k + 2) X.A) (hg : Gl X "any") (hm : X.mg "any" = none) (hi : SI X C V' tg iter fi)
    (hsg : ∀ code A s0 H0 fp pn σ', SG (GCx X scope N code A s0 H0 fp pn) (gC C own.length σ' caps) L tg s)
    (hst : ∀ code A s0 H0 fp pn σ', Room k (GCx X scope N code A s0 H0 fp pn).A → STs (GCx X scope N code A s0 H0 fp pn) (gC C own.length σ' caps) T ifs ft)
    (hel : ∀ code A s0 H0 fp pn σ', Room k (GCx X scope N code A s0 H0 fp pn).A → SE (GCx X scope N code A s0 H0 fp pn) (gC C own.length σ' caps) U elt fe)
    (hLT : ((L ++ (T ++ U)).all fun j => decide (j < own.length)) = true) (hs : ∀ v, genFold iter X.env v = pure v)
    (he : starEach [.GeneratorExp elt [⟨tg, iter, ifs, 0⟩] scope gpos] X.env = (false, eval (.GeneratorExp elt [⟨tg, iter, ifs, 0⟩] scope gpos) X.env) :: starEach [] X.env := by rfl) :
    SE X C V' (.Call (.Name "any" p) [.GeneratorExp elt [⟨tg, iter, ifs, 0⟩] scope gpos] [] pos) (mGen own.length caps s fi ft fe kAny) := by
  refine ⟨fun W tk => ⟨fun pins st σ H Q I h => ?_⟩⟩
  refine wpAny_Call_Name_kw (ld_blt I hg hm PyProof.Rows.boot_any ?_)
  refine PyProof.Rows.callWith_builtin1 ?_ he (by rfl)
  rw [he]
  show wpAny _ _ (spliced ((false, eval (.GeneratorExp elt [⟨tg, iter, ifs, 0⟩] scope gpos) X.env) :: backTo pos (starEach [] X.env))) _ _ st
  refine Calls.spliced_cons (wpAny_mono (gen_made (kf := kAny) S.calm hr S.tb S.code S.mem S.lam S.sc S.nd S.lt hi hsg hst hel (fun j hj => by
    have := List.all_eq_true.mp hLT j hj
    exact of_decide_eq_true this) hs tk I h) (fun u s5 hG => ?_) fun _ _ h => h)
  obtain ⟨a, rfl, G1, H1, δ1, Fs1, F1, ys, e, hG, out⟩ := hG
  refine Calls.spliced_nil ?_
  obtain ⟨h1, h2, ⟨g, hgen⟩, h4, ready⟩ := hG
  unfold kAny at out
  cases hb : anyD ys e with
  | none => rw [hb] at out; exact out.elim
  | some b =>
    rw [hb] at out
    obtain ⟨X', C', G0, H0, F0, δ0, Fs0, Tl, g', eP, eW, asl, fin⟩ := ready X.A.in1 .no s5 [] (Room.in1 hr) I.ok.frames (fun b hb => by cases hb) rfl (fun p hp => by cases hp) rfl rfl (fun _ _ h => h) (fun h => by
      cases he : e with
      | true => rfl
      | false => rw [h, he] at hb; simp [anyD] at hb)
    refine call_function_tree F.kind_any F.plain_any F.entry_any (F.args_any1 _) ?_
    unfold Builtin.«any»
    refine wpAny_bind (m := oneArg "any" _) (wpAny_pure ?_)
    refine wpAny_bind (wpAny_pyIter_gen hgen ?_)
    rw [← eP, ← eW]
    refine wpAny_pure ⟨plainId_quiet F.plain_any_loop _, code_any hr.hd (by have := hr.dp; omega) ys [] s5 rfl asl hb fun s' ds' AE => ?_⟩
    have D := fin ds' s' AE
    exact out_g (v := .bl b) out D (fun _ _ => ⟨rfl, rfl⟩) rfl
end
/-- a generator that was made is asked for all -/
def GRun (X : Cx) (C : Cc) (pins : List (Addr × Obj)) (σ : L2.St) (δ : Sls) (Fs : List (List Addr)) (G1 H1 : Hp) (F1 : List Addr) (yall : List D) (a : Addr) (A : Around) (S : Addr) (s6 : Shared) : Prop :=
  ∃ X' C' G0 H0 F0 δ0 Fs0 Tl g, X'.prog = X.prog ∧ X'.w = X.w ∧ Asleep X' C' (.lst S) G0 H0 F0 δ0 Fs0 Tl a g yall true A [] s6 ∧ ∀ ds s', AtEnd X' C' (.lst S) G0 H0 F0 δ0 Fs0 Tl ds s' → GDone X C pins σ δ Fs G1 H1 F1 (.lst S) ds s'
section
variable {X : Cx} {C : Cc} {pins : List (Addr × Obj)} {σ : L2.St} {δ : Sls} {Fs : List (List Addr)} {G1 H1 : Hp} {F1 : List Addr} {yall : List D} {a g : Addr} {A : Around} {s : Shared} {E : Value → Shared → Prop}
theorem collect_made {Q : List Value → Shared → Prop} (hh : A.handled = none) (hroom : A.depth < recursionLimit) (hlen : yall.length ≤ sizeLine) (ha : a < s.heap.objs.size) (hcs : cStatics < s.heap.objs.size) (isg : ∃ g, s.heap.IsGen a g)
    (run : ∀ s6 c, s6.heap.get? s.heap.objs.size = some (lstObj #[] c) → s6.os = s.os → s6.gens = s.gens → (∀ b o, s.heap.get? b = some o → s6.heap.get? b = some o) → GRun X C pins σ δ Fs G1 H1 F1 yall a A.in1 s.heap.objs.size s6)
    (hQ : ∀ (us : List Value) s', s.heap.objs.size < s'.heap.objs.size → (∃ c, s'.heap.get? s.heap.objs.size = some (lstObj us.toArray c)) → GDone X C pins σ δ Fs G1 H1 F1 (.lst s.heap.objs.size) yall s' → Q us s') : wpAny (model X.prog X.w) A (collect (.ref a)) Q E s := by
  have hSI : s.heap.objs.size ≠ a := Nat.ne_of_gt ha
  obtain ⟨gi, isg⟩ := isg
  unfold collect
  refine wpAny_bind (wpAny_runValue (codeAny_builtin F.entry_proto_collect ?_))
  rw [Around.under_plainId F.plain_proto_collect _]
  show wpAny _ A.in1 (newList [] >>= fun l => again (.builtin "list.__iadd__" ⟨[l, .ref a], []⟩)) _ _ s
  refine wpAny_bind (wpAny_newObj_type ?_)
  refine wpAny_pure ⟨plainId_quiet F.plain_list_iadd _, codeAny_builtin F.entry_list_iadd ?_⟩
  rw [Around.under_plainId F.plain_list_iadd _]
  have kept1 : ∀ b o, s.heap.get? b = some o → (s.heap.push { cls := .type "list", data := .seq ([] : List Value).toArray }).get? b = some o := fun b o e => Heap.get?_push_of_some _ e
  have gty : ∀ {h : Heap}, (∀ b o, s.heap.get? b = some o → h.get? b = some o) → h.IsGen a gi := fun {h} q => isg.keeps q
  show wpAny _ A.in1 (Builtin.List.listExtendWith (.ref s.heap.objs.size) (.ref a) (.ref s.heap.objs.size)) _ _ _
  unfold Builtin.List.listExtendWith
  refine wpAny_bind (wpAny_typeOf (Heap.IsGen.typeIs (s := { s with heap := _ }) (gty kept1)) ?_)
  have h1 : Builtin.List.listSameRef (.ref s.heap.objs.size) (.ref a) = false := by simp [Builtin.List.listSameRef, hSI]
  have h2 : (Value.type "generator" == Value.type "list") = false := by decide
  have h3 : (Value.type "generator" == Value.type "tuple") = false := by decide
  simp only [h1, h2, h3, Bool.or_false, Bool.false_eq_true, if_false]
  refine wpAny_bind (wpAny_pyIter_gen (s := { s with heap := _ }) (gty kept1) ?_)
  refine wpAny_bind (wpAny_holding ?_)
  unfold Builtin.List.listLengthHint
  refine wpAny_bind (wpAny_specialOf (Heap.IsGen.typeIs (s := { s with heap := _ }) (gty kept1)) F.gen_no_len ?_)
  show wpAny _ A.in1 (specialOf (Value.ref a) (Str.ofString "__length_hint__") >>= _) _ _ _
  refine wpAny_bind (wpAny_specialOf (Heap.IsGen.typeIs (s := { s with heap := _ }) (gty kept1)) F.gen_no_hint ?_)
  refine wpAny_pure ?_
  show wpAny _ A.in1 (rule "list.extend.makes-room" >>= fun _ => Builtin.List.listTouch (.ref s.heap.objs.size) >>= fun _ =>
    again (.builtin "list.extend.loop" ⟨[.ref s.heap.objs.size, .ref a, .ref s.heap.objs.size], []⟩)) _ _ _
  refine wpAny_bind (wpAny_rule ?_)
  have hS₁ : (s.heap.push { cls := .type "list", data := .seq ([] : List Value).toArray }).get? s.heap.objs.size = some { cls := .type "list", data := .seq ([] : List Value).toArray } := Heap.get?_push_size _ rfl
  refine wpAny_bind ?_
  show wpAny _ A.in1 (updateSeq s.heap.objs.size (·.push .none) >>= fun _ => updateSeq s.heap.objs.size (·.pop)) _ _ _
  refine wpAny_bind (wpAny_updateSeq hS₁ rfl ?_)
  have hS₂ := Heap.get?_update_self (Obj.mapSeq (·.push Value.none)) hS₁ rfl
  refine wpAny_updateSeq hS₂ rfl ?_
  have hS₃ := Heap.get?_update_self (Obj.mapSeq (·.pop)) hS₂ rfl
  have oth : ∀ b o, s.heap.get? b = some o →
      (((s.heap.push { cls := .type "list", data := .seq ([] : List Value).toArray }).update s.heap.objs.size (Obj.mapSeq (·.push Value.none))).update s.heap.objs.size (Obj.mapSeq (·.pop))).get? b = some o :=
    fun b o e => (Heap.get?_update_other _ _ (Ne.symm (Nat.ne_of_lt (Heap.lt_size e)))).trans ((Heap.get?_update_other _ _ (Ne.symm (Nat.ne_of_lt (Heap.lt_size e)))).trans (kept1 b o e))
  obtain ⟨X', C', G0, H0, F0, δ0, Fs0, Tl, g, eP, eW, asl, fin⟩ := run { s with heap := _ } _ hS₃ rfl rfl oth
  rw [← eP, ← eW]
  refine wpAny_pure ⟨plainId_quiet F.plain_extend_loop _, code_extend hh hroom (Ne.symm hSI) (Nat.ne_of_lt hcs) hlen rfl yall [] _ rfl asl fun s' AE => ?_⟩
  have D := fin yall s' AE
  obtain ⟨us, pl, G', H', ws, I', ok, pin, fw, sl, keep, rv, rs⟩ := _root_.id D
  obtain ⟨c, hpl⟩ := ok
  subst hpl
  have hS' := (pin _ (List.mem_singleton.mpr rfl)).1
  show wpAny _ A (load s.heap.objs.size >>= _) _ _ s'
  refine wpAny_bind (wpAny_load hS' ?_)
  exact wpAny_pure (hQ us s' (Heap.lt_size hS') ⟨c, hS'⟩ D)
theorem call_tuple_made {Q : Value → Shared → Prop} (hh : A.handled = none) (hroom : A.depth < recursionLimit) (hlen : yall.length ≤ sizeLine) (ha : a < s.heap.objs.size) (hcs : cStatics < s.heap.objs.size) (isg : ∃ g, s.heap.IsGen a g)
    (run : ∀ s6 c, s6.heap.get? s.heap.objs.size = some (lstObj #[] c) → s6.os = s.os → s6.gens = s.gens → (∀ b o, s.heap.get? b = some o → s6.heap.get? b = some o) → GRun X C pins σ δ Fs G1 H1 F1 yall a A.in1.in1.in1 s.heap.objs.size s6)
    (hQ : ∀ (us : List Value) s', us.length ≤ sizeLine → (∃ c, s'.heap.get? s.heap.objs.size = some (lstObj us.toArray c)) → GDone X C pins σ δ Fs G1 H1 F1 (.lst s.heap.objs.size) yall s' → Q (.ref s'.heap.objs.size) { s' with heap := s'.heap.push { cls := .type "tuple", data := .seq us.toArray } }) :
    wpAny (model X.prog X.w) A (call (.type "tuple") [.ref a]) Q E s := by
  refine callType_codes (Q₁ := fun obj s₁ => s₁.TypeIs obj "tuple" ∧ Q obj s₁) F.called_tuple (F.typeCall_tuple_1 _) F.entry_object_init ?_ fun obj s₁ h₁ => ?_
  rotate_left
  · exact ⟨h₁.1, F.args_object_init_2 obj _, object_init_meets F.called_tuple.init.lookup F.called_tuple.made (by decide) X.prog X.w A.in1 _ s₁ ⟨h₁.1, rfl, h₁.2⟩⟩
  refine codeAny_of_tree ?_
  show wpAny _ A.in1.in1 (do checkBuiltinCall "tuple.__new__" ⟨[.type "tuple", .ref a], []⟩; again (.builtin "tuple.__new__" ⟨[.type "tuple", .ref a], []⟩)) _ _ s
  refine wpAny_bind (wpAny_of_eq (F.newCall_tuple_1 _) (wpAny_pure ⟨plainId_quiet F.plain_tuple_new _, codeAny_builtin F.entry_tuple_new ?_⟩))
  rw [Around.under_plainId F.plain_tuple_new _]
  have hsub := sub_tuple_self
  have hinit := init_tuple_lookup
  have hmh := madeHere_tuple
  have hTI : s.TypeIs (.ref a) "generator" := by
    obtain ⟨g, isg⟩ := isg
    exact isg.typeIs
  have hh1 : A.in1.in1.handled = none := hh
  have hroom1 : A.in1.in1.depth < recursionLimit := hroom
  wp_walk using wpAny_typeOf hTI, collect_made (A := A.in1.in1) hh1 hroom1 hlen ha hcs isg run
  intro us s' hsz hS D
  have hus : us.length ≤ sizeLine := by
    obtain ⟨us', pl, G', H', ws, I', ⟨c', hpl⟩, pin, fw, sl, keep, rv, rs⟩ := _root_.id D
    subst hpl
    obtain ⟨c, hS⟩ := hS
    have h1 := (pin _ (List.mem_singleton.mpr rfl)).1
    have h2 : s'.heap.get? s.heap.objs.size = some (lstObj us'.toArray c') := h1
    rw [hS] at h2
    have e : us.toArray = us'.toArray := by injection h2 with h2; injection h2 with _ _ h2; injection h2
    have e' : us = us' := by simpa using e
    rw [e', ← rv.length, rs.len]
    exact hlen
  show wpAny _ _ (Builtin.Tuple.tupleExact us.toArray >>= fun v => ret v) _ _ _
  unfold Builtin.Tuple.tupleExact
  refine wpAny_bind (wpAny_newObj_type ?_ (by show us.toArray.size ≤ sizeLine; rw [List.size_toArray]; exact hus))
  refine wpAny_pure ?_
  exact ⟨⟨_, Heap.get?_push_size _ rfl, rfl⟩, hQ us s' hus hS D⟩
end
section
variable {X : Cx} {C : Cc} {pins : List (Addr × Obj)} {σ : L2.St} {H : Hp} {st : Shared} {L T U V' : List Nat} {tg elt iter : Expr} {ifs : List Expr} {scope : Scope} {p pos gpos : Pos} {s : DV → Sls → Option Sls} {fi : Sls → Res (List DV)} {ft : Sls → Res Bool} {fe : Sls → Res DV} {N own : List Str} {caps : List Nat} {c P : Addr} {k : Nat}
def kTupG : List D → Bool → Option DV := fun ys e => if e = true ∧ ys.length ≤ sizeLine then some (.fr (.tup ys)) else none
theorem se_tupG (S : GSide X C scope N own caps c P) (hr : Room (k + 2) X.A) (hg : Gl X "tuple") (hm : X.mg "tuple" = none) (hi : SI X C V' tg iter fi)
    (hsg : ∀ code A s0 H0 fp pn σ', SG (GCx X scope N code A s0 H0 fp pn) (gC C own.length σ' caps) L tg s)
    (hst : ∀ code A s0 H0 fp pn σ', Room k (GCx X scope N code A s0 H0 fp pn).A → STs (GCx X scope N code A s0 H0 fp pn) (gC C own.length σ' caps) T ifs ft)
    (hel : ∀ code A s0 H0 fp pn σ', Room k (GCx X scope N code A s0 H0 fp pn).A → SE (GCx X scope N code A s0 H0 fp pn) (gC C own.length σ' caps) U elt fe)
    (hLT : ((L ++ (T ++ U)).all fun j => decide (j < own.length)) = true) (hs : ∀ v, genFold iter X.env v = pure v)
    (he : starEach [.GeneratorExp elt [⟨tg, iter, ifs, 0⟩] scope gpos] X.env = (false, eval (.GeneratorExp elt [⟨tg, iter, ifs, 0⟩] scope gpos) X.env) :: starEach [] X.env := by rfl) :
    SE X C V' (.Call (.Name "tuple" p) [.GeneratorExp elt [⟨tg, iter, ifs, 0⟩] scope gpos] [] pos) (mGen own.length caps s fi ft fe kTupG) := by
  refine ⟨fun W tk => ⟨fun pins st σ H Q I h => ?_⟩⟩
  refine wpAny_Call_Name_kw (ld_blt I hg hm PyProof.Rows.boot_tuple ?_)
  refine PyProof.Rows.callWith_type1 ?_ he (by rfl)
  rw [he]
  show wpAny _ _ (spliced ((false, eval (.GeneratorExp elt [⟨tg, iter, ifs, 0⟩] scope gpos) X.env) :: backTo pos (starEach [] X.env))) _ _ st
  refine Calls.spliced_cons (wpAny_mono (gen_made (kf := kTupG) S.calm hr S.tb S.code S.mem S.lam S.sc S.nd S.lt hi hsg hst hel (fun j hj => by
    have := List.all_eq_true.mp hLT j hj
    exact of_decide_eq_true this) hs tk I h) (fun u s5 hG => ?_) fun _ _ h => h)
  obtain ⟨a, rfl, G1, H1, δ1, Fs1, F1, ys, e, hG, out⟩ := hG
  refine Calls.spliced_nil ?_
  obtain ⟨h1, h2, hgen, h4, ready⟩ := hG
  unfold kTupG at out
  split at out
  rotate_left
  · exact out.elim
  rename_i hce
  obtain ⟨rfl, hlen⟩ := hce
  have hrA : Room (k + 1) X.A.in1.in1.in1 := ⟨hr.hd, by have := hr.dp; show X.A.depth + 3 * (k + 1) + 5 < _; omega, by have := hr.un; show X.A.units + 1 + 1 + 1 + 16 * (k + 1) + 200 < _; omega⟩
  refine call_tuple_made (C := C) (pins := pins) (σ := σ) (δ := δ1) (Fs := Fs1) (G1 := G1) (H1 := H1) (F1 := F1) (yall := ys) hr.hd (by have := hr.dp; omega) hlen h1 h4 hgen (fun s6 c hS os6 gens6 keep6 => ?_) fun us s' husz hS D => ?_
  · obtain ⟨X', C', G0, H0, F0, δ0, Fs0, Tl, g, eP, eW, asl, fin⟩ := ready X.A.in1.in1.in1 (.lst s5.heap.objs.size) s6 [(s5.heap.objs.size, lstObj #[] c)] hrA I.ok.frames (fun b hb => by rw [List.mem_singleton.mp hb]; exact Nat.le_refl _) ⟨c, rfl⟩ (fun p hp => by rw [List.mem_singleton.mp hp]; exact hS) os6 gens6 keep6 (fun _ => rfl)
    exact ⟨X', C', G0, H0, F0, δ0, Fs0, Tl, g, eP, eW, asl, fin⟩
  · obtain ⟨us', pl, G', H', ws, I', ⟨c', hpl⟩, pin, fw, sl, keep, rv, rs⟩ := D
    subst hpl
    obtain ⟨c, hS⟩ := hS
    have hS2 : s'.heap.get? s5.heap.objs.size = some (lstObj us'.toArray c') := (pin _ (List.mem_singleton.mpr rfl)).1
    rw [hS] at hS2
    have e : us.toArray = us'.toArray := by injection hS2 with h2; injection h2 with _ _ h2; injection h2
    have e' : us = us' := by simpa using e
    subst e'
    have hfr := I'.hok.fresh (Nat.le_refl s'.heap.objs.size)
    have wl : ws.length ≤ sizeLine := by rw [rs.len]; exact hlen
    have fn := Fw.newG (C := C.toCb) (o := .tup ws) (wd_nil fw.wd) hfr (fun _ z => by cases z)
    have fn2 := fn.frame (B := Fs1.flatten) (by rw [List.nil_append]; exact fw.wd)
    rw [List.nil_append] at fn2
    refine ⟨.ref s'.heap.objs.size, upd H' s'.heap.objs.size (.tup ws), I'.laid (t' := s'.toks) (fun b o e => Heap.get?_push_of_some _ e) (Nat.le_refl _) ⟨wl, us, rv, PyProof.Rows.IsTup.new _ _⟩, rfl, ?_⟩
    refine out (.ref s'.heap.objs.size) _ _ Fs1 [] (by rw [List.append_nil]; exact fw.trans fn2) (sl.mono fn.gs fun a o _ e t => fn.hs a o e (by simp) t) (fun j _ => ⟨rfl, rfl, fun f e a m o e2 t => fn.hs a o (keep a o (mem_flat e a m) e2 t) (by simp) t⟩) ⟨⟨_, ws, rfl, .of upd_same, rs.mono fn.gs fun a o m => by cases m⟩, rfl⟩
end
end Pv

set_option Elab.async false
set_option linter.all false
set_option maxRecDepth 100000
/-! PvS: the words of the printed terms for defs that make code objects. -/
namespace Pv
open PySem PySem.Spec L2
def gsC (N0 : List Str) (sc scope : Scope) (N own : List Str) (caps : List Nat) : Bool :=
  (match scope.kind with | .function => true | _ => false) && !scope.isCoroutine &&
  (scope.names.all fun y => match y.2 with
    | .cell => false
    | .free => (match sc.names.lookup y.1 with | some .cell => true | _ => false)
    | _ => true) && decide (scope.names.lookup (".0" : Str) = some .local) && decide (N = own ++ caps.map fun k => (N0[k]?).getD ("" : Str)) &&
  (caps.all fun k => match N0[k]? with
    | some x => decide ((x, NameKind.free) ∈ scope.names) && decide (scope.names.lookup x = some .free) && decide (sc.names.lookup x = some .cell)
    | none => false) && own.all fun x => decide (scope.names.lookup x = some .local)
theorem gs_by {X : Cx} {N0 : List Str} {sc scope : Scope} {N own : List Str} {caps : List Nat} {n : Nat} (hcells : X.env.cells = cellsFrom n sc.names []) (hsc : X.env.scope = sc) (hN : X.N = N0) (h : gsC N0 sc scope N own caps = true) : GScope2 X scope N own caps := by
  unfold gsC at h
  simp only [Bool.and_eq_true, List.all_eq_true, decide_eq_true_eq] at h
  obtain ⟨⟨⟨⟨⟨⟨h1, h2⟩, h3⟩, h4⟩, h5⟩, h6⟩, h7⟩ := h
  refine ⟨?_, by simpa using h2, fun y hy e => ?_, h4, fun y hy e => ?_, by rw [hN]; exact h5, fun k hk => ?_, h7⟩
  · split at h1
    · assumption
    · cases h1
  · have q := h3 y hy
    rw [e] at q
    cases q
  · have q := h3 y hy
    rw [e] at q
    simp only at q
    split at q
    · rename_i q2
      rw [hcells]
      exact cell_has q2
    · cases q
  · have q := h6 k hk
    split at q
    · rename_i x hx
      simp only [Bool.and_eq_true, decide_eq_true_eq] at q
      exact ⟨x, by rw [hN]; exact hx, q.1.1, q.1.2, .inl (by unfold Env.kindOf; rw [hsc]; exact q.2)⟩
    · cases q
theorem gside_by {X : Cx} {C : Cc} {N0 : List Str} {sc scope : Scope} {N own : List Str} {caps : List Nat} {n : Nat} {c P : Addr} (hc : X.calm = true) (tb : GxR.TabB X.base X.mg c P) (code : X.env.code = .ref c) (mem : P ∈ C.TG) (lam : ∀ p ∈ C.TL, p.1 ≠ P)
    (hcells : X.env.cells = cellsFrom n sc.names []) (hsc : X.env.scope = sc) (hN : X.N = N0) (h : gsC N0 sc scope N own caps = true) (nd : caps.Nodup) (lt : (caps.all fun k => decide (k < N0.length)) = true) : GSide X C scope N own caps c P :=
  ⟨hc, tb, code, mem, lam, gs_by hcells hsc hN h, nd, fun k hk => by
    rw [hN]
    exact of_decide_eq_true (List.all_eq_true.mp lt k hk)⟩
/-- a def with a code object known: it makes generator expressions (or lambdas) -/
structure FnTC (C : Cb) (mg : Str → Option Value) (x : Str) (st : Stmt) (a c : Addr) (ps : List Str) : Prop where
  g : mg x = some (.ref a)
  k : PySem.W.keepIn C.K (.ref a) = true
  fn : ∃ (oc : Value) (od : Option Addr) (kV doc pm : Value) (an : Option Addr) (ct : Value) (osl : Array (Option Value)),
    C.K.lookup a = some ⟨oc, od, .func (PySem.W.fnOf x x (defArgs st) (defBody st) (defScope st) .none kV doc pm an (.ref c) ct), osl⟩ ∧ PySem.W.codeIn C.K (.ref c) x = true
  b : ∀ fd, Fun C.K x x st a fd → Binds C.K fd ps []
section
variable {P : Program} {w : World} {C : Cb} {mg : Str → Option Value} {base : Heap}
theorem spF_body {N : List Str} {body : Sls → RS} {vs : List V} {H : Hp} {Q : VK} {E : XK} {n : Nat} (h : spF C n (mFun N.length body) vs H Q E) : tS (ccOf C N vs) (fun cls d _ H => E cls d H) body { nx := fun _ H' => Q .non H', rt := Q } (start N vs) H := by
  obtain ⟨hl, G, xs, gs, wd, tt, ar, out⟩ := h
  have lens := ar.len
  have flat : (gs ++ List.replicate (N.length - vs.length) []).flatten = gs.flatten := by simp
  have sl : Slots (ccOf C N vs) G H (start N vs) (entry N.length xs) (gs ++ List.replicate (N.length - vs.length) []) := by
    have e1 : entry N.length xs = xs.map argS ++ List.replicate (N.length - vs.length) .un := by
      unfold entry; rw [lens.1]
    rw [e1]
    exact SlotsP.app (C := ccOf C N vs) (args_slots (C := ccOf C N vs) ar) (SlotsP.nils _)
  refine ⟨G, entry N.length xs, gs ++ List.replicate (N.length - vs.length) [], by rw [flat]; exact wd, tt, sl, ?_⟩
  rw [flat]
  have pre : vs.map some <+: (ccOf C N vs).pin := ⟨_, rfl⟩
  unfold mFun at out
  cases e : body (entry N.length xs) with
  | nx δ =>
    rw [e] at out
    intro σ' G' H' Fs' w' s'
    cases e2 : finals xs δ with
    | none => simp only [e2] at out
    | some ys =>
      simp only [e2] at out
      obtain ⟨gs', r1, r2⟩ := finals_rep (C := ccOf C N vs) ar s' pre e2
      refine out .non G' H' gs' [] ?_ r1 ⟨⟨rfl, rfl⟩, rfl⟩
      rw [List.append_nil]
      exact w'.sub (r2.nodup w'.wd.nd) fun c h => r2.subset h
  | rt d δ =>
    rw [e] at out
    intro v σ' G' H' Fs' g w' s' r
    cases e2 : finals xs δ with
    | none => simp only [e2] at out
    | some ys =>
      simp only [e2] at out
      obtain ⟨gs', r1, r2⟩ := finals_rep (C := ccOf C N vs) ar s' pre e2
      have r3 : List.Sublist (gs'.flatten ++ g) (Fs'.flatten ++ g) := List.Sublist.append r2 (List.Sublist.refl _)
      exact out v G' H' gs' g (w'.sub (r3.nodup w'.wd.nd) fun c h => r3.subset h) r1 r
  | er c δ =>
    rw [e] at out
    intro σ' G' H' Fs' w' s'
    cases e2 : finals xs δ with
    | none => simp only [e2] at out
    | some ys =>
      simp only [e2] at out
      obtain ⟨gs', r1, r2⟩ := finals_rep (C := ccOf C N vs) ar s' pre e2
      exact out G' H' gs' (w'.sub (r2.nodup w'.wd.nd) fun c h => r2.subset h) r1
  | bk δ => rw [e] at out; exact out.elim
  | ct δ => rw [e] at out; exact out.elim
  | bad => rw [e] at out; exact out.elim
theorem FnTC.ok {x : Str} {st : Stmt} {a c : Addr} {N ps : List Str} {k : Nat} {body : Sls → RS} (T : FnTC C mg x st a c ps) (S : FnScope N ps (defScope st))
    (hb : ∀ (A : Around) (outer : List Env) (s : Shared) (H : Hp) (vs : List V) (E : XK), vs.length = ps.length → Room k (A.deeper (PyProof.Rows.envOfC x (defScope st) s.heap.objs.size a (.ref c))) →
      SSs (cxOf (L2.CX P w) P w C.K mg base N x (defScope st) a (.ref c) A outer s H E) (ccOf C N vs) (defBody st) body) : OkF P w C mg base (k + 1) a ps ps.length (mFun N.length body) := by
  obtain ⟨oc, od, kV, doc, pm, an, ct, osl, lk, hcd⟩ := T.fn
  refine ⟨_, fn_of lk hcd S (fun vs H Q E h => h.1) (fun A outer s H vs Q E hr h => ?_), T.b _ (fun_mk lk hcd T.k), _, _, _, lk⟩
  have tk : Takes (cxOf (L2.CX P w) P w C.K mg base N x (defScope st) a (.ref c) A outer s H E) (fun cls d _ H => E cls d H) := takes_of rfl rfl rfl rfl
  exact ⟨_, (hb A outer s H vs E h.1 hr).run _ tk, spF_body h⟩
end
end Pv

set_option Elab.async false
set_option linter.all false
set_option maxRecDepth 100000
/-! PvT: lambdas without parameters: made, kept, called by a def that is handed one. -/
namespace Pv
open PySem PySem.Spec L2
open LamX (CodeO LamS lamEnv lamCx Tabs)

/-- the object at f stands -/
def CloO (f : Addr) (o : Obj) : HO := .ext fun h => h.get? f = some o
theorem cloO_ne {f : Addr} {o : Obj} (ps : Array Value) : CloO f o ≠ .tbl ps := fun z => by unfold CloO at z; cases z
theorem cloO_np {f : Addr} {o : Obj} : ¬ Plain (CloO f o) := fun z => z.2 _ rfl
theorem codeO_np {c : Addr} {q : Str} : ¬ Plain (CodeO c q) := fun z => z.2 _ rfl
/-- a closure and its code object are known from now on -/
theorem Fw.clo {C : Cb} {G H H1 : Hp} {F : List Addr} {f c : Addr} {o : Obj} {q : Str} (wd : Wd G H F) (hE : ∀ a o, H a = some o → (∀ ps, o ≠ .tbl ps) → H1 a = some o) (dm : ∀ a, H1 a = none → H a = none) (tt : Tbs C H → Tbs C (upd H1 f (CloO f o))) (hc : H1 c = some (CodeO c q)) (hf : H1 f = none) :
    Fw C G H F (upd (upd G c (CodeO c q)) f (CloO f o)) (upd H1 f (CloO f o)) F := by
  have nfc : c ≠ f := ne_of_none hc hf
  have hHf := dm f hf
  have gl : ∀ a o, G a = some o → H1 a = some o := fun a o e => hE a o (wd.le a o e) fun ps z => wd.tb a ps (by rw [e, z])
  have g2 : ∀ a o', upd (upd G c (CodeO c q)) f (CloO f o) a = some o' → (a = f ∧ o' = CloO f o) ∨ (a = c ∧ o' = CodeO c q) ∨ G a = some o' := fun a o' e => by
    rcases upd_some e with h | ⟨_, h⟩
    · exact .inl h
    · rcases upd_some h with h | ⟨_, h⟩
      · exact .inr (.inl h)
      · exact .inr (.inr h)
  have nF : ∀ a ∈ F, a ≠ f ∧ a ≠ c := fun a ha => by
    obtain ⟨o', e, t⟩ := wd.inn a ha
    have e1 := hE a o' e t.1
    refine ⟨ne_of_none e1 hf, fun z => ?_⟩
    rw [z, hc] at e1
    cases e1
    exact codeO_np t
  refine ⟨⟨fun a o' e => ?_, fun a ps e => ?_, wd.nd, fun a h => ?_, fun a h => ?_⟩, fun a o' e => ?_, fun a o' e _ t => ?_, fun a e => ?_, fun a o' e => ?_, fun a h => .inl h, tt⟩
  · rcases g2 a o' e with ⟨rfl, rfl⟩ | ⟨rfl, rfl⟩ | h
    · exact upd_same
    · rw [upd_ne nfc]; exact hc
    · have := gl a o' h
      rw [upd_ne (ne_of_none this hf)]; exact this
  · rcases g2 a _ e with ⟨_, h⟩ | ⟨_, h⟩ | h
    · exact cloO_ne ps h.symm
    · exact LamX.codeO_ne ps h.symm
    · exact wd.tb a ps h
  · obtain ⟨h1, h2⟩ := nF a h
    rw [upd_ne h1, upd_ne h2]
    exact wd.out a h
  · obtain ⟨o', e, t⟩ := wd.inn a h
    exact ⟨o', by rw [upd_ne (nF a h).1]; exact hE a o' e t.1, t⟩
  · have e1 := gl a o' e
    have h1 : a ≠ f := ne_of_none e1 hf
    rw [upd_ne h1]
    by_cases z : a = c
    · rw [z, hc] at e1
      cases e1
      rw [z, upd_same]
    · rw [upd_ne z]; exact e
  · have := hE a o' e t
    rw [upd_ne (ne_of_none this hf)]; exact this
  · obtain ⟨h1, h2⟩ := upd_none e
    exact dm a h2
  · rcases g2 a o' e with ⟨rfl, rfl⟩ | ⟨rfl, rfl⟩ | h
    · exact .inr (.inr (.inr cloO_np))
    · exact .inr (.inr (.inr codeO_np))
    · exact .inl h
section
variable {X : Cx} {C : Cc} {pins : List (Addr × Obj)} {σ : L2.St} {H G : Hp} {F : List Addr} {s : Shared} {c P : Addr} {params : Arguments} {body : Expr} {scope : Scope} {pos : Pos}
abbrev cloObj (X : Cx) (params : Arguments) (body : Expr) (scope : Scope) (pm : Value) (c' : Addr) (ctv : Value) : Obj := PySem.W.kla_obj "<lambda>" (X.env.qual ++ "<lambda>") params body scope (cloFrom X.env.cells scope.names []) pm c' ctv
/-- the sides that a lambda asks -/
structure LSide (X : Cx) (C : Cc) (c P : Addr) : Prop where
  tb : LamX.TabB X.base X.mg c P
  code : X.env.code = .ref c
  mem : (P, X.env.qual ++ "<lambda>") ∈ C.TL
  one : ∀ p ∈ C.TL, p.1 = P → p.2 = X.env.qual ++ "<lambda>"
  gen : ∀ Q ∈ C.TG, Q ≠ P
theorem lam_new {E : Value → Shared → Prop} {Q : Value → Shared → Prop} (S : LSide X C c P) (I : Inv X pins σ H s) (wd : Wd G H F) (tt : Tbs C.toCb H) (hdef : defaultsOf params X.env = ([], [])) (hfree : ∀ y ∈ scope.names, y.2 = .free → ∃ c, X.env.cells.lookup y.1 = some c)
    (h : ∀ (f c' : Addr) (pm ctv : Value) (G2 H2 : Hp) (s' : Shared), Inv X pins σ H2 s' → Fw C.toCb G H F G2 H2 F → G2 f = some (CloO f (cloObj X params body scope pm c' ctv)) → G2 c' = some (CodeO c' (X.env.qual ++ "<lambda>")) → f ∉ frs X.stack →
      (∀ a o, H a = some o → (∀ ps, o ≠ .tbl ps) → H2 a = some o) → Q (.ref f) s') :
    wpAny (model X.prog X.w) X.A (eval (.Lambda params body scope pos) X.env) Q E s := by
  have hT := tt.1
  obtain ⟨ps, hP, ht, ha⟩ := hT _ S.mem
  refine PySem.W.kla_eval hdef ?_
  have bP : s.heap.BuiltinsAt X.mg P := S.tb.bm.keeps I.bk
  have hP' : s.heap.get? P = some { cls := .none, data := .fields ps } := I.hok P _ hP
  have nofr : ∀ f, s.heap.objs.size ≤ f → f ∉ frs X.stack := fun f hf z => by
    rcases List.mem_cons.mp (I.stkSub _ z) with e | e
    · have h1 := I.lt
      rw [← e] at h1
      exact Nat.lt_irrefl _ (Nat.lt_of_lt_of_le h1 hf)
    · exact I.nofs hf e
  have tgs : ∀ (H1 : Hp) (f : Addr), (∀ Q ∈ C.TG, H1 Q = H Q) → (∀ a o, H1 a = some o → a ≠ f) → ∀ Q ∈ C.TG, ∀ o, GxR.TabG H Q → GxR.TabG (upd H1 f o) Q := fun H1 f e1 e2 Q hQ o ⟨qs, e, k⟩ => by
    have e3 := (e1 Q hQ).trans e
    exact ⟨qs, by rw [upd_ne (e2 _ _ e3)]; exact e3, k⟩
  cases hc : codeAmong pos ps.toList with
  | none =>
    refine PySem.W.kla_makeFunction (mg := X.mg) (c := c) (P := P) (ps := ps) (closure_ok hfree) I.ok.glob (I.mod.glob.keeps I.bk) S.code (S.tb.code.keeps I.bk) hP' ht hc S.tb.gP bP fun c' ctv h' tk hx hge hlt hrec htb => ?_
    obtain ⟨c2, oc, vs, t, e2, hoc, hd, hv⟩ := hrec
    cases e2
    have hsz : s.heap.objs.size ≤ h'.objs.size := Nat.le_trans hge (Nat.le_of_lt hlt)
    have nC : H c' = none := I.hok.fresh hge
    have nCP : P ≠ c' := ne_of_none hP nC
    have I1 := LamX.inv_table (t' := tk) (more := #[rawInt pos.line, rawInt pos.col, .ref c']) I hP (fun b o hb e => hx b o hb e) htb hge ⟨oc, vs, t, hoc, hd, hv⟩
    have hE : ∀ b o, H b = some o → (∀ qs, o ≠ .tbl qs) → upd (upd H P (.tbl (ps ++ #[rawInt pos.line, rawInt pos.col, .ref c']))) c' (CodeO c' (X.env.qual ++ "<lambda>")) b = some o := fun b o e n => by
      rw [upd_ne (ne_of_none e nC), upd_ne (fun z => n ps (Option.some.inj (e.symm.trans (by rw [z]; exact hP))))]
      exact e
    have hfr := I1.hok.fresh (Nat.le_refl h'.objs.size)
    have I2 := I1.laid (t' := tk) (a := h'.objs.size) (o := CloO h'.objs.size (cloObj X params body scope ((X.mg "__name__").getD .none) c' ctv)) (h' := h'.push (cloObj X params body scope ((X.mg "__name__").getD .none) c' ctv)) (fun b o e => Heap.get?_push_of_some _ e) (Nat.le_refl _)
      ⟨Heap.get?_push_size _ rfl, ⟨_, Heap.get?_push_size _ rfl⟩, fun h1 h2 e st => st _ e⟩
    have eL : (ps ++ #[rawInt pos.line, rawInt pos.col, .ref c']).toList = ps.toList ++ [rawInt pos.line, rawInt pos.col, .ref c'] := by simp
    have fw := Fw.clo (C := C.toCb) (o := cloObj X params body scope ((X.mg "__name__").getD .none) c' ctv) wd hE (fun a e => (by
      obtain ⟨h1, h2⟩ := upd_none e
      exact (upd_none h2).2)) (fun t0 => ⟨?_, fun Q hQ => tgs _ _ (fun Q hQ => ?_) (fun a o e => ne_of_none e hfr) Q hQ _ (t0.2 Q hQ)⟩) upd_same hfr
    · refine h h'.objs.size c' _ ctv _ _ _ I2 fw upd_same ?_ (nofr _ hsz) fun a o e t => ?_
      · rw [upd_ne (Nat.ne_of_lt hlt), upd_same]
      · have := hE a o e t
        rw [upd_ne (ne_of_none this hfr)]
        exact this
    · refine LamX.Tabs.ext (H := upd (upd H P (.tbl (ps ++ #[rawInt pos.line, rawInt pos.col, .ref c']))) c' (CodeO c' (X.env.qual ++ "<lambda>"))) (fun p hp => ?_) fun b o e => by rw [upd_ne (ne_of_none e hfr)]; exact e
      by_cases hb : p.1 = P
      · rw [S.one p hp hb, hb]
        refine ⟨_, by rw [upd_ne nCP, upd_same], by rw [eL]; exact PySem.TriplesOk_snoc _ _ _ _ ht, fun p' cv hcv => ?_⟩
        rw [eL] at hcv
        rcases LamX.among_app _ ht hcv with z | z
        · obtain ⟨c0, e1, e2⟩ := ha p' cv z
          exact ⟨c0, e1, hE _ _ e2 LamX.codeO_ne⟩
        · exact ⟨c', z, upd_same⟩
      · obtain ⟨ps', a1, a2, a3⟩ := hT p hp
        refine ⟨ps', by rw [upd_ne (ne_of_none a1 nC), upd_ne hb]; exact a1, a2, fun p' cv hcv => ?_⟩
        obtain ⟨c0, e1, e2⟩ := a3 p' cv hcv
        exact ⟨c0, e1, hE _ _ e2 LamX.codeO_ne⟩
    · have := tt.2 Q hQ
      obtain ⟨qs, e, _⟩ := this
      rw [upd_ne (ne_of_none e nC), upd_ne (S.gen Q hQ)]
  | some cv =>
    obtain ⟨c', e, hco⟩ := ha pos cv hc
    subst e
    refine PySem.W.kla_makeFunctionHit (mg := X.mg) (c := c) (P := P) (ps := ps) (closure_ok hfree) I.ok.glob (I.mod.glob.keeps I.bk) S.code (S.tb.code.keeps I.bk) hP' ht hc bP fun ctv h' tk hx hsz => ?_
    have I1 : Inv X pins σ H { s with heap := h', toks := tk } := I.kept fun b o e => hx b o e
    have hfr := I1.hok.fresh (Nat.le_refl h'.objs.size)
    have I2 := I1.laid (t' := tk) (a := h'.objs.size) (o := CloO h'.objs.size (cloObj X params body scope ((X.mg "__name__").getD .none) c' ctv)) (h' := h'.push (cloObj X params body scope ((X.mg "__name__").getD .none) c' ctv)) (fun b o e => Heap.get?_push_of_some _ e) (Nat.le_refl _)
      ⟨Heap.get?_push_size _ rfl, ⟨_, Heap.get?_push_size _ rfl⟩, fun h1 h2 e st => st _ e⟩
    have fw := Fw.clo (C := C.toCb) (o := cloObj X params body scope ((X.mg "__name__").getD .none) c' ctv) wd (fun a o e _ => e) (fun a e => e) (fun t0 => ⟨LamX.Tabs.ext t0.1 fun b o e => by rw [upd_ne (ne_of_none e hfr)]; exact e, fun Q hQ => tgs _ _ (fun Q hQ => rfl) (fun a o e => ne_of_none e hfr) Q hQ _ (t0.2 Q hQ)⟩) hco hfr
    refine h h'.objs.size c' _ ctv _ _ _ I2 fw upd_same ?_ (nofr _ hsz) fun a o e t => ?_
    · rw [upd_ne (ne_of_none hco hfr), upd_same]
    · rw [upd_ne (ne_of_none e hfr)]
      exact e
open PyProof.Rows in
/-- x(), in a def that got the closure at f: entered at s -/
theorem pe_actT {CXg : CXT} {Eg : XK} {Ng : List Str} {qg : Str} {sg : Scope} {g f c' : Addr} {cdg pm ctv : Value} {k i : Nat} {a : Str} {pn : List (Addr × Obj)} {xe : Value → Shared → Prop} {W : WX} {E : XK} {tb : TE} {p1 p2 : Pos}
    (I : Inv X pins σ H s) (L : LamS X.env.scope scope)
    (hbind : bindArgs (PySem.W.kla_fn "<lambda>" (X.env.qual ++ "<lambda>") params body scope (cloFrom X.env.cells scope.names []) pm (.ref c') ctv) ⟨[], []⟩ = pure [])
    (tk : Takes ((cxOf CXg X.prog X.w X.K X.mg X.base Ng qg sg g cdg X.A X.stack s H Eg).tr pn xe) W) (hW : ∀ cls d σ' H', E cls d H' → W cls d σ' H') (hr : Room (k + 1) (X.A.deeper (envOfC qg sg s.heap.objs.size g cdg)))
    (hbody : ∀ (A : Around) (outer : List Env) (s : Shared) (H : Hp), Room k (A.deeper (lamEnv X scope s.heap.objs.size f c')) → PE (lamCx X A outer s H E scope f c') body tb)
    (hN : Ng[i]? = some a) (hv : Vis sg a) (hd : (a == ("__debug__" : Str)) = false) (hcd : (a == ("__classdict__" : Str)) = false) :
    PE ((cxOf CXg X.prog X.w X.K X.mg X.base Ng qg sg g cdg X.A X.stack s H Eg).tr pn xe) (.Call (.Name a p1) [] [] p2)
      (fun σZ HZ Q => σZ[i]? = some (some (.ref f)) ∧ HZ c' = some (CodeO c' (X.env.qual ++ "<lambda>")) ∧ HZ f = some (CloO f (cloObj X params body scope pm c' ctv)) ∧ tb σ HZ Q) := by
  refine ⟨fun pinsZ sZ σZ HZ Q IZ h => ?_⟩
  obtain ⟨hs, hc, hf, ht⟩ := h
  refine wpAny_Call_Name_kw (thn ((pe_var (pos := p1) (i := i) hN hv hd hcd).run pinsZ sZ σZ HZ (fun v H1 => v = .ref f ∧ H1 = HZ) IZ ⟨.ref f, hs, rfl, rfl⟩) fun u s1 ⟨v, H1, I1, r1, q1⟩ => ?_)
  obtain ⟨ev, eH⟩ := q1
  subst ev
  rw [eH] at I1
  obtain rfl : u = Value.ref f := r1
  have of1 : s1.heap.get? f = some (cloObj X params body scope pm c' ctv) := (I1.hok f _ hf).1
  refine PySem.W.callWith_F0 ⟨_, _, _, _, of1⟩ ?_
  have un : Un (frs X.stack) [] H HZ s.heap s1.heap := I1.base
  obtain ⟨⟨oc, vs, t, hoc, hdc, hvc⟩, _, _⟩ := I1.hok c' _ hc
  have rc : codeAny (model X.prog X.w) (X.A.deeper (envOfC qg sg s.heap.objs.size g cdg)) (.call (.ref f) ⟨[], []⟩) (CR (L2.CX X.prog X.w) (envOfC qg sg s.heap.objs.size g cdg :: X.stack) X.prog X.w HZ s1 Q E) s1 := by
    refine PySem.W.kla_callFunE hr.depth of1 rfl L.co L.gen rfl ⟨c', oc, vs, t, rfl, hoc, hdc, hvc⟩ ?_
    rw [hbind]
    refine wpAny_pure (wpAny_newFunctionEnv (fun y hy => (L.own y hy).2) (fun y hy => absurd hy (by simp)) (fun h₁ hns hsb => ⟨I1.nolimit.fresh _ hsb, ?_⟩) L.kind)
    show codeAny _ _ (.expr body (lamEnv X scope s1.heap.objs.size f c')) _ _
    have kp : ∀ b o, s1.heap.get? b = some o → h₁.get? b = some o := fun b o e => hsb.extBut b o (Nat.ne_of_lt (Heap.lt_size e)) (Heap.get?_push_of_some _ e)
    have J : Inv (lamCx X (X.A.deeper (envOfC qg sg s.heap.objs.size g cdg)) (envOfC qg sg s.heap.objs.size g cdg :: X.stack) s1 HZ E scope f c') [] σ HZ { s1 with heap := h₁, toks := s1.toks + ([] : List (Str × Value)).length } :=
      LamX.lam_start2 I L I1.env0 hr.hd un hns kp
    refine PySem.W.kla_codeExpr (wpAny_mono ((hbody _ _ s1 HZ (hr.deeper _)).run [] _ _ HZ Q J ht) (fun v s' hq => ?_) fun e s' hq => hq)
    obtain ⟨w', H', J', rv, q⟩ := hq
    exact ⟨w', H', J'.os, J'.bare, J'.base, J'.hok, rv, q⟩
  have hx : Passes (L2.CX X.prog X.w) ((cxOf CXg X.prog X.w X.K X.mg X.base Ng qg sg g cdg X.A X.stack s H Eg).tr pn xe) E := passes_call tk hW
  refine wpAny_call (codeAny_mono rc fun r s' hq => ?_)
  cases r with
  | error e => exact hx pinsZ σZ HZ s1 e s' I1 hq
  | ok fl =>
    cases fl with
    | ret u => exact I1.after hq
    | next => exact False.elim hq
    | brk => exact False.elim hq
    | cont => exact False.elim hq

/-! ### told -/
/-- try: return what() / except X: return y -/
def mTold (n : Nat) (sub : Nat → Bool) (y : List Nat) (fe : Sls → Res DV) : Sls → Res DV := fun δ => match fe δ with
  | .er c δ' => if c < n ∧ sub c = true then .ok (.fr (.str y)) δ' else .bad
  | m => m
/-- the def that tells: try: return a() / except e: return ret -/
structure ToldT (C : Cb) (mg : Str → Option Value) (x : Str) (ga : Addr) (a e : Str) (y : List Nat) (CS : Addr) (n : Nat) (sub : Nat → Bool) : Prop where
  g : mg x = some (.ref ga)
  k : PySem.W.keepIn C.K (.ref ga) = true
  fn : ∃ (p1 p2 p3 p4 p5 p6 p7 p8 : Pos) (j : Nat) (pg : Arguments) (sg : Scope) (dV kV doc pm cdv ct oc : Value) (an od : Option Addr) (osl : Array (Option Value)),
    C.K.lookup ga = some ⟨oc, od, .func (PySem.W.fnOf x x pg [.Try [.Return (some (.Call (.Name a p1) [] [] p2)) p3] [.ExceptHandler (some (.Name e p4)) none [.Return (some (.Constant (.str (strV y)) j p5)) p6] p7] [] [] p8] sg dV kV doc pm an cdv ct), osl⟩ ∧
    PySem.W.codeIn C.K cdv x = true ∧ L2.Binds C.K (PySem.W.fnOf x x pg [.Try [.Return (some (.Call (.Name a p1) [] [] p2)) p3] [.ExceptHandler (some (.Name e p4)) none [.Return (some (.Constant (.str (strV y)) j p5)) p6] p7] [] [] p8] sg dV kV doc pm an cdv ct) [a] [] ∧ FnScope [a] [a] sg ∧ Vis sg a ∧ sg.names.lookup e = some .globalImplicit
  exc : mg e = some (.ref CS)
  ex : ∀ c, c < n → PySem.W.exmOne C.K (.ref (C.exc c)) (.ref CS) = some (sub c)
  d1 : (x == ("__debug__" : Str)) = false
  d2 : (a == ("__debug__" : Str)) = false
  d3 : (a == ("__classdict__" : Str)) = false
  d4 : (e == ("__debug__" : Str)) = false
theorem told_call {T U : List Nat} {fe : Sls → Res DV} {x : Str} {g f c' : Addr} {a e : Str} {y : List Nat} {CS : Addr} {n : Nat} {sub : Nat → Bool} {pm ctv : Value} {k : Nat} {W : WX} {Q : VK} (TT : ToldT C.toCb X.mg x g a e y CS n sub) (hK : X.K = C.K) (I : Inv X pins σ H s) (L : LamS X.env.scope scope)
    (hbind : ∀ (q : Str) (cl : List (Str × Addr)) (pm cv ctv : Value), bindArgs (PySem.W.kla_fn "<lambda>" q params body scope cl pm cv ctv) ⟨[], []⟩ = pure [])
    (hr : Room (k + 2) X.A) (hbody : ∀ (A : Around) (outer : List Env) (s : Shared) (H : Hp) (E : XK), Room k (lamCx X A outer s H E scope f c').A → SE (lamCx X A outer s H E scope f c') C U body fe)
    (hT : ∀ j, j < X.N.length → j ∈ T) (hc : ∀ G, Wd G H [] → H c' = some (CodeO c' (X.env.qual ++ "<lambda>"))) (hf : H f = some (CloO f (cloObj X params body scope pm c' ctv))) (h : tG C rV W T (mTold n sub y fe) σ H Q) :
    codeAny (model X.prog X.w) X.A (.call (.ref g) ⟨[.ref f], []⟩) (CR C8.CX0 X.stack X.prog X.w H s Q C8.E0) s := by
  obtain ⟨p1, p2, p3, p4, p5, p6, p7, p8, j, pg, sg, dV, kV, doc, pm', cdv, ct, oc, an, od, osl, lk, hcd, hb, Sg, hva, hge⟩ := TT.fn
  obtain ⟨G, δ, Fs, wd, tt, sl, out⟩ := h
  have hc' := hc G (wd_nil wd)
  refine LamX.run_ofS (N := [a]) (ps := [a]) (us := [.ref f]) (vs := [.ref f]) (by rw [hK]; exact lk) (by rw [hK]; exact hcd) Sg hr I.env0 ((hK ▸ hb) s [.ref f] I.kIn rfl) (.cons rfl .nil) rfl fun hr' => ?_
  have hG := LamX.told_gives (X := X) (Ng := [a]) (x := x) (a := a) (e := e) (q := X.env.qual ++ "<lambda>") (ret := strV y) (sg := sg) (g := g) (CS := CS) (cdg := cdv) (j := j) (p1 := p1) (p2 := p2) (p3 := p3) (p4 := p4) (p5 := p5) (p6 := p6) (p7 := p7) (p8 := p8) hge TT.exc TT.d4 (fun f => rfl)
  have act : ∀ (W : WX) (pn : List (Addr × Obj)) (xe : Value → Shared → Prop) (E : XK) (p1 p2 : Pos), Takes ((cxOf C8.CX0 X.prog X.w X.K X.mg X.base [a] x sg g cdv X.A X.stack s H C8.E0).tr pn xe) W → (∀ cls d σ' H', E cls d H' → W cls d σ' H') →
      PE ((cxOf C8.CX0 X.prog X.w X.K X.mg X.base [a] x sg g cdv X.A X.stack s H C8.E0).tr pn xe) (.Call (.Name a p1) [] [] p2) (fun σZ HZ Q => σZ[0]? = some (some (.ref f)) ∧ HZ c' = some (CodeO c' (X.env.qual ++ "<lambda>")) ∧ HZ f = some (CloO f (cloObj X params body scope pm c' ctv)) ∧ tG C rV (fun cls d _ H' => E cls d H') U fe σ HZ Q) := fun W pn xe E p1 p2 tk hW =>
    pe_actT (k := k) (i := 0) (p1 := p1) (p2 := p2) (tb := tG C rV (fun cls d _ H' => E cls d H') U fe) (pm := pm) (ctv := ctv) (params := params) (body := body) (c' := c') (f := f) I L (hbind _ _ _ _ _) tk hW hr' (fun A outer s H hr2 => (hbody A outer s H E hr2).run _ (takes_of rfl rfl rfl rfl)) rfl hva TT.d2 TT.d3
  have hz : LamX.TTold X.K CS (strV y) (fun E HZ Q' => HZ f = some (CloO f (cloObj X params body scope pm c' ctv)) ∧ tG C rV (fun cls d _ H' => E cls d H') U fe σ HZ Q') H Q := by
    refine ⟨hf, G, δ, Fs, wd, tt, sl, ?_⟩
    unfold mTold at out
    have tall : ∀ {δ' : Sls} {Fs' : List (List Addr)} {G' H' : Hp}, Slots C G' H' σ δ' Fs' → ∀ j, j ∉ T → δ'[j]? = δ[j]? ∧ Fs'[j]? = Fs[j]? ∧ ∀ f, Fs[j]? = some f → ∀ a ∈ f, ∀ o, H a = some o → (∀ ps, o ≠ .tbl ps) → H' a = some o := fun {δ' Fs' G' H'} s' j hj => by
      have hjn : ¬ j < X.N.length := fun h => hj (hT j h)
      have l0 := I.len
      have l1 := sl.len
      have l2 := s'.len
      refine ⟨by rw [List.getElem?_eq_none (by omega), List.getElem?_eq_none (by omega)], by rw [List.getElem?_eq_none (by omega), List.getElem?_eq_none (by omega)], fun f e => ?_⟩
      rw [List.getElem?_eq_none (by omega)] at e
      cases e
    cases ef : fe δ with
    | bad => simp only [ef] at out; exact out
    | ok x δ' =>
      simp only [ef] at out
      exact fun v G' H' Fs' g w s' k' r => out v G' H' Fs' g w s' (tall s') r
    | er c δ' =>
      simp only [ef] at out
      split at out
      rotate_left
      · exact (show False from out).elim
      rename_i hcs
      intro G' H' Fs' w s'
      refine ⟨true, by rw [hK, TT.ex c hcs.1, hcs.2], fun _ => ?_, fun z => Bool.noConfusion z⟩
      exact out (.str (strV y)) G' H' Fs' [] (by rw [List.append_nil]; exact w) s' (tall s') ⟨⟨rfl, rfl⟩, rfl⟩
  obtain ⟨t', ht', hq'⟩ := hG f c' s H Q (fun E HZ Q' => HZ f = some (CloO f (cloObj X params body scope pm c' ctv)) ∧ tG C rV (fun cls d _ H' => E cls d H') U fe σ HZ Q') act hc' hz
  exact ⟨t', ht'.nox, hq'⟩
theorem told_wp {T U : List Nat} {fe : Sls → Res DV} {x : Str} {g f c' : Addr} {a e : Str} {y : List Nat} {CS : Addr} {n : Nat} {sub : Nat → Bool} {pm ctv : Value} {k : Nat} {W : WX} {Q : VK} {E : Value → Shared → Prop} (TT : ToldT C.toCb X.mg x g a e y CS n sub) (hK : X.K = C.K) (I : Inv X pins σ H s) (L : LamS X.env.scope scope)
    (hbind : ∀ (q : Str) (cl : List (Str × Addr)) (pm cv ctv : Value), bindArgs (PySem.W.kla_fn "<lambda>" q params body scope cl pm cv ctv) ⟨[], []⟩ = pure [])
    (hr : Room (k + 2) X.A) (hbody : ∀ (A : Around) (outer : List Env) (s : Shared) (H : Hp) (E : XK), Room k (lamCx X A outer s H E scope f c').A → SE (lamCx X A outer s H E scope f c') C U body fe)
    (hT : ∀ j, j < X.N.length → j ∈ T) (hc : H c' = some (CodeO c' (X.env.qual ++ "<lambda>"))) (hf : H f = some (CloO f (cloObj X params body scope pm c' ctv))) (h : tG C rV W T (mTold n sub y fe) σ H Q) :
    wpAny (model X.prog X.w) X.A (call (.ref g) [.ref f]) (fun u s' => CE X.stack X.prog X.w H s Q u s') E s := by
  refine wpAny_call (codeAny_mono (told_call TT hK I L hbind hr hbody hT (fun _ _ => hc) hf h) fun r s2 hq => ?_)
  cases r with
  | error e => exact (show False from hq).elim
  | ok fl =>
    cases fl with
    | ret u => exact hq
    | next => exact False.elim hq
    | brk => exact False.elim hq
    | cont => exact False.elim hq
theorem se_told {U : List Nat} {fe : Sls → Res DV} {x : Str} {g : Addr} {a e : Str} {y : List Nat} {CS : Addr} {n : Nat} {sub : Nat → Bool} {k : Nat} {p lpos : Pos} (S : LSide X C c P) (TT : ToldT C.toCb X.mg x g a e y CS n sub) (hK : X.K = C.K) (hg : Gl X x) (L : LamS X.env.scope scope) (hdef : defaultsOf params X.env = ([], []))
    (hbind : ∀ (q : Str) (cl : List (Str × Addr)) (pm cv ctv : Value), bindArgs (PySem.W.kla_fn "<lambda>" q params body scope cl pm cv ctv) ⟨[], []⟩ = pure [])
    (hr : Room (k + 2) X.A) (hbody : ∀ (A : Around) (outer : List Env) (s : Shared) (H : Hp) (E : XK) (f c' : Addr), Room k (lamCx X A outer s H E scope f c').A → SE (lamCx X A outer s H E scope f c') C U body fe) :
    SE X C (List.range X.N.length) (.Call (.Name x p) [.Lambda params body scope lpos] [] pos) (mTold n sub y fe) := by
  refine ⟨fun W tk => ⟨fun pins s σ H Q I h => ?_⟩⟩
  obtain ⟨G, δ, Fs, wd, tt, sl, out⟩ := h
  refine wpAny_Call_Name_kw (ld_glob I hg TT.g ?_ TT.d1)
  refine PySem.W.callWith_K (h₀ := X.base) I.ok.mod.kin (by rw [hK]; exact TT.k) ?_ (by rfl) (by rfl)
  show wpAny _ _ (spliced ((false, eval (.Lambda params body scope lpos) X.env) :: backTo pos (starEach [] X.env))) _ _ s
  refine Calls.spliced_cons (lam_new S I wd tt hdef (L.has I.ok) fun f c' pm ctv G2 H2 s' I2 fw hf hc hfr keep => ?_)
  refine Calls.spliced_nil ⟨I2.kIn, ?_⟩
  have hf2 := fw.wd.le _ _ hf
  have hc2 := fw.wd.le _ _ hc
  have kp : Kp [] δ Fs H δ Fs H2 := fun j _ => ⟨rfl, rfl, fun f e a m o e2 t => keep a o e2 t⟩
  have h2 : tG C rV W (List.range X.N.length) (mTold n sub y fe) σ H2 Q := ⟨G2, δ, Fs, fw.wd, fw.tt tt, sl.mono fw.gs (fun a o _ e t => keep a o e t), Out.step out fw kp fun j h => h.elim (fun h => by cases h) id⟩
  exact wpAny_mono (told_wp TT hK I2 L hbind hr (fun A outer s H E => hbody A outer s H E f c') (fun j hj => List.mem_range.mpr hj) hc2 hf2 h2) (fun u s2 hq => I2.after hq) fun _ _ h => h
end
end Pv

set_option Elab.async false
set_option linter.all false
set_option maxRecDepth 100000
/-! PvU: lists of lambdas, each told. -/
namespace Pv
open PySem PySem.Spec L2
open LamX (CodeO LamS lamEnv lamCx)

abbrev testsOf (ifs : List Expr) (env : Env) : Sem Bool := forIn ifs true fun c r => if r = true then do let ok ← isTrue c env (eval c env); pure (ForInStep.yield ok) else pure (ForInStep.yield r)
section
variable {X : Cx} {pins : List (Addr × Obj)} {σ : L2.St} {H : Hp} {s : Shared}
/-- a comprehension whose test holds of no item; what its turns do is told with the maker's state at hand -/
theorem lc_none {Q : VK} {elt tg iter : Expr} {ifs : List Expr} {scope : Scope} {own : List (Str × Nat)} {pos : Pos} {wi : TI} (hc : X.calm = true) (hN : X.N.Nodup) (I : Inv X pins σ H s) (hi : PI X tg iter wi) (ok : BlkOk X.N X.env.scope scope own)
    (hs : ∀ x, foldedSetIterable iter X.env x = pure x)
    (h : wi σ H fun J H2 => ∀ D, H2 D = none → ∃ Wv : Nat → Nat → Hp → Prop, (∃ m, Wv 0 m (upd H2 D (.lst []))) ∧ ∀ i m H', Wv i m H' → (J.stop i H' ∧ Q (.ref D) H') ∨ (J.go i H' ∧ ∃ Nx : Hp → Prop, (∀ H'', Nx H'' → ∃ m', m' < m ∧ Wv (i + 1) m' H'') ∧
      ∀ (s3 : Shared) (H3 : Hp) (K : Addr) (cl : List (Str × Addr)) (fp : List Addr), Inv X pins σ H3 s3 → (∀ b ∈ fp, FpOk X pins H3 b) → ∀ (pinsB : List (Addr × Obj)) (sB : Shared) (x : V) (u : Value) (H'' : Hp), J.yld i H' x H'' → Inv (X.blk s3 H3 scope (compEnvC scope cl K X.env) fp) pinsB (wipe σ (own.map (·.2))) H'' sB → RelV x u →
        wpAny (model X.prog X.w) X.A (assign tg (compEnvC scope cl K X.env) u) (fun _ s2 => wpAny (model X.prog X.w) X.A (testsOf ifs (compEnvC scope cl K X.env)) (fun b s4 => b = false ∧ ∃ σ4 H4, Inv (X.blk s3 H3 scope (compEnvC scope cl K X.env) fp) pinsB σ4 H4 s4 ∧ wipe σ4 (own.map (·.2)) = wipe σ (own.map (·.2)) ∧ Nx H4) (fun _ _ => False) s2) (fun _ _ => False) sB)) :
    wpAny (model X.prog X.w) X.A (eval (.ListComp elt [⟨tg, iter, ifs, 0⟩] scope pos) X.env) (EP X pins σ Q) X.xe s := by
  rw [eval_ListComp]
  have hfree : ∀ y ∈ scope.names, y.2 = .free → ∃ c, X.env.cells.lookup y.1 = some c := fun y hy e => by
    rcases ok.free y hy e with k | k
    · exact I.ok.has _ (.inl k)
    · exact I.ok.has _ (.inr k)
  refine wpAny_comprehension_free (use := none) rfl hs (closure_ok hfree) ok.kind (fun y hy e => by rw [ok.uniq y hy, e])
    (thn (hi.run pins s σ H _ I h) fun xv s1 hx => thn hx fun itv s2 h2 => ?_)
  obtain ⟨it, fp, tn, J, H2, rfl, I2, T, st2, f2, q⟩ := h2
  refine wpAny_newObj_type (newEnv_comp ?_) (by show 0 ≤ sizeLine; decide)
  obtain ⟨D, hD⟩ : ∃ D, D = s2.heap.objs.size := ⟨_, rfl⟩
  have hDn : H2 D = none := I2.hok.fresh (Nat.le_of_eq hD.symm)
  obtain ⟨Wv, ⟨m0, w0⟩, turn⟩ := q D hDn
  rw [← hD]
  obtain ⟨s3, hs3⟩ : ∃ s3 : Shared, s3 = { s2 with heap := s2.heap.push { cls := .type "list", data := .seq ([] : List Value).toArray } } := ⟨_, rfl⟩
  rw [← hs3]
  have I3 : Inv X pins σ (upd H2 D (.lst [])) s3 := by
    rw [hs3]
    refine I2.laid (t' := s2.toks) (fun b o e => Heap.get?_push_of_some _ e) (Nat.le_of_eq hD.symm) ⟨Nat.zero_le _, [], 0, .nil, ?_⟩
    rw [hD]
    exact Heap.get?_push_size _ rfl
  have h3 : s3.heap = s2.heap.push { cls := .type "list", data := .seq ([] : List Value).toArray } := by rw [hs3]
  have f3 : ∀ b ∈ fp, FpOk X pins (upd H2 D (.lst [])) b ∧ b < s3.heap.objs.size := fun b hb => by
    obtain ⟨o, e, _⟩ := T.obj _ _ st2 b hb
    have hlt := Heap.lt_size e
    refine ⟨⟨?_, (f2 b hb).2⟩, by rw [h3, Heap.size_push]; exact Nat.lt_succ_of_lt hlt⟩
    rw [upd_ne (by rw [hD]; exact Nat.ne_of_lt hlt)]
    exact (f2 b hb).1
  have st3 : tn 0 s3.heap := T.keep _ _ _ st2 fun b _ o e => by rw [h3]; exact Heap.get?_push_of_some _ e
  have I4 := block_start I3 ok hN f3
  obtain ⟨ce, hce⟩ : ∃ ce, ce = compEnvC scope (cellsFrom (s3.heap.objs.size + 1) scope.names (cloFrom X.env.cells scope.names [])) s3.heap.objs.size X.env := ⟨_, rfl⟩
  have cL : ce.locals = s3.heap.objs.size := by rw [hce]; rfl
  have turn' := fun i m H' wv => turn i m H' wv
  obtain ⟨s4, hs4⟩ : ∃ s4 : Shared, s4 = { s3 with heap := pushCells (s3.heap.push { cls := .type "dict", data := .dict #[] }) scope.names } := ⟨_, rfl⟩
  rw [← hce] at I4
  rw [← hs4] at I4
  show codeAny _ _ (.compStart (.ListComp elt [⟨tg, iter, ifs, 0⟩] scope pos) 0 (.ref it) (.ref D) (compEnvC scope (cellsFrom (s3.heap.objs.size + 1) scope.names (cloFrom X.env.cells scope.names [])) s3.heap.objs.size X.env)) (compPost (model X.prog X.w) X.A X.xe none (EP X pins σ Q) (.ref D) s3.heap.objs.size) { s3 with heap := pushCells (s3.heap.push { cls := .type "dict", data := .dict #[] }) scope.names }
  rw [← hce, ← hs4]
  have st4 : tn 0 s4.heap := T.keep _ _ _ st3 fun b _ o e => by rw [hs4]; exact pushCells_keeps _ _ _ _ (Heap.get?_push_of_some _ e)
  have stat : ∀ {σ' : L2.St} {H' : Hp} {s' : Shared}, Inv (X.blk s3 (upd H2 D (.lst [])) scope ce fp) [] σ' H' s' → (∀ b ∈ fp, H' b = none) → ∀ b ∈ fp, FpOk (X.blk s3 (upd H2 D (.lst [])) scope ce fp) [] H' b := fun {σ' H' s'} I' hn b hb =>
    ⟨hn b hb, (I'.ok.exf b hb).1, I'.ok.exfs b hb, .inl hb, fun x c e => (I'.ok.exf b hb).2 x c e, fun p hp => absurd (show p ∈ ([] : List (Addr × Obj)) ++ [] from hp) (by simp)⟩
  have loop : codeAny (model X.prog X.w) X.A (.compLoop (.ListComp elt [⟨tg, iter, ifs, 0⟩] scope pos) 0 (.ref it) (.ref D) ce) (compPost (model X.prog X.w) X.A X.xe none (EP X pins σ Q) (.ref D) s3.heap.objs.size) s4 := by
    refine compLoop_any (fun n s' => ∃ i H', Inv (X.blk s3 (upd H2 D (.lst [])) scope ce fp) [] (wipe σ (own.map (·.2))) H' s' ∧ tn i s'.heap ∧ (∀ b ∈ fp, H' b = none) ∧ Wv i n H') ?_ m0 ⟨0, _, I4, st4, fun b hb => (f3 b hb).1.1, w0⟩
    rintro n s5 ⟨i, H5, I5, st5, n5, w5⟩
    rcases turn i n H5 w5 with ⟨stop, qq⟩ | ⟨go, Nx, hNx, step⟩
    · refine thnF (T.done (X.blk s3 (upd H2 D (.lst [])) scope ce fp) rfl rfl rfl hc i [] s5 _ H5 (fun _ _ => False) I5 (stat I5 n5) st5 stop) fun r s6 ⟨hr, I6⟩ => ?_
      subst hr
      have I7 : Inv X pins σ H5 s6 := I3.call' (ch := fp) I6.os I6.base I6.hok I6.bare fun b hb => ⟨(f3 b hb).1.2.2.2.1, (f3 b hb).1.2.1, (f3 b hb).1.2.2.2.2.1, (f3 b hb).1.2.2.2.2.2⟩
      have nC : H5 s3.heap.objs.size = none := by
        have z : H5 ce.locals = none := I6.free
        rw [cL] at z
        exact z
      obtain ⟨m, hn, _⟩ := I6.loc
      have hn : s6.heap.Ns ce.locals m := hn
      rw [cL] at hn
      refine ⟨m, hn, fun h'' sb => ?_⟩
      obtain ⟨f0, f1, f2, f3, f4, f5⟩ := I3.fpOk (Nat.le_refl _) nC
      exact ⟨.ref D, H5, I7.turned (t' := s6.toks) (fun b o hb e => (sb.2 b hb).trans e) f0 f1 f3 f4 f5, rfl, qq⟩
    · refine thnF (T.item (X.blk s3 (upd H2 D (.lst [])) scope ce fp) rfl rfl rfl hc i [] s5 _ H5 (fun _ _ => False) I5 (stat I5 n5) st5 go) fun r s6 ⟨u, hr, h6⟩ => ?_
      subst hr
      refine thnF h6 fun _ s7 ⟨x, H7, I7, r7, y7, st7, n7⟩ => ?_
      have I7' := I7.pinned (stat I7 n7) (T.obj _ _ st7)
      have st := step s3 (upd H2 D (.lst [])) s3.heap.objs.size (cellsFrom (s3.heap.objs.size + 1) scope.names (cloFrom X.env.cells scope.names [])) fp I3 (fun b hb => (f3 b hb).1) _ s7 x u H7 y7 (hce ▸ I7') r7
      rw [← hce] at st
      refine thnF st fun _ s8 h8 => thnF h8 fun b s9 ⟨hb, σ9, H9, I9, hw9, nx⟩ => ?_
      subst hb
      simp only [Bool.false_eq_true, if_false]
      obtain ⟨m', hm, w'⟩ := hNx H9 nx
      have pin' : ∀ b ∈ fp, ∀ o, s7.heap.get? b = some o → s9.heap.get? b = some o ∧ H9 b = none := fun b hb o e =>
        let z := I9.pin (b, o) (List.mem_append_right _ (List.mem_append_right _ (mem_pinsAt hb e)))
        ⟨z.1, z.2.1⟩
      have hl : (wipe σ (own.map (·.2))).length = σ9.length := by rw [← hw9, wipe_length]
      refine ⟨m', hm, i + 1, H9, (I9.unpinned (pins := [])).weak hl (fun j v e => ?_), T.keep _ _ _ st7 fun b hb o e => (pin' b hb o e).1, fun b hb => ?_, w'⟩
      · rw [← hw9] at e
        exact (wipe_some e).1
      · obtain ⟨o, e, _⟩ := T.obj _ _ st7 b hb
        exact (pin' b hb o e).2
  exact codeAny_compStart_list loop (T.self X.A 0 _ _ _ st4 loop)
end
abbrev LTab := Nat → Arguments × Expr × Scope
def CloAt (X : Cx) (tab : LTab) : Nat → V → Hp → Prop := fun i v G => ∃ (f c' : Addr) (pm ctv : Value), v = .ref f ∧ G f = some (CloO f (cloObj X (tab i).1 (tab i).2.1 (tab i).2.2 pm c' ctv)) ∧ G c' = some (CodeO c' (X.env.qual ++ "<lambda>"))
theorem CloAt.up {X : Cx} {tab : LTab} : ∀ i v H H', CloAt X tab i v H → (∀ a o, H a = some o → (∀ ps, o ≠ .tbl ps) → H' a = some o) → CloAt X tab i v H' := fun i v H H' h k => by
  obtain ⟨f, c', pm, ctv, e, h1, h2⟩ := h
  exact ⟨f, c', pm, ctv, e, k _ _ h1 cloO_ne, k _ _ h2 LamX.codeO_ne⟩
/-- a frame whose slots may hold lists of the lambdas of tab -/
def ccL (C : Cb) (N : List Str) (vs : List V) (X : Cx) (tab : LTab) : Cc := { C with pin := start N vs, lam := CloAt X tab, lamUp := CloAt.up }
section
variable {X : Cx} {C : Cc} {tab : LTab} {c P : Addr}
/-- what a lambda asks -/
structure LamOk (X : Cx) (params : Arguments) (body : Expr) (scope : Scope) : Prop where
  L : LamS X.env.scope scope
  d : defaultsOf params X.env = ([], [])
  b : ∀ (q : Str) (cl : List (Str × Addr)) (pm cv ctv : Value), bindArgs (PySem.W.kla_fn "<lambda>" q params body scope cl pm cv ctv) ⟨[], []⟩ = pure []
def tLm1 (C : Cc) (i : Nat) : TE := fun σ H Q => ∃ G δ Fs, Wd G H (List.flatten Fs) ∧ Tbs C.toCb H ∧ Slots C G H σ δ Fs ∧ ∀ v G' H', Fw C.toCb G H Fs.flatten G' H' Fs.flatten → Slots C G' H' σ δ Fs → C.lam i v G' → Q v H'
def tLms (C : Cc) (ids : List Nat) : TA := fun σ H Q => ∃ G δ Fs, Wd G H (List.flatten Fs) ∧ Tbs C.toCb H ∧ Slots C G H σ δ Fs ∧ ∀ vs G' H', Fw C.toCb G H Fs.flatten G' H' Fs.flatten → Slots C G' H' σ δ Fs → Lams C G' vs ids → Q vs H'
theorem pe_lm {params : Arguments} {body : Expr} {scope : Scope} {pos : Pos} {i : Nat} (S : LSide X C c P) (hl : C.lam = CloAt X tab) (ok : LamOk X params body scope) (ht : tab i = (params, body, scope)) : PE X (.Lambda params body scope pos) (tLm1 C i) := by
  refine ⟨fun pins s σ H Q I ⟨G, δ, Fs, wd, tt, sl, out⟩ => ?_⟩
  refine lam_new S I wd tt ok.d (ok.L.has I.ok) fun f c' pm ctv G2 H2 s' I2 fw hf hc hfr keep => ⟨.ref f, H2, I2, rfl, out (.ref f) G2 H2 fw (sl.mono fw.gs fun a o _ e t => keep a o e t) ?_⟩
  rw [hl]
  exact ⟨f, c', pm, ctv, rfl, by rw [ht]; exact hf, hc⟩
theorem pa_lnil : PA X [] (tLms C []) := PA.imp pa_nil fun σ H Q ⟨G, δ, Fs, wd, tt, sl, out⟩ => out [] G H (Fw.refl wd) sl trivial
theorem pa_lcons {params : Arguments} {body : Expr} {scope : Scope} {pos : Pos} {i : Nat} {ids : List Nat} {es : List Expr} (S : LSide X C c P) (hl : C.lam = CloAt X tab) (ok : LamOk X params body scope) (ht : tab i = (params, body, scope)) (hr : PA X es (tLms C ids))
    (hs : starEach (.Lambda params body scope pos :: es) X.env = (false, eval (.Lambda params body scope pos) X.env) :: starEach es X.env := by rfl) : PA X (.Lambda params body scope pos :: es) (tLms C (i :: ids)) := by
  refine PA.imp (pa_cons (pe_lm (pos := pos) (i := i) S hl ok ht) hr hs) fun σ H Q ⟨G, δ, Fs, wd, tt, sl, out⟩ => ⟨G, δ, Fs, wd, tt, sl, fun v G1 H1 w1 s1 l1 => ⟨G1, δ, Fs, w1.wd, w1.tt tt, s1, fun vs G2 H2 w2 s2 l2 => ?_⟩⟩
  exact out (v :: vs) G2 H2 (w1.trans w2) s2 ⟨C.lamUp _ _ _ _ l1 fun a o e _ => w2.gs a o e, l2⟩
theorem Lams.len {G : Hp} : ∀ {vs : List V} {ids : List Nat}, Lams C G vs ids → vs.length = ids.length
  | [], [], _ => rfl
  | v :: vs, i :: ids, h => by simp [Lams.len h.2]
  | [], _ :: _, h => h.elim
  | _ :: _, [], h => h.elim
theorem Lams.app {G : Hp} : ∀ {vs ws : List V} {is js : List Nat}, Lams C G vs is → Lams C G ws js → Lams C G (vs ++ ws) (is ++ js)
  | [], _, [], _, _, h => h
  | v :: vs, _, i :: is, _, h, h' => ⟨h.1, Lams.app h.2 h'⟩
  | [], _, _ :: _, _, h, _ => h.elim
  | _ :: _, _, [], _, h, _ => h.elim
def sLm (i : Nat) (ids : List Nat) : Sls → RS := fun δ => match δ[i]? with
  | some (.s true _) => .bad
  | some _ => if ids.length ≤ 1000 then .nx (δ.set i (.lm ids)) else .bad
  | none => .bad
theorem sz1000 {n : Nat} (h : n ≤ 1000) : n ≤ sizeLine := Nat.le_trans h (by rw [sizeLine_eq]; decide)
/-- a list of closures is stored -/
theorem lm_store {W : WX} {D : Ends} {σ : L2.St} {G H G1 H1 : Hp} {δ : Sls} {Fs : List (List Addr)} {i : Nat} {ids : List Nat} {vs : List V} {p : Addr} (hi : ∃ s, δ[i]? = some s) (out : OutS C W G H Fs.flatten D (.nx (δ.set i (.lm ids)))) (w : Fw C.toCb G H Fs.flatten G1 H1 Fs.flatten) (s1 : Slots C G1 H1 σ δ Fs) (l : Lams C G1 vs ids) (hp : H1 p = none) :
    D.nx (σ.set i (some (.ref p))) (upd H1 p (.lst vs)) := by
  have fn := Fw.newG (C := C.toCb) (o := .lst vs) (wd_nil w.wd) hp (fun _ z => by cases z)
  have fn2 := fn.frame (B := Fs.flatten) (by rw [List.nil_append]; exact w.wd)
  rw [List.nil_append] at fn2
  obtain ⟨s, hs⟩ := hi
  obtain ⟨pp, x, f, h0, h1, h2, _⟩ := SlotsP.get s1 hs
  have pm := flat_perm h2
  have w2 := (w.trans fn2).perm pm
  have s2 : Slots C (upd G1 p (.lst vs)) (upd H1 p (.lst vs)) (σ.set i (some (.ref p))) (δ.set i (.lm ids)) (Fs.set i []) := SlotsP.set (x := some (.ref p)) (s := .lm ids) (f := []) i (s1.mono fn.gs fun a o _ e t => fn.hs a o e (by simp) t) fun pin _ => ⟨p, vs, rfl, upd_same, l.mono fn.gs, rfl⟩
  exact out _ _ _ _ w2.right s2
theorem ss_lamset {e : Expr} {es : List Expr} {st : Stmt} {i : Nat} {ids : List Nat} {pos : Pos} (he : e = .List es pos) (ha : PA X es (tLms C ids)) (hp : ∀ {te : TE}, PE X e te → PS X st (tAsg te (gName i))) : SS X C st (sLm i ids) := by
  subst he
  refine ⟨fun W tk => PS.imp (hp (pe_lst ha)) fun D σ H ⟨G, δ, Fs, wd, tt, sl, out⟩ => ?_⟩
  unfold sLm at out
  split at out
  · exact out.elim
  · rename_i _ hd
    split at out
    rotate_left
    · exact out.elim
    rename_i hle
    exact ⟨G, δ, Fs, wd, tt, sl, fun vs G1 H1 w1 s1 l1 => ⟨sz1000 (by rw [l1.len]; exact hle), fun p hp => lm_store ⟨_, hd⟩ out w1 s1 l1 hp⟩⟩
  · exact out.elim
def sLmCat (i : Nat) (ids : List Nat) : Sls → RS := fun δ => match δ[i]? with
  | some (.lm is) => if (is ++ ids).length ≤ 1000 then .nx (δ.set i (.lm (is ++ ids))) else .bad
  | _ => .bad
theorem ss_lamcat {e : Expr} {es : List Expr} {st : Stmt} {x : Str} {i : Nat} {ids : List Nat} {p1 p2 p3 : Pos} (he : e = .BinOp (.Name x p1) .Add (.List es p2) p3) (hv : PE X (.Name x p1) (tVar i)) (ha : PA X es (tLms C ids)) (hp : ∀ {te : TE}, PE X e te → PS X st (tAsg te (gName i))) : SS X C st (sLmCat i ids) := by
  subst he
  refine ⟨fun W tk => PS.imp (hp (pe_op op_cat hv (pe_lst ha))) fun D σ H ⟨G, δ, Fs, wd, tt, sl, out⟩ => ?_⟩
  unfold sLmCat at out
  split at out
  · rename_i is hd
    split at out
    rotate_left
    · exact out.elim
    rename_i hle
    obtain ⟨pp, x, f, h0, h1, h2, a, us, rfl, ha, la, _⟩ := SlotsP.get sl hd
    refine ⟨.ref a, h1, G, δ, Fs, wd, tt, sl, fun vs G1 H1 w1 s1 l1 => ⟨sz1000 (by rw [l1.len]; simp only [List.length_append] at hle; omega), fun p hp => ?_⟩⟩
    have ha1 := w1.gs _ _ ha
    have fn := Fw.newG (C := C.toCb) (o := .lst vs) (wd_nil w1.wd) hp (fun _ z => by cases z)
    have fn2 := fn.frame (B := Fs.flatten) (by rw [List.nil_append]; exact w1.wd)
    rw [List.nil_append] at fn2
    have la2 : Lams C (upd G1 p (.lst vs)) us is := la.mono fun a o e => fn.gs _ _ (w1.gs _ _ e)
    refine ⟨a, p, us, vs, rfl, rfl, fn.wd.le _ _ (fn.gs _ _ ha1), upd_same, ?_, fun q hq => ?_⟩
    · rw [la.len, l1.len]
      simp only [List.length_append] at hle
      exact sz1000 hle
    · exact lm_store ⟨_, hd⟩ out (w1.trans fn2) (s1.mono fn.gs fun a o _ e t => fn.hs a o e (by simp) t) (Lams.app la2 (l1.mono fn.gs)) hq
  · exact out.elim
end
end Pv

set_option Elab.async false
set_option linter.all false
set_option maxRecDepth 100000
/-! PvV: [k for k, f in enumerate(bad) if told(f) != name]: all refused. -/
namespace Pv
open PySem PySem.Spec L2
open LamX (CodeO LamS lamEnv lamCx)
theorem wipe_eq {σ τ : L2.St} {vs : List Nat} (h : ∀ j, j ∉ vs → τ[j]? = σ[j]?) (hl : τ.length = σ.length) : wipe τ vs = wipe σ vs := by
  apply List.ext_getElem?
  intro j
  by_cases hj : j ∈ vs
  · have e1 : ∀ τ : L2.St, ∀ vs : List Nat, j ∈ vs → (wipe τ vs)[j]? = if j < τ.length then some none else none := by
      intro τ vs
      induction vs with
      | nil => intro h; cases h
      | cons v vs ih =>
        intro h
        show ((wipe τ vs).set v none)[j]? = _
        by_cases hv : v = j
        · subst hv
          by_cases hl : v < τ.length
          · rw [if_pos hl, List.getElem?_set_self (by rw [wipe_length]; exact hl)]
          · rw [if_neg hl, List.getElem?_eq_none (by rw [List.length_set, wipe_length]; omega)]
        · rw [List.getElem?_set_ne hv]
          exact ih ((List.mem_cons.mp h).resolve_left fun e => hv e.symm)
    rw [e1 τ vs hj, e1 σ vs hj, hl]
  · rw [wipe_out hj, wipe_out hj, h j hj]
section
variable {X : Cx} {C : Cc} {tab : LTab} {k : Nat}
/-- the j-th lambda does what fe tells -/
structure LamRun (X : Cx) (C : Cc) (k : Nat) (params : Arguments) (body : Expr) (scope : Scope) (fe : Sls → Res DV) : Prop where
  L : LamS X.env.scope scope
  b : ∀ (q : Str) (cl : List (Str × Addr)) (pm cv ctv : Value), bindArgs (PySem.W.kla_fn "<lambda>" q params body scope cl pm cv ctv) ⟨[], []⟩ = pure []
  run : ∃ U, ∀ (A : Around) (outer : List Env) (s : Shared) (H : Hp) (E : XK) (f c' : Addr), Room k (lamCx X A outer s H E scope f c').A → SE (lamCx X A outer s H E scope f c') C U body fe
inductive LRs (X : Cx) (C : Cc) (k : Nat) (tab : LTab) : Nat → List (Sls → Res DV) → Prop where
  | nil {j : Nat} : LRs X C k tab j []
  | cons {j : Nat} {fe : Sls → Res DV} {fes : List (Sls → Res DV)} : LamRun X C k (tab j).1 (tab j).2.1 (tab j).2.2 fe → LRs X C k tab (j + 1) fes → LRs X C k tab j (fe :: fes)
theorem LRs.get : ∀ {fes : List (Sls → Res DV)} {i j : Nat} {fe : Sls → Res DV}, LRs X C k tab i fes → fes[j]? = some fe → LamRun X C k (tab (i + j)).1 (tab (i + j)).2.1 (tab (i + j)).2.2 fe
  | _ :: _, i, 0, _, .cons h _, e => by simp at e; subst e; exact h
  | _ :: _, i, j + 1, _, .cons _ h, e => by
    have := LRs.get (j := j) h (by simpa using e)
    rwa [show i + 1 + j = i + (j + 1) by omega] at this
  | [], _, _, _, _, e => by simp at e
def refLoop (n : Nat) (sub : Nat → Bool) (y : List Nat) (fes : List (Sls → Res DV)) : List Nat → Sls → Option Sls
  | [], δ => some δ
  | j :: is, δ => match fes[j]? with
    | some fe => (match mTold n sub y fe δ with
      | .ok (.fr (.str z)) δ' => if z = y then refLoop n sub y fes is δ' else none
      | _ => none)
    | none => none
def mRefs (i n : Nat) (sub : Nat → Bool) (y : List Nat) (fes : List (Sls → Res DV)) : Sls → Res DV := fun δ => match δ[i]? with
  | some (.lm is) => (match refLoop n sub y fes is δ with
    | some δ' => .ok (.ow (.lst .own [])) δ'
    | none => .bad)
  | _ => .bad
theorem se_refs {elt : Expr} {scope : Scope} {own : List (Str × Nat)} {pos p pb pe p1 p2 p3 p4 p5 pt : Pos} {kt j0 : Nat} {kn fn bad : Str} {pk pf : Pos} {i ki fi n : Nat} {sub : Nat → Bool} {y : List Nat} {x e a : Str} {g CS : Addr} {fes : List (Sls → Res DV)}
    (hc : X.calm = true) (hN : X.N.Nodup) (hl : C.lam = CloAt X tab) (TT : ToldT C.toCb X.mg x g a e y CS n sub) (hK : X.K = C.K) (hr : Room (k + 2) X.A) (LS : LRs X C k tab 0 fes) (hg : Gl X "enumerate") (hm : X.mg "enumerate" = none) (hv : PE X (.Name bad pb) (tVar i)) (ok : BlkOk X.N X.env.scope scope own)
    (hpg : ∀ (s : Shared) (H : Hp) (K : Addr) (cl : List (Str × Addr)) (fp : List Addr), PG (X.blk s H scope (compEnvC scope cl K X.env) fp) (.Tuple [.Name kn pk, .Name fn pf] kt pt) (gTup X.K 2 (gCons (gName ki) (gCons (gName fi) gNil))))
    (hpf : ∀ (s : Shared) (H : Hp) (K : Addr) (cl : List (Str × Addr)) (fp : List Addr), PE (X.blk s H scope (compEnvC scope cl K X.env) fp) (.Name fn p2) (tVar fi))
    (hgl : ∀ (s : Shared) (H : Hp) (K : Addr) (cl : List (Str × Addr)) (fp : List Addr), Gl (X.blk s H scope (compEnvC scope cl K X.env) fp) x) (hki : ki ∈ own.map (·.2)) (hfi : fi ∈ own.map (·.2)) (hne : ki ≠ fi) (hfl : fi < X.N.length)
    (hs : ∀ v, foldedSetIterable (.Call (.Name "enumerate" p) [.Name bad pb] [] pe) X.env v = pure v) (hst : starEach [.Name bad pb] X.env = [(false, eval (.Name bad pb) X.env)] := by rfl) :
    SE X C (List.range X.N.length) (.ListComp elt [⟨.Tuple [.Name kn pk, .Name fn pf] kt pt, .Call (.Name "enumerate" p) [.Name bad pb] [] pe, [.Compare (.Call (.Name x p1) [.Name fn p2] [] p3) [.NotEq] [.Constant (.str (strV y)) j0 p4] p5], 0⟩] scope pos) (mRefs i n sub y fes) := by
  refine ⟨fun W tk => ⟨fun pins s σ H Q I h => ?_⟩⟩
  obtain ⟨G, δ, Fs, wd, tt, sl, out⟩ := h
  unfold mRefs at out
  split at out
  rotate_left
  · exact out.elim
  rename_i is hd
  cases hloop : refLoop n sub y fes is δ with
  | none => rw [hloop] at out; exact out.elim
  | some δe =>
  simp only [hloop] at out
  obtain ⟨pp, xo, f0, h0, h1, h2, aL, us, rfl, haL, la, _⟩ := SlotsP.get sl hd
  have lus := la.len
  have lδ := sl.len
  have lσ := I.len
  refine lc_none hc hN I (pi_enum hg hm (pa_cons hv pa_nil hst) hst) ok hs ?_
  refine ⟨.ref aL, h1, aL, us, rfl, .of (wd.le _ _ haL), fun D hD => ?_⟩
  have fD := Fw.new (C := C.toCb) (o := .lst []) (wd_nil wd) hD ⟨fun _ z => (by cases z), fun _ z => (by cases z)⟩
  have fD2 := fD.frame (B := Fs.flatten) (by rw [List.nil_append]; exact wd)
  rw [List.nil_append] at fD2
  have fD3 : Fw C.toCb G H Fs.flatten G (upd H D (.lst [])) (Fs.flatten ++ [D]) := fD2.perm List.perm_append_comm
  let St : Nat → Hp → Prop := fun i H' => i ≤ us.length ∧ ∃ G' δ' Fs', Fw C.toCb G H Fs.flatten G' H' (Fs'.flatten ++ [D]) ∧ Tbs C.toCb H' ∧ Slots C G' H' σ δ' Fs' ∧ H' D = some (.lst []) ∧ refLoop n sub y fes (is.drop i) δ' = some δe
  refine ⟨fun i m H' => m = us.length - i ∧ St i H', ⟨us.length, rfl, Nat.zero_le _, G, δ, Fs, fD3, fD3.tt tt, sl.mono fD.gs (fun a o _ e t => fD.hs a o e (by simp) t), upd_same, hloop⟩, ?_⟩
  rintro i m H' ⟨rfl, hi, G', δ', Fs', fw, tt', sl', hDl, hloop'⟩
  have haL' := fw.gs _ _ haL
  have la' : Lams C G' us is := la.mono fw.gs
  by_cases hn : i < us.length
  rotate_left
  · have e : i = us.length := by omega
    subst e
    refine .inl ⟨⟨us, .of (fw.wd.le _ _ haL'), Nat.le_refl _⟩, ?_⟩
    rw [List.drop_of_length_le (by omega)] at hloop'
    simp only [refLoop, Option.some.injEq] at hloop'
    subst hloop'
    refine out (.ref D) G' H' Fs' [D] fw sl' (fun j hj => ?_) ⟨D, [], rfl, hDl, Reps.nil_of.mpr rfl, rfl⟩
    have hjn : ¬ j < X.N.length := fun h => hj (List.mem_range.mpr h)
    have l2 := sl'.len
    refine ⟨by rw [List.getElem?_eq_none (by omega), List.getElem?_eq_none (by omega)], by rw [List.getElem?_eq_none (by omega), List.getElem?_eq_none (by omega)], fun f e => ?_⟩
    rw [List.getElem?_eq_none (by omega)] at e
    cases e
  · have hil : i < is.length := by omega
    rw [List.drop_eq_getElem_cons hil] at hloop'
    simp only [refLoop] at hloop'
    cases hfe : fes[is[i]]? with
    | none => simp only [hfe] at hloop'; cases hloop'
    | some fe =>
    simp only [hfe] at hloop'
    have LR := LS.get hfe
    rw [Nat.zero_add] at LR
    obtain ⟨U, hrun⟩ := LR.run
    have lamI : ∀ {G : Hp} {vs : List V} {is : List Nat} (i : Nat), Lams C G vs is → (hv : i < vs.length) → (hs : i < is.length) → C.lam is[i] vs[i] G := by
      intro G vs
      induction vs with
      | nil => intro is i _ hv; simp at hv
      | cons v vs ih =>
        intro is i l hv hs
        cases is with
        | nil => simp at hs
        | cons j is =>
          cases i with
          | zero => exact l.1
          | succ i => exact ih i l.2 (by simpa using hv) (by simpa using hs)
    have cl := lamI i la' hn hil
    rw [hl] at cl
    obtain ⟨f, c', pm, ctv, hfv, hcf, hcc⟩ := cl
    refine .inr ⟨⟨us, us[i], .of (fw.wd.le _ _ haL'), List.getElem?_eq_getElem hn⟩, St (i + 1), fun H'' hst => ⟨us.length - (i + 1), by omega, rfl, hst⟩, fun s3 H3 Kb clb fp I3 hfp pinsB sB xv u H'' hy IB rx => ?_⟩
    obtain ⟨Tt, xi, rfl, hTn, rfl, hxi⟩ := hy
    have hxi' := hxi us (.of (fw.wd.le _ _ haL'))
    rw [List.getElem?_eq_getElem hn] at hxi'
    have hxi2 : xi = .ref f := by rw [← hfv]; exact (Option.some.inj hxi').symm
    subst hxi2
    -- the yielded pair is frozen
    have fT := Fw.newG (C := C.toCb) (o := .tup [.int (i : Nat), .ref f]) (wd_nil fw.wd) hTn (fun _ z => by cases z)
    have fT2 := fT.frame (B := Fs'.flatten ++ [D]) (by rw [List.nil_append]; exact fw.wd)
    rw [List.nil_append] at fT2
    have fwT := fw.trans fT2
    have slT : Slots C _ _ σ δ' Fs' := sl'.mono fT.gs fun a o _ e t => fT.hs a o e (by simp) t
    have keepT : ∀ a o, H' a = some o → upd H' Tt (.tup [.int (i : Nat), .ref f]) a = some o := fun a o e => by rw [upd_ne (ne_of_none e hTn)]; exact e
    have wl : (wipe σ (own.map (·.2))).length = X.N.length := by rw [wipe_length]; exact lσ
    refine thnF ((hpg s3 H3 Kb clb fp).run pinsB sB _ _ (.ref Tt) u (fun σ' Hx => σ' = ((wipe σ (own.map (·.2))).set ki (some (.int (i : Nat)))).set fi (some (.ref f)) ∧ Hx = upd H' Tt (.tup [.int (i : Nat), .ref f])) IB rx ⟨Tt, [.int (i : Nat), .ref f], rfl, .of upd_same, rfl, .int (i : Nat), [.ref f], rfl, .ref f, [], rfl, rfl, rfl, rfl⟩) fun _ s5 ⟨σ5, H5, I5, e5, eH5⟩ => ?_
    subst e5 eH5
    have hslot : (((wipe σ (own.map (·.2))).set ki (some (.int (i : Nat)))).set fi (some (.ref f)))[fi]? = some (some (.ref f)) := List.getElem?_set_self (by rw [List.length_set, wl]; exact hfl)
    -- the call of the def that tells, in the block
    have pcall : PE (X.blk s3 H3 scope (compEnvC scope clb Kb X.env) fp) (.Call (.Name x p1) [.Name fn p2] [] p3) (fun σB HB Q => σB[fi]? = some (some (.ref f)) ∧ HB c' = some (CodeO c' (X.env.qual ++ "<lambda>")) ∧ HB f = some (CloO f (cloObj X (tab is[i]).1 (tab is[i]).2.1 (tab is[i]).2.2 pm c' ctv)) ∧ tG C rV (fun _ _ _ _ => False) (List.range X.N.length) (mTold n sub y fe) σ HB Q) := by
      refine ⟨fun pinsZ sZ σZ HZ QZ IZ ⟨hz1, hz2, hz3, hz4⟩ => ?_⟩
      refine wpAny_Call_Name_kw (ld_glob IZ (hgl s3 H3 Kb clb fp) TT.g ?_ TT.d1)
      refine PySem.W.callWith_K (h₀ := X.base) I.ok.mod.kin (by rw [hK]; exact TT.k) (thn ((pa_cons (hpf s3 H3 Kb clb fp) pa_nil).run p3 pinsZ sZ σZ HZ (fun vs Hx => vs = [.ref f] ∧ Hx = HZ) IZ ⟨.ref f, hz1, rfl, rfl⟩) fun usv s6 ⟨vs, H6, I6, r6, e6, eH6⟩ => ⟨I6.kIn, ?_⟩) (by rfl) (by rfl)
      subst e6 eH6
      cases r6 with
      | cons rf rn =>
        cases rn
        obtain rfl := rf
        have IX : Inv X pins σ H6 s6 := I3.call' (ch := fp) I6.os I6.base I6.hok I6.bare fun b hb => ⟨(hfp b hb).2.2.2.1, (hfp b hb).2.1, (hfp b hb).2.2.2.2.1, (hfp b hb).2.2.2.2.2⟩
        have tw : wpAny (model X.prog X.w) X.A (call (.ref g) [.ref f]) (fun u s' => CE X.stack X.prog X.w H6 s6 QZ u s') (fun _ _ => False) s6 := told_wp (X := X) TT hK IX LR.L LR.b hr (fun A outer s H E => hrun A outer s H E f c') (fun j hj => List.mem_range.mpr hj) hz2 hz3 hz4
        exact wpAny_mono tw (fun u s7 hq => I6.after hq) fun _ _ h => h
    refine thnF ((pts_one (pt_cmpR op_ne pcall pe_str (nomark _))).run pinsB s5 _ _ (fun b Hx => b = false ∧ St (i + 1) Hx) I5 ?_) fun b s7 ⟨H7, I7, hb, hst⟩ => ⟨hb, _, H7, I7, ?_, hst⟩
    · refine ⟨hslot, keepT _ _ (fw.wd.le _ _ hcc), keepT _ _ (fw.wd.le _ _ hcf), _, δ', Fs', fwT.wd.left, fwT.tt tt, slT, ?_⟩
      cases hm2 : mTold n sub y fe δ' with
      | bad => simp only [hm2] at hloop'; cases hloop'
      | er c δ2 => simp only [hm2] at hloop'; cases hloop'
      | ok z δ2 =>
        simp only [hm2] at hloop'
        split at hloop'
        · rename_i z' δ2' heq
          cases heq
          split at hloop'
          rotate_left
          · cases hloop'
          rename_i hzy
          subst hzy
          intro v G7 H7 Fs7 g7 w7 s7 k7 r7
          obtain ⟨⟨rv, _⟩, rfl⟩ := r7
          subst rv
          have w8 := w7.frame (B := [D]) fwT.wd
          rw [List.append_nil] at w8
          have hDl7 : H7 D = some (.lst []) := w7.hs D _ (keepT _ _ hDl) (fun m => fwT.wd.dis D m (List.mem_singleton.mpr rfl)) (fun _ z => by cases z)
          exact ⟨rfl, _, rfl, by simp, hn, G7, δ2, Fs7, fwT.trans w8, w8.tt (fwT.tt tt), s7, hDl7, hloop'⟩
        · cases hloop'
    · exact wipe_eq (fun j hj => by
        rw [List.getElem?_set_ne (fun e => hj (by rw [← e]; exact hfi)), List.getElem?_set_ne (fun e => hj (by rw [← e]; exact hki)), wipe_out hj]) (by simp [wipe_length])
end
end Pv

set_option Elab.async false
set_option linter.all false
set_option maxRecDepth 100000
/-! PvW: defs that keep lists of lambdas; defs that call themselves. -/
namespace Pv
open PySem PySem.Spec L2
section
variable {P : Program} {w : World} {C : Cb} {mg : Str → Option Value} {base : Heap}
theorem spF_bodyL {X : Cx} {tab : LTab} {N : List Str} {body : Sls → RS} {vs : List V} {H : Hp} {Q : VK} {E : XK} {n : Nat} (h : spF C n (mFun N.length body) vs H Q E) : tS (ccL C N vs X tab) (fun cls d _ H => E cls d H) body { nx := fun _ H' => Q .non H', rt := Q } (start N vs) H := by
  obtain ⟨hl, G, xs, gs, wd, tt, ar, out⟩ := h
  have lens := ar.len
  have flat : (gs ++ List.replicate (N.length - vs.length) []).flatten = gs.flatten := by simp
  have sl : Slots (ccL C N vs X tab) G H (start N vs) (entry N.length xs) (gs ++ List.replicate (N.length - vs.length) []) := by
    have e1 : entry N.length xs = xs.map argS ++ List.replicate (N.length - vs.length) .un := by
      unfold entry; rw [lens.1]
    rw [e1]
    exact SlotsP.app (C := ccL C N vs X tab) (args_slots (C := ccL C N vs X tab) ar) (SlotsP.nils _)
  refine ⟨G, entry N.length xs, gs ++ List.replicate (N.length - vs.length) [], by rw [flat]; exact wd, tt, sl, ?_⟩
  rw [flat]
  have pre : vs.map some <+: (ccL C N vs X tab).pin := ⟨_, rfl⟩
  unfold mFun at out
  cases e : body (entry N.length xs) with
  | nx δ =>
    rw [e] at out
    intro σ' G' H' Fs' w' s'
    cases e2 : finals xs δ with
    | none => simp only [e2] at out
    | some ys =>
      simp only [e2] at out
      obtain ⟨gs', r1, r2⟩ := finals_rep (C := ccL C N vs X tab) ar s' pre e2
      refine out .non G' H' gs' [] ?_ r1 ⟨⟨rfl, rfl⟩, rfl⟩
      rw [List.append_nil]
      exact w'.sub (r2.nodup w'.wd.nd) fun c h => r2.subset h
  | rt d δ =>
    rw [e] at out
    intro v σ' G' H' Fs' g w' s' r
    cases e2 : finals xs δ with
    | none => simp only [e2] at out
    | some ys =>
      simp only [e2] at out
      obtain ⟨gs', r1, r2⟩ := finals_rep (C := ccL C N vs X tab) ar s' pre e2
      have r3 : List.Sublist (gs'.flatten ++ g) (Fs'.flatten ++ g) := List.Sublist.append r2 (List.Sublist.refl _)
      exact out v G' H' gs' g (w'.sub (r3.nodup w'.wd.nd) fun c h => r3.subset h) r1 r
  | er c δ =>
    rw [e] at out
    intro σ' G' H' Fs' w' s'
    cases e2 : finals xs δ with
    | none => simp only [e2] at out
    | some ys =>
      simp only [e2] at out
      obtain ⟨gs', r1, r2⟩ := finals_rep (C := ccL C N vs X tab) ar s' pre e2
      exact out G' H' gs' (w'.sub (r2.nodup w'.wd.nd) fun c h => r2.subset h) r1
  | bk δ => rw [e] at out; exact out.elim
  | ct δ => rw [e] at out; exact out.elim
  | bad => rw [e] at out; exact out.elim
theorem FnTC.okL {x : Str} {st : Stmt} {a c : Addr} {N ps : List Str} {k : Nat} {body : Sls → RS} {tab : LTab} (T : FnTC C mg x st a c ps) (S : FnScope N ps (defScope st))
    (hb : ∀ (A : Around) (outer : List Env) (s : Shared) (H : Hp) (vs : List V) (E : XK), vs.length = ps.length → Room k (A.deeper (PyProof.Rows.envOfC x (defScope st) s.heap.objs.size a (.ref c))) →
      SSs (cxOf (L2.CX P w) P w C.K mg base N x (defScope st) a (.ref c) A outer s H E) (ccL C N vs (cxOf (L2.CX P w) P w C.K mg base N x (defScope st) a (.ref c) A outer s H E) tab) (defBody st) body) : OkF P w C mg base (k + 1) a ps ps.length (mFun N.length body) := by
  obtain ⟨oc, od, kV, doc, pm, an, ct, osl, lk, hcd⟩ := T.fn
  refine ⟨_, fn_of lk hcd S (fun vs H Q E h => h.1) (fun A outer s H vs Q E hr h => ?_), T.b _ (fun_mk lk hcd T.k), _, _, _, lk⟩
  have tk : Takes (cxOf (L2.CX P w) P w C.K mg base N x (defScope st) a (.ref c) A outer s H E) (fun cls d _ H => E cls d H) := takes_of rfl rfl rfl rfl
  exact ⟨_, (hb A outer s H vs E h.1 hr).run _ tk, spF_bodyL h⟩
/-- no promise: the depth is used up -/
theorem FnT.bad {x : Str} {st : Stmt} {a : Addr} {ps : List Str} {k : Nat} (T : FnT C mg x st a ps) : OkF P w C mg base k a ps ps.length (fun _ => .bad) := by
  obtain ⟨fd, F, b⟩ := T.fn
  refine ⟨fd, ⟨fun vs H Q E h => h.1, fun A outer s H args us vs Q E _ _ _ _ h => ?_⟩, b, .of F⟩
  obtain ⟨_, G, xs, gs, _, _, _, out⟩ := h
  exact out.elim
end
/-- the lambdas of a stored list -/
def lam3 (e : Expr) : Arguments × Expr × Scope := match e with
  | .Lambda p b s _ => (p, b, s)
  | e => ({ posonlyargs := [], args := [], vararg := none, kwonlyargs := [], kw_defaults := [], kwarg := none, defaults := [] }, e, { kind := .function, names := [], isGenerator := false, isCoroutine := false })
def lamsIn (st : Stmt) : List (Arguments × Expr × Scope) := match st with
  | .Assign _ (.List es _) _ => es.map lam3
  | .Assign _ (.BinOp _ _ (.List es _) _) _ => es.map lam3
  | _ => []
def stAt (s : Stmt) (k : Nat) : Stmt := (defBody s).getD k (.Pass ⟨0, 0, 0, 0⟩)
def lamNo : Arguments × Expr × Scope := lam3 (.Constant .none 0 ⟨0, 0, 0, 0⟩)
structure GenT (C : Cb) (mg : Str → Option Value) (base : Heap) (c P : Addr) : Prop where
  tb : GxR.TabB base mg c P
  mem : P ∈ C.TG
  lam : ∀ p ∈ C.TL, p.1 ≠ P
structure LamT (C : Cb) (mg : Str → Option Value) (base : Heap) (x : Str) (c P : Addr) : Prop where
  tb : LamX.TabB base mg c P
  mem : (P, (x ++ ".<locals>." : Str) ++ "<lambda>") ∈ C.TL
  one : ∀ p ∈ C.TL, p.1 = P → p.2 = (x ++ ".<locals>." : Str) ++ "<lambda>"
  gen : ∀ Q ∈ C.TG, Q ≠ P
end Pv

set_option Elab.async false
set_option linter.all false
set_option maxRecDepth 100000
/-! PvX: from the head's facts to the texts of defs; the law's end. -/
namespace Pv
open PySem PySem.Spec PyProof.Rows L2
section
variable {C : Cb} {h : Heap} {mg : Str → Option Value} {base : Heap} {x : Str} {st : Stmt} {ps : List Str}
/-- how a def's arguments are bound -/
def Bnd (x : Str) (st : Stmt) (ps : List Str) : Prop :=
  ∀ (kV doc pm : Value) (an : Option Addr) (cdv ct : Value) (us : List Value), us.length = ps.length → bindArgs (PySem.W.fnOf x x (defArgs st) (defBody st) (defScope st) .none kV doc pm an cdv ct) ⟨us, []⟩ = pure (ps.zip us)
theorem bnd_of {K : PySem.W.Frag} {a : Addr} (hb : Bnd x st ps) : ∀ fd, Fun K x x st a fd → Binds K fd ps [] := fun fd F => by
  obtain ⟨oc, od, kV, doc, pm, an, cdv, ct, osl, rfl, lk, hcd⟩ := F.1
  exact .all (hb kV doc pm an cdv ct)
def FnH (K : PySem.W.Frag) (x : Str) (st : Stmt) : Prop := ∃ fd, FunD K x x (defArgs st) (defBody st) (defScope st) [] [] (He.fAd K (x, none)) fd
theorem FnH.raw {K : PySem.W.Frag} (F : FnH K x st) : PySem.W.keepIn K (.ref (He.ga K x)) = true ∧ ∃ (oc : Value) (od : Option Addr) (kV doc pm : Value) (an : Option Addr) (cdv ct : Value) (osl : Array (Option Value)),
    K.lookup (He.ga K x) = some ⟨oc, od, .func (PySem.W.fnOf x x (defArgs st) (defBody st) (defScope st) .none kV doc pm an cdv ct), osl⟩ ∧ PySem.W.codeIn K cdv x = true := by
  obtain ⟨fd, F⟩ := F
  obtain ⟨oc, od, dV, kV, doc, pm, an, cdv, ct, osl, rfl, lk, hcd, hD, hK⟩ := F.ex
  rcases hD with ⟨_, rfl⟩ | ⟨e, _⟩
  · exact ⟨F.kp, _, _, _, _, _, _, _, _, _, lk, hcd⟩
  · exact absurd rfl e
theorem fnT_of (X : C.K.In h) (G : h.Ns mainGlobals mg) (g : (He.Fa.glo x).ok C.K = true) (F : FnH C.K x st) (hb : Bnd x st ps) : FnT C mg x st (He.ga C.K x) ps := by
  obtain ⟨kp, oc, od, kV, doc, pm, an, cdv, ct, osl, lk, hcd⟩ := F.raw
  have FF := fun_mk lk hcd kp
  exact ⟨He.glo_ok X G g, kp, _, FF, bnd_of hb _ FF⟩
theorem fnTC_of (X : C.K.In h) (G : h.Ns mainGlobals mg) (g : (He.Fa.glo x).ok C.K = true) (F : FnH C.K x st) (hb : Bnd x st ps) : FnTC C mg x st (He.ga C.K x) (He.codeOf C.K (x, none)) ps := by
  obtain ⟨kp, oc, od, kV, doc, pm, an, cdv, ct, osl, lk, hcd⟩ := F.raw
  obtain ⟨c, rfl⟩ := He.codeIn_ref hcd
  have e : He.codeOf C.K (x, none) = c := He.codeOf_eq lk rfl
  rw [e]
  exact ⟨He.glo_ok X G g, kp, ⟨oc, od, kV, doc, pm, an, ct, osl, lk, hcd⟩, bnd_of hb⟩
theorem conI_of (X : C.K.In h) (G : h.Ns mainGlobals mg) {i : Int} (c : (He.Fa.int x i).ok C.K = true) : ConT mg x (.int i) := by
  obtain ⟨t, e⟩ := He.int_ok X G c
  exact ⟨.int i, _, e, ⟨_, rfl⟩, fun _ _ _ => ⟨rfl, rfl⟩⟩
theorem conS_of (X : C.K.In h) (G : h.Ns mainGlobals mg) {z : List Nat} (c : (He.Fa.str x (strV z)).ok C.K = true) : ConT mg x (.str z) := by
  obtain ⟨t, e⟩ := He.str_ok X G c
  exact ⟨.str (strV z), _, e, ⟨_, rfl⟩, fun _ _ _ => ⟨rfl, rfl⟩⟩
theorem excT_of {i : Nat} (X : C.K.In h) (G : h.Ns mainGlobals mg) (he : C.exc i = He.ga C.K x) (g : (He.Fa.glo x).ok C.K = true) (c : (He.Fa.exc x).ok C.K = true) : ExcT C mg x i := by
  obtain ⟨e1, e2, e3, e4⟩ := He.exc_ok c
  rw [← he] at e1 e2 e3 e4
  refine ⟨by rw [he]; exact He.glo_ok X G g, ⟨He.veBase, e1, rfl⟩, e2, e3, e4⟩
theorem told_of {x a e : Str} {y : List Nat} {n : Nat} {sub : Nat → Bool} {CS : Addr} {p1 p2 p3 p4 p5 p6 p7 p8 : Pos} {j : Nat} (X : C.K.In h) (G : h.Ns mainGlobals mg) (g : (He.Fa.glo x).ok C.K = true) (F : FnH C.K x st) (hb : Bnd x st [a])
    (eb : defBody st = [.Try [.Return (some (.Call (.Name a p1) [] [] p2)) p3] [.ExceptHandler (some (.Name e p4)) none [.Return (some (.Constant (.str (strV y)) j p5)) p6] p7] [] [] p8])
    (S : FnScope [a] [a] (defScope st)) (V : Vis (defScope st) a) (L : (defScope st).names.lookup e = some .globalImplicit) (hcs : CS = He.ga C.K e) (ge : (He.Fa.glo e).ok C.K = true)
    (ex : ∀ c, c < n → PySem.W.exmOne C.K (.ref (C.exc c)) (.ref CS) = some (sub c)) (d1 : (x == ("__debug__" : Str)) = false) (d2 : (a == ("__debug__" : Str)) = false) (d3 : (a == ("__classdict__" : Str)) = false) (d4 : (e == ("__debug__" : Str)) = false) :
    ToldT C mg x (He.ga C.K x) a e y CS n sub := by
  obtain ⟨kp, oc, od, kV, doc, pm, an, cdv, ct, osl, lk, hcd⟩ := F.raw
  have b := bnd_of hb _ (fun_mk lk hcd kp)
  rw [eb] at lk b
  exact ⟨He.glo_ok X G g, kp, ⟨p1, p2, p3, p4, p5, p6, p7, p8, j, _, _, _, _, _, _, _, _, _, _, _, _, lk, hcd, b, S, V, L⟩, by rw [hcs]; exact He.glo_ok X G ge, ex, d1, d2, d3, d4⟩
/-- the frozen part of what is known -/
def noT (H : Hp) : Hp := fun b => match H b with
  | some (.tbl _) => none
  | o => o
theorem noT_le {H : Hp} {b : Addr} {o : HO} (e : noT H b = some o) : H b = some o ∧ ∀ ps, o ≠ .tbl ps := by
  unfold noT at e
  split at e
  · cases e
  · rename_i q
    exact ⟨e, fun ps z => q ps (by rw [e, z])⟩
theorem noT_of {H : Hp} {b : Addr} {o : HO} (e : H b = some o) (h : ∀ ps, o ≠ .tbl ps) : noT H b = some o := by
  unfold noT
  split
  · rename_i ps q
    rw [e] at q
    exact absurd (Option.some.inj q) (h ps)
  · exact e
theorem reps_ints {G H : Hp} : ∀ ns : List Int, Reps C G H (ns.map V.int) (ns.map D.int) []
  | [] => rfl
  | n :: ns => ⟨[], [], ⟨rfl, rfl⟩, reps_ints ns, rfl⟩
theorem lawAt {l : PySem.W.OpenLaw} {w : World} {a : Addr} {n k : Nat} {cs : List (Addr × Addr)} {F : List DV → RF} (hT : ∀ p ∈ cs, h.get? p.2 = some { cls := .none, data := .fields #[] }) (nT : ∀ p ∈ cs, C.K.lookup p.2 = none)
    (cd : ∀ p ∈ cs, PySem.W.CodeHd h p.1 p.2) (hTL : ∀ p ∈ C.TL, p.1 ∈ cs.map (·.2)) (hTG : ∀ P ∈ C.TG, P ∈ cs.map (·.2)) {x : Str}
    (hfd : ∃ fd, LkF C.K a fd ∧ ∀ (s : Shared) (u : Value), BindsTo s fd ⟨[u], []⟩ [(x, u)])
    (hF : ∀ ns : List Int, ns.length ≤ n → (∀ z ∈ ns, Builtin.Int.intBits z ≤ 1048576) → ∃ ys, F [.fr (.lst .ex (ns.map D.int))] = .ok (.fr (.bl true)) ys)
    (ok : ∀ base : Heap, C.K.In base → base.Ns mainGlobals mg → (∀ p ∈ cs, LamX.TabB base mg p.1 p.2) → OkF l.prog w C mg base k a [x] 1 F) : LamX.LawAtS l w C.K (L2.CX l.prog w) k n x mg a h := by
  obtain ⟨fd, lf, hb⟩ := hfd
  refine ⟨fd, cs, spF C 1 F, hT, nT, cd, hb, fun H a ns hl hz hH hS => ?_, fun base X G tb => ?_⟩
  · obtain ⟨ys, e⟩ := hF ns hl hz
    have hP : ∀ P, P ∈ cs.map (·.2) → H P = some (.tbl #[]) := fun P hp => by
      obtain ⟨p, hq, rfl⟩ := List.mem_map.mp hp
      exact hH p hq
    refine ⟨rfl, noT H, [.fr (.lst .ex (ns.map D.int))], [[]], ⟨fun b o e => (noT_le e).1, fun b ps e => (noT_le e).2 ps rfl, List.nodup_nil, fun b hb => (by cases hb), fun b hb => (by cases hb)⟩, ⟨fun p hp => LamX.TabS.nil (hP _ (hTL p hp)), fun P hp => ⟨#[], hP _ (hTG P hp), True.intro⟩⟩, ?_, ?_⟩
    · refine ⟨⟨⟨a, ns.map V.int, rfl, ?_, reps_ints ns, rfl⟩, rfl⟩, trivial⟩
      rcases hS with hR | hK
      · refine .inl ?_
        rcases hR with e | ⟨o, e⟩
        · exact .inl (noT_of e fun ps z => by cases z)
        · exact .inr ⟨o, noT_of e fun ps z => by cases z⟩
      · exact .inr hK
    · rw [e]
      intro v G' H' gs' g _ _ r
      exact r.1.1
  · obtain ⟨fd', F', _, lf'⟩ := ok base X G tb
    rw [lf.inj lf']
    exact F'
theorem lkfd {C : Cb} {x y : Str} {st : Stmt} {fd : FuncData} (F : FnH C.K x st) (hb : Bnd x st [y]) : ∃ fd, LkF C.K (He.ga C.K x) fd ∧ ∀ (s : Shared) (u : Value), BindsTo s fd ⟨[u], []⟩ [(y, u)] := by
  obtain ⟨kp, oc, od, kV, doc, pm, an, cdv, ct, osl, lk, hcd⟩ := F.raw
  exact ⟨_, ⟨_, _, _, lk⟩, fun s u => .of_eq (hb kV doc pm an cdv ct [u] rfl)⟩
theorem cx_never {P : Program} {w : World} {H : Hp} {s : Shared} {e : Value} {s' : Shared} (c : L2.CX P w [] H s (fun _ _ _ => False) e s') : False := by
  obtain ⟨_, _, _, _, _, _, _, _, _, _, _, _, h⟩ := c
  exact h
end
end Pv

set_option Elab.async false
set_option linter.all false
set_option maxRecDepth 100000
/-! PvY: plain steps: what the readings compute, where the slots are known. -/
namespace Pv
open PySem L2
theorem bind_ok {α β : Type} (a : α) (δ : Sls) (k : α → Sls → Res β) : (Res.ok a δ).bind k = k a δ := rfl
theorem bind_er {α β : Type} (c : Nat) (δ : Sls) (k : α → Sls → Res β) : (Res.er c δ : Res α).bind k = .er c δ := rfl
theorem bind_bad {α β : Type} (k : α → Sls → Res β) : (Res.bad : Res α).bind k = .bad := rfl
theorem thenS_ok {α : Type} (a : α) (δ : Sls) (k : α → Sls → RS) : (Res.ok a δ).thenS k = k a δ := rfl
theorem thenS_er {α : Type} (c : Nat) (δ : Sls) (k : α → Sls → RS) : (Res.er c δ : Res α).thenS k = .er c δ := rfl
theorem thenS_bad {α : Type} (k : α → Sls → RS) : (Res.bad : Res α).thenS k = .bad := rfl
theorem then_nx (δ : Sls) (k : Sls → RS) : (RS.nx δ).then k = k δ := rfl
theorem then_rt (d : DV) (δ : Sls) (k : Sls → RS) : (RS.rt d δ).then k = .rt d δ := rfl
theorem then_bk (δ : Sls) (k : Sls → RS) : (RS.bk δ).then k = .bk δ := rfl
theorem then_ct (δ : Sls) (k : Sls → RS) : (RS.ct δ).then k = .ct δ := rfl
theorem then_er (c : Nat) (δ : Sls) (k : Sls → RS) : (RS.er c δ).then k = .er c δ := rfl
theorem fin_some (z : DV) (δ : Sls) : fin (some z) δ = .ok z δ := rfl
theorem ofO_some (δ : Sls) : ofO (some δ) = .nx δ := rfl
theorem modI_p {i j : Int} (h : 0 < j) : modI i j = some (.int (i % j)) := by unfold modI; rw [if_pos h]
theorem divI_p {i j : Int} (h : 0 < j) (h2 : j.natAbs.log2 < 9000) : divI i j = some (.int (i / j)) := by unfold divI; rw [if_pos ⟨h, h2⟩]
theorem idivI_p {i j : Int} (h : 0 < j) (h2 : j < 1073741824) : idivI i j = some (.int (i / j)) := by unfold idivI; rw [if_pos ⟨h, h2⟩]
theorem imulI_r {i j : Int} (h : small j = true) : imulI i j = some (.int (i * j)) := by unfold imulI; rw [h, Bool.or_true, if_pos rfl]
theorem mulI_p {i j : Int} (h : okMul i j = true) : mulI i j = some (.int (i * j)) := by unfold mulI; rw [if_pos h]
theorem powI_p {i j : Int} (h : 0 ≤ j) (h2 : j ≤ 1000000) (h3 : i.natAbs < 2 ^ 64) : powI i j = some (.int (i ^ j.toNat)) := by unfold powI; rw [if_pos ⟨h, h2, h3⟩]
theorem dAdd_str {a b : List Nat} (h : a.length + b.length ≤ sizeLine) : dAdd (.fr (.str a)) (.fr (.str b)) = some (.fr (.str (a ++ b))) := by
  show (if a.length + b.length ≤ sizeLine then _ else _) = _
  rw [if_pos h]
theorem eqD_int (i j : Int) : eqD (.int i) (.int j) = some (decide (i = j)) := rfl
theorem eqD_str (a b : List Nat) : eqD (.str a) (.str b) = some (decide (a = b)) := rfl
theorem eqD_bl (a b : Bool) : eqD (.bl a) (.bl b) = some (a == b) := rfl
/-- a loop by what stands at each turn -/
theorem iterS_inv {s : DV → Sls → Option Sls} {body : Sls → RS} (St : Nat → Sls) : ∀ (xs : List DV) (k : Nat), (∀ i x, xs[i]? = some x → ∃ δ1, s x (St (k + i)) = some δ1 ∧ (body δ1 = .nx (St (k + i + 1)) ∨ body δ1 = .ct (St (k + i + 1)))) → iterS s body xs (St k) = .nx (St (k + xs.length))
  | [], k, _ => rfl
  | x :: xs, k, h => by
    obtain ⟨δ1, e1, e2⟩ := h 0 x rfl
    have r := iterS_inv St xs (k + 1) fun i y hy => by
      have := h (i + 1) y (by simpa using hy)
      rwa [show k + (i + 1) = k + 1 + i by omega] at this
    rw [show k + 1 + xs.length = k + (x :: xs).length by simp; omega] at r
    unfold iterS
    rw [show k + 0 = k from rfl] at e1 e2
    rcases e2 with e2 | e2 <;> simp only [e1, e2] <;> exact r
theorem iter_cons {s : DV → Sls → Option Sls} {body : Sls → RS} {x : DV} {xs : List DV} {δ δ1 : Sls} (h : s x δ = some δ1) : iterS s body (x :: xs) δ = (match body δ1 with
    | .nx δ2 => iterS s body xs δ2
    | .ct δ2 => iterS s body xs δ2
    | .bk δ2 => .nx δ2
    | m => m) := by
  simp only [iterS, h]
  try (cases body δ1 <;> rfl)
theorem sz0 : (0 ≤ sizeLine) = True := eq_true (by decide)
theorem sy0 : (0 < sizeLine) = True := eq_true (by decide)
theorem sz1 : (1 ≤ sizeLine) = True := eq_true (by decide)
theorem sy1 : (1 < sizeLine) = True := eq_true (by decide)
theorem sz2 : (2 ≤ sizeLine) = True := eq_true (by decide)
theorem sy2 : (2 < sizeLine) = True := eq_true (by decide)
theorem sz3 : (3 ≤ sizeLine) = True := eq_true (by decide)
theorem sy3 : (3 < sizeLine) = True := eq_true (by decide)
theorem sz4 : (4 ≤ sizeLine) = True := eq_true (by decide)
theorem sy4 : (4 < sizeLine) = True := eq_true (by decide)
theorem sz5 : (5 ≤ sizeLine) = True := eq_true (by decide)
theorem sy5 : (5 < sizeLine) = True := eq_true (by decide)
theorem sz6 : (6 ≤ sizeLine) = True := eq_true (by decide)
theorem sy6 : (6 < sizeLine) = True := eq_true (by decide)
theorem sz7 : (7 ≤ sizeLine) = True := eq_true (by decide)
theorem sy7 : (7 < sizeLine) = True := eq_true (by decide)
theorem sz8 : (8 ≤ sizeLine) = True := eq_true (by decide)
theorem sy8 : (8 < sizeLine) = True := eq_true (by decide)
theorem sz9 : (9 ≤ sizeLine) = True := eq_true (by decide)
theorem sy9 : (9 < sizeLine) = True := eq_true (by decide)
theorem sz10 : (10 ≤ sizeLine) = True := eq_true (by decide)
theorem sy10 : (10 < sizeLine) = True := eq_true (by decide)
theorem sz11 : (11 ≤ sizeLine) = True := eq_true (by decide)
theorem sy11 : (11 < sizeLine) = True := eq_true (by decide)
theorem sz12 : (12 ≤ sizeLine) = True := eq_true (by decide)
theorem sy12 : (12 < sizeLine) = True := eq_true (by decide)
theorem e_sSeq (f g : Sls → RS) (z : Sl) (ζ : Sls) : sSeq f g (z :: ζ) = (fun δ => (f δ).then g) (z :: ζ) := rfl
theorem e_sIf (c : Sls → Res Bool) (f g : Sls → RS) (z : Sl) (ζ : Sls) : sIf c f g (z :: ζ) = (fun δ => (c δ).thenS fun b δ => if b = true then f δ else g δ) (z :: ζ) := rfl
theorem e_sRt (f : Sls → Res DV) (z : Sl) (ζ : Sls) : sRt f (z :: ζ) = (fun δ => (f δ).thenS .rt) (z :: ζ) := rfl
theorem e_sSet (i : Nat) (f : Sls → Res DV) (z : Sl) (ζ : Sls) : sSet i f (z :: ζ) = (fun δ => (f δ).thenS fun x δ => sto i x δ) (z :: ζ) := rfl
theorem e_sto (i : Nat) (x : DV)  (z : Sl) (ζ : Sls) : sto i x (z :: ζ) = match (z :: ζ)[i]? with
  | some (.s true _) => .bad
  | some _ => .nx ((z :: ζ).set i (.s false x))
  | none => .bad := rfl
theorem e_sAug (i : Nat) (g : DV → DV → Option DV) (f : Sls → Res DV) (z : Sl) (ζ : Sls) : sAug i g f (z :: ζ) = (fun δ => match δ[i]? with
  | some (.s false (.fr d)) => (f δ).thenS fun x δ1 => match g (.fr d) x with
    | some z => sto i z δ1
    | none => .bad
  | _ => .bad) (z :: ζ) := rfl
theorem e_sFor (s : DV → Sls → Option Sls) (f : Sls → Res (List DV)) (body : Sls → RS) (z : Sl) (ζ : Sls) : sFor s f body (z :: ζ) = (fun δ => (f δ).thenS fun xs δ1 => iterS s body xs δ1) (z :: ζ) := rfl
theorem e_sPar (sts : List (DV → Sls → Option Sls)) (fs : Sls → Res (List OV)) (z : Sl) (ζ : Sls) : sPar sts fs (z :: ζ) = (fun δ => (fs δ).thenS fun os δ1 => ofO ((vals os).bind fun xs => stAll sts xs δ1)) (z :: ζ) := rfl
theorem e_sAsg (s : DV → Sls → Option Sls) (f : Sls → Res DV) (z : Sl) (ζ : Sls) : sAsg s f (z :: ζ) = (fun δ => (f δ).thenS fun x δ1 => ofO (s x δ1)) (z :: ζ) := rfl
theorem e_sEx (f : Sls → Res DV) (z : Sl) (ζ : Sls) : sEx f (z :: ζ) = (fun δ => (f δ).thenS fun _ δ => .nx δ) (z :: ζ) := rfl
theorem e_sNx  (z : Sl) (ζ : Sls) : sNx  (z :: ζ) = (fun δ => .nx δ) (z :: ζ) := rfl
theorem e_sRaise (c : Nat) (z : Sl) (ζ : Sls) : sRaise c (z :: ζ) = (fun δ => .er c δ) (z :: ζ) := rfl
theorem e_sItem (i : Nat) (fe fk : Sls → Res DV) (z : Sl) (ζ : Sls) : sItem i fe fk (z :: ζ) = (fun δ => (fe δ).thenS fun v δ1 => match lstAt δ1 i with
  | none => .bad
  | some _ => (fk δ1).thenS fun k δ2 => match lstAt δ2 i, k.d with
    | some (p, o, ds), .int j => match ixN ds.length j with
      | some n => .nx (δ2.set i (.s p (.ow (.lst (markOf o v) (ds.set n v.d)))))
      | none => .bad
    | _, _ => .bad) (z :: ζ) := rfl
theorem e_sAppend (i : Nat) (f : Sls → Res DV) (z : Sl) (ζ : Sls) : sAppend i f (z :: ζ) = (fun δ => match lstAt δ i with
  | none => .bad
  | some _ => (f δ).thenS fun v δ1 => match lstAt δ1 i with
    | some (p, o, ds) => if ds.length < sizeLine then .nx (δ1.set i (.s p (.ow (.lst (markOf o v) (ds ++ [v.d]))))) else .bad
    | none => .bad) (z :: ζ) := rfl
theorem e_sRtN  (z : Sl) (ζ : Sls) : sRtN  (z :: ζ) = (fun δ => .rt (.fr .non) δ) (z :: ζ) := rfl
theorem e_sBk  (z : Sl) (ζ : Sls) : sBk  (z :: ζ) = (fun δ => .bk δ) (z :: ζ) := rfl
theorem e_sCt  (z : Sl) (ζ : Sls) : sCt  (z :: ζ) = (fun δ => .ct δ) (z :: ζ) := rfl
theorem e_mC (x : D) (z : Sl) (ζ : Sls) : mC x (z :: ζ) = (fun δ => .ok (.fr x) δ) (z :: ζ) := rfl
theorem e_mRd (i : Nat) (z : Sl) (ζ : Sls) : mRd i (z :: ζ) = (fun δ => match δ[i]? with
  | some (.s _ (.fr d)) => .ok (.fr d) δ
  | _ => .bad) (z :: ζ) := rfl
theorem e_mFz (i : Nat) (z : Sl) (ζ : Sls) : mFz i (z :: ζ) = (fun δ => match δ[i]? with
  | some (.s _ (.fr d)) => .ok (.fr d) δ
  | some (.s p (.ow d)) => frz i p d δ
  | _ => .bad) (z :: ζ) := rfl
theorem e_frz (i : Nat) (p : Bool) (d : D)  (z : Sl) (ζ : Sls) : frz i p d (z :: ζ) = .ok (.fr (fz d)) ((z :: ζ).set i (.s p (.fr (fz d)))) := rfl
theorem e_mMv (i : Nat) (z : Sl) (ζ : Sls) : mMv i (z :: ζ) = (fun δ => match δ[i]? with
  | some (.s _ (.fr d)) => .ok (.fr d) δ
  | some (.s false (.ow d)) => .ok (.ow d) (δ.set i .un)
  | some (.s true (.ow d)) => frz i true d δ
  | _ => .bad) (z :: ζ) := rfl
theorem e_mVal (f : Sls → Res DV) (z : Sl) (ζ : Sls) : mVal f (z :: ζ) = (fun δ => (f δ).bind fun x δ => .ok (.val x) δ) (z :: ζ) := rfl
theorem e_mAt (i : Nat) (z : Sl) (ζ : Sls) : mAt i (z :: ζ) = (fun δ => match δ[i]? with
  | some (.s _ _) => .ok (.at i) δ
  | _ => .bad) (z :: ζ) := rfl
theorem e_mOp2 (g : DV → DV → Option DV) (fa fb : Sls → Res OV) (z : Sl) (ζ : Sls) : mOp2 g fa fb (z :: ζ) = (fun δ => (fa δ).bind fun a δ1 => (fb δ1).bind fun b δ2 => fin ((see δ2 a).bind fun x => (see δ2 b).bind fun y => g x y) δ2) (z :: ζ) := rfl
theorem e_mOp1 (g : DV → Option DV) (fa : Sls → Res OV) (z : Sl) (ζ : Sls) : mOp1 g fa (z :: ζ) = (fun δ => (fa δ).bind fun a δ1 => fin ((see δ1 a).bind fun x => g x) δ1) (z :: ζ) := rfl
theorem e_tst (f : Sls → Res DV) (z : Sl) (ζ : Sls) : tst f (z :: ζ) = (fun δ => (f δ).bind fun x δ => match x with
  | .fr (.bl b) => .ok b δ
  | _ => .bad) (z :: ζ) := rfl
theorem e_cond {α : Type} (fa : Sls → Res Bool) (fb fc : Sls → Res α) (z : Sl) (ζ : Sls) : cond fa fb fc (z :: ζ) = (fun δ => (fa δ).bind fun c δ1 => if c = true then fb δ1 else fc δ1) (z :: ζ) := rfl
theorem e_mT (b : Bool) (z : Sl) (ζ : Sls) : mT b (z :: ζ) = (fun δ => .ok b δ) (z :: ζ) := rfl
theorem e_mCh (g g' : DV → DV → Option DV) (fa fb fc : Sls → Res OV) (z : Sl) (ζ : Sls) : mCh g g' fa fb fc (z :: ζ) = (fun δ => (fa δ).bind fun a δ1 => (fb δ1).bind fun b δ2 =>
  match (see δ2 a).bind fun x => (see δ2 b).bind fun y => g x y with
  | some (.fr (.bl true)) => (fc δ2).bind fun c δ3 => fin ((see δ3 b).bind fun y => (see δ3 c).bind fun z => g' y z) δ3
  | some (.fr (.bl false)) => .ok (.fr (.bl false)) δ2
  | _ => .bad) (z :: ζ) := rfl
theorem e_mNil  (z : Sl) (ζ : Sls) : mNil  (z :: ζ) = (fun δ => .ok [] δ) (z :: ζ) := rfl
theorem e_mCons (fo : Sls → Res OV) (fs : Sls → Res (List OV)) (z : Sl) (ζ : Sls) : mCons fo fs (z :: ζ) = (fun δ => (fo δ).bind fun a δ1 => (fs δ1).bind fun as δ2 => .ok (a :: as) δ2) (z :: ζ) := rfl
theorem e_mCallN (g : List DV → Option DV) (fs : Sls → Res (List OV)) (z : Sl) (ζ : Sls) : mCallN g fs (z :: ζ) = (fun δ => (fs δ).bind fun as δ1 => fin ((sees δ1 as).bind g) δ1) (z :: ζ) := rfl
theorem e_mDisp (mk : List DV → DV) (fs : Sls → Res (List OV)) (z : Sl) (ζ : Sls) : mDisp mk fs (z :: ζ) = (fun δ => (fs δ).bind fun as δ1 => fin ((vals as).bind fun xs => if xs.length ≤ sizeLine then some (mk xs) else none) δ1) (z :: ζ) := rfl
theorem e_stoO (i : Nat) (x : DV)  (z : Sl) (ζ : Sls) : stoO i x (z :: ζ) = match (z :: ζ)[i]? with
  | some (.s true _) => none
  | some _ => some ((z :: ζ).set i (.s false x))
  | none => none := rfl
theorem e_stTup (sts : List (DV → Sls → Option Sls)) (x : DV) (z : Sl) (ζ : Sls) : stTup sts x (z :: ζ) = (kidVs x).bind fun xs => stAll sts xs (z :: ζ) := rfl
theorem e_mRange (g : List DV → Option (List DV)) (fs : Sls → Res (List OV)) (z : Sl) (ζ : Sls) : mRange g fs (z :: ζ) = (fun δ => (fs δ).bind fun os δ1 => match (sees δ1 os).bind g with
  | some xs => .ok xs δ1
  | none => .bad) (z :: ζ) := rfl
theorem e_lstAt  (i : Nat) (z : Sl) (ζ : Sls) : lstAt (z :: ζ) i = match (z :: ζ)[i]? with
  | some (.s p (.ow (.lst .own ds))) => some (p, .own, ds)
  | some (.s p (.ow (.lst .deep ds))) => some (p, .deep, ds)
  | _ => none := rfl
theorem e_callIt (A : List Nat) (n : Nat) (F : List DV → RF) (os : List OV)  (z : Sl) (ζ : Sls) : callIt A n F os (z :: ζ) = if (atsOk A os && os.length == n) = true then match takes os (z :: ζ) with
  | some (xs, δ2) => match F xs with
    | .ok d ys => .ok d (back (z :: ζ) os ys δ2)
    | .er c ys => .er c (back (z :: ζ) os ys δ2)
    | .bad => .bad
  | none => .bad else .bad := rfl
theorem e_mCallF (A : List Nat) (n : Nat) (F : List DV → RF) (fs : Sls → Res (List OV)) (z : Sl) (ζ : Sls) : mCallF A n F fs (z :: ζ) = (fun δ => (fs δ).bind fun os δ1 => callIt A n F os δ1) (z :: ζ) := rfl
theorem e_mNoP  (z : Sl) (ζ : Sls) : mNoP  (z :: ζ) = (fun δ => .ok none δ) (z :: ζ) := rfl
theorem e_mSomeP (f : Sls → Res DV) (z : Sl) (ζ : Sls) : mSomeP f (z :: ζ) = (fun δ => (f δ).bind fun x δ1 => match x.d with
  | .int i => .ok (some i) δ1
  | _ => .bad) (z :: ζ) := rfl
theorem e_mSl (fo : Sls → Res OV) (fl fh : Sls → Res (Option Int)) (z : Sl) (ζ : Sls) : mSl fo fl fh (z :: ζ) = (fun δ => (fo δ).bind fun a δ1 => (fl δ1).bind fun lo δ2 => (fh δ2).bind fun hi δ3 => fin ((see δ3 a).bind fun x => dSl x lo hi) δ3) (z :: ζ) := rfl
theorem e_mWalk (f : Sls → Res DV) (z : Sl) (ζ : Sls) : mWalk f (z :: ζ) = (fun δ => (f δ).bind fun x δ1 => match walkD x with
  | some xs => .ok xs δ1
  | none => .bad) (z :: ζ) := rfl
theorem e_mComp (s : DV → Sls → Option Sls) (fi : Sls → Res (List DV)) (ft : Sls → Res Bool) (fe : Sls → Res DV) (vs : List Nat) (z : Sl) (ζ : Sls) : mComp s fi ft fe vs (z :: ζ) = (fun δ => (fi δ).bind fun xs δ1 =>
  if okOwn δ1 vs = true then (match compIt s ft fe vs xs (wipeS δ1 vs) [] with
    | .ok acc δ2 => .ok (mkL acc) (restore δ1 vs δ2)
    | _ => .bad) else .bad) (z :: ζ) := rfl
theorem e_mGen (n : Nat) (caps : List Nat) (s : DV → Sls → Option Sls) (fi : Sls → Res (List DV)) (ft : Sls → Res Bool) (fe : Sls → Res DV) (kf : List D → Bool → Option DV) (z : Sl) (ζ : Sls) : mGen n caps s fi ft fe kf (z :: ζ) = (fun δ => (fi δ).bind fun xs δ1 =>
  if capsOk δ1 caps = true then (match genIt s ft fe xs (gSl n δ1 caps) with
    | (ys, e) => fin (kf ys e) δ1) else .bad) (z :: ζ) := rfl
theorem e_mTold (n : Nat) (sub : Nat → Bool) (y : List Nat) (fe : Sls → Res DV) (z : Sl) (ζ : Sls) : mTold n sub y fe (z :: ζ) = (fun δ => match fe δ with
  | .er c δ' => if c < n ∧ sub c = true then .ok (.fr (.str y)) δ' else .bad
  | m => m) (z :: ζ) := rfl
theorem e_sTry (n : Nat) (sub : Nat → Bool) (body suite : Sls → RS) (z : Sl) (ζ : Sls) : sTry n sub body suite (z :: ζ) = (fun δ => match body δ with
  | .er c δ' => if c < n then (if sub c = true then (match suite δ' with
    | .er _ _ => .bad
    | m => m) else .er c δ') else .bad
  | m => m) (z :: ζ) := rfl
theorem e_capsOk  (caps : List Nat) (z : Sl) (ζ : Sls) : capsOk (z :: ζ) caps = caps.all fun k => match (z :: ζ)[k]? with
  | some (.s _ _) => true
  | _ => false := rfl
theorem e_dLt (x y : DV) : dLt x y = ints2 (fun i j => some (.bl (decide (i < j)))) x y := rfl
theorem e_dLe (x y : DV) : dLe x y = ints2 (fun i j => some (.bl (decide (i ≤ j)))) x y := rfl
theorem e_dGt (x y : DV) : dGt x y = ints2 (fun i j => some (.bl (decide (j < i)))) x y := rfl
theorem e_dGe (x y : DV) : dGe x y = ints2 (fun i j => some (.bl (decide (j ≤ i)))) x y := rfl
theorem e_dSub (x y : DV) : dSub x y = ints2 (fun i j => some (.int (i - j))) x y := rfl
theorem e_dMax2 (x y : DV) : dMax2 x y = ints2 (fun i j => some (.int (if j > i then j else i))) x y := rfl
theorem e_dMin2 (x y : DV) : dMin2 x y = ints2 (fun i j => some (.int (if j < i then j else i))) x y := rfl
theorem e_mNot (f : Sls → Res Bool) (z : Sl) (ζ : Sls) : mNot f (z :: ζ) = cond f (mT false) (mT true) (z :: ζ) := rfl
theorem e_mB (b : Bool) (z : Sl) (ζ : Sls) : mB b (z :: ζ) = .ok (.fr (.bl b)) (z :: ζ) := rfl
theorem e_mJoin (sep : List Nat) (fa : Sls → Res OV) (z : Sl) (ζ : Sls) : mJoin sep fa (z :: ζ) = mOp1 (dJoin sep) fa (z :: ζ) := rfl
end Pv

set_option Elab.async false
set_option linter.all false
set_option maxRecDepth 100000
/-! PvZ: plain lemmas: ranges, generators, ==. -/
namespace Pv
open PySem L2 PyProof.Rows
def tn : Nat → Sl
  | 0 => .un
  | i + 1 => .s false (.fr (.int (i : Int)))
theorem rg_get {lo : Int} {n i : Nat} {x : DV} (h : (rgItems lo n)[i]? = some x) : i < n ∧ x = .fr (.int (lo + i)) := by
  have hl : i < n := by
    have := (List.getElem?_eq_some_iff.mp h).1
    simpa [rgItems] using this
  refine ⟨hl, ?_⟩
  unfold rgItems at h
  rw [List.getElem?_map, List.getElem?_range' hl] at h
  simp at h
  exact h.symm
theorem rg_len {lo : Int} {n : Nat} : (rgItems lo n).length = n := by simp [rgItems]
theorem genIt_all {s : DV → Sls → Option Sls} {ft : Sls → Res Bool} {fe : Sls → Res DV} {P : Sls → Prop} {g : DV → D} : ∀ {xs : List DV} {δ : Sls}, (∀ x ∈ xs, ∀ δ, P δ → ∃ δ1 δ2 δ3 y, s x δ = some δ1 ∧ ft δ1 = .ok true δ2 ∧ fe δ2 = .ok y δ3 ∧ fz y.d = g x ∧ P δ3) → P δ → genIt s ft fe xs δ = (xs.map g, true)
  | [], δ, _, _ => rfl
  | x :: xs, δ, h, p => by
    obtain ⟨δ1, δ2, δ3, y, e1, e2, e3, e4, p3⟩ := h x List.mem_cons_self δ p
    have r := genIt_all (xs := xs) (δ := δ3) (fun z hz => h z (List.mem_cons_of_mem _ hz)) p3
    simp only [genIt, e1, e2, e3, r, e4, List.map_cons]
theorem genIt_none {s : DV → Sls → Option Sls} {ft : Sls → Res Bool} {fe : Sls → Res DV} {P : Sls → Prop} : ∀ {xs : List DV} {δ : Sls}, (∀ x ∈ xs, ∀ δ, P δ → ∃ δ1 δ2, s x δ = some δ1 ∧ ft δ1 = .ok false δ2 ∧ P δ2) → P δ → genIt s ft fe xs δ = ([], true)
  | [], δ, _, _ => rfl
  | x :: xs, δ, h, p => by
    obtain ⟨δ1, δ2, e1, e2, p3⟩ := h x List.mem_cons_self δ p
    have r := genIt_none (fe := fe) (xs := xs) (δ := δ2) (fun z hz => h z (List.mem_cons_of_mem _ hz)) p3
    simp only [genIt, e1, e2, r]
theorem anyD_no : ∀ {ds : List D}, (∀ d ∈ ds, d = .bl false) → anyD ds true = some false
  | [], _ => rfl
  | d :: ds, h => by
    rw [h d List.mem_cons_self]
    simp only [anyD]
    exact anyD_no fun z hz => h z (List.mem_cons_of_mem _ hz)
/-- a list comprehension that keeps every item -/
theorem compIt_all {s : DV → Sls → Option Sls} {ft : Sls → Res Bool} {fe : Sls → Res DV} {vs : List Nat} {P : Sls → Prop} {g : DV → DV} : ∀ {xs : List DV} {δ : Sls} {acc : List DV}, (∀ x ∈ xs, ∀ δ, P δ → ∃ δ1 δ2 δ3, s x δ = some δ1 ∧ ft δ1 = .ok true δ2 ∧ fe δ2 = .ok (g x) δ3 ∧ P (wipeS δ3 vs)) → P δ → acc.length + xs.length ≤ sizeLine →
    ∃ δ', P δ' ∧ compIt s ft fe vs xs δ acc = .ok (acc ++ xs.map g) δ'
  | [], δ, acc, _, p, _ => ⟨δ, p, by simp [compIt]⟩
  | x :: xs, δ, acc, h, p, hl => by
    obtain ⟨δ1, δ2, δ3, e1, e2, e3, p3⟩ := h x List.mem_cons_self δ p
    have hl2 : acc.length < sizeLine := by simp at hl; omega
    obtain ⟨δ', p', r⟩ := compIt_all (xs := xs) (acc := acc ++ [g x]) (fun z hz => h z (List.mem_cons_of_mem _ hz)) p3 (by simp at hl ⊢; omega)
    refine ⟨δ', p', ?_⟩
    simp only [compIt, e1, e2, e3, if_pos hl2, r, List.map_cons, List.append_assoc, List.cons_append, List.nil_append]
theorem fzs_ints : ∀ xs : List Int, fzs (xs.map D.int) = xs.map D.int
  | [] => rfl
  | x :: xs => by simp [fzs, fz, fzs_ints xs]
theorem frs {ys : List Int} : (ys.map D.int).map DV.fr = ys.map fun y => DV.fr (.int y) := by simp
theorem okMul_r {i j : Int} (h : small j = true) : okMul i j = true := by simp [okMul, h]
theorem okMul_l {i j : Int} (h : small i = true) : okMul i j = true := by simp [okMul, h]
theorem cut_nat {α : Type} {xs : List α} {p m : Nat} (h : p + m ≤ xs.length) : cut xs (some (p : Int)) (some ((p + m : Nat) : Int)) = (xs.drop p).take m := by
  unfold cut
  simp only [HT.sIx_nat]
  rw [Nat.min_eq_left h, Nat.min_eq_left (show p ≤ xs.length by omega), Nat.add_sub_cancel_left]
/-! ### == of a thing and itself -/
theorem eqD_self {d : D} {p : PyData} (h : pyd d = some p) (s : SeqAt.shaped p = true) : eqD d d = some true := by
  have r : PyData.eqv p p = true := by
    exact SeqAt.eqv_refl p (SeqAt.canLay_of_shaped s)
  cases d <;> simp only [eqD, h, s, r, Option.bind_some, Bool.and_self, if_true, decide_true, beq_self_eq_true]
theorem pyds_ints : ∀ xs : List Int, pyds (xs.map D.int) = some (xs.map PyData.int)
  | [] => rfl
  | x :: xs => by simp [pyds, pyd, pyds_ints xs]
theorem lay_ints : ∀ xs : List Int, PyData.canLayAll0 (xs.map PyData.int) = true
  | [] => rfl
  | x :: xs => by simp [PyData.canLayAll0, PyData.canLay0, lay_ints xs]
theorem depth_ints : ∀ xs : List Int, PyData.depthAll (xs.map PyData.int) ≤ 1
  | [] => by simp [PyData.depthAll]
  | x :: xs => by
    have := depth_ints xs
    simp [PyData.depthAll, PyData.depth]; omega
theorem eqD_tup (xs : List Int) : eqD (.tup (xs.map D.int)) (.tup (xs.map D.int)) = some true := eqD_self (p := .tuple (xs.map PyData.int)) (by simp [pyd, pyds_ints]) (by
  have := depth_ints xs
  simp [SeqAt.shaped, PyData.canLay0, lay_ints, PyData.depth]; omega)
theorem eqD_lst (o o' : Ow) (xs : List Int) : eqD (.lst o (xs.map D.int)) (.lst o' (xs.map D.int)) = some true := by
  have r := eqD_self (d := .lst o (xs.map D.int)) (p := .list (xs.map PyData.int)) (by simp [pyd, pyds_ints]) (by
    have := depth_ints xs
    simp [SeqAt.shaped, PyData.canLay0, lay_ints, PyData.depth]; omega)
  simp only [eqD, pyd, pyds_ints] at r ⊢
  exact r
end Pv

set_option Elab.async false
set_option linter.all false
set_option maxRecDepth 100000
set_option maxHeartbeats 4000000
namespace K01
open PySem PySem.Spec L2 Pv
def top (i : Nat) : Stmt := PySem.Challenge.pw_linkstack_k01_words_as_bytes.main.body.getD i (.Pass ⟨0, 0, 0, 0⟩)
abbrev nEx : Nat := 2
def sub_WordError : Nat → Bool := fun c => [true, false].getD c false
def sub_LinkFault : Nat → Bool := fun c => [true, true].getD c false
def m__name__ : Sls → Res DV := mC (.str [108, 97, 119, 95, 108, 105, 110, 107, 115, 116, 97, 99, 107, 95, 107, 48, 49, 95, 119, 111, 114, 100, 115, 95, 97, 115, 95, 98, 121, 116, 101, 115])
def mMOST_BYTES : Sls → Res DV := mC (.int 8)
def mSIGNS : Sls → Res DV := mC (.str [32, 33, 34, 35, 36, 38, 39, 40, 41, 42, 43, 44, 45, 46, 47, 48, 49, 50, 51, 52, 53, 54, 55, 56, 57, 58, 59, 60, 61, 62, 63, 64, 65, 66, 67, 68, 69, 70, 71, 72, 73, 74, 75, 76, 77, 78, 79, 80, 81, 82, 83, 84, 85, 86, 87, 88, 89, 90, 91, 92, 93, 94, 95, 96, 97, 98, 99, 100, 101, 102, 103, 104, 105, 106, 107, 108, 109, 110, 111, 112, 113, 114, 115, 116, 117, 118, 119, 120, 121, 122, 123, 124, 125, 126])
abbrev s_power_of : Stmt := top 6
theorem sc_power_of : FnScope ["times", "found", "turn"] ["times"] (defScope s_power_of) := ⟨rfl, rfl, rfl, by decide +kernel, rfl, by decide +kernel, by decide +kernel⟩
def b_power_of : Sls → RS :=
  sSeq (sIf (mNot (tst (mCh dLe dLe (mVal (mC (.int 0))) (mAt 0) (mVal (mC (.int 64))))))
  (sRaise 0)
  (sNx))
  (sSeq (sSet 1 (mC (.int 1)))
  (sSeq (sFor (stoO 2) (mRange rangeD1 (mCons (mAt 0) (mNil)))
  (sAug 1 (ints2 imulI) (mC (.int 2))))
  (sRt (mMv 1))))
def m_power_of : List DV → RF := mFun 3 b_power_of
abbrev s_check_bytes : Stmt := top 7
theorem sc_check_bytes : FnScope ["numbers"] ["numbers"] (defScope s_check_bytes) := ⟨rfl, rfl, rfl, by decide +kernel, rfl, by decide +kernel, by decide +kernel⟩
def b_check_bytes : Sls → RS :=
  sIf (tst (mGen 1 [] (stoO 0) (mWalk (mFz 0)) (mT true) (cond (tst (mCh dLe dLe (mVal (mC (.int 0))) (mAt 0) (mVal (mC (.int 255))))) (mB false) (mB true)) kAny))
  (sRaise 0)
  (sNx)
def m_check_bytes : List DV → RF := mFun 1 b_check_bytes
abbrev s_packed : Stmt := top 8
theorem sc_packed : FnScope ["number", "many", "found", "left", "turn"] ["number", "many"] (defScope s_packed) := ⟨rfl, rfl, rfl, by decide +kernel, rfl, by decide +kernel, by decide +kernel⟩
def b_packed : Sls → RS :=
  sSeq (sIf (cond (mNot (tst (mCh dLe dLe (mVal (mC (.int 1))) (mAt 1) (mVal (mMOST_BYTES))))) (mT true) (mNot (tst (mCh dLe dLt (mVal (mC (.int 0))) (mAt 0) (mVal (mCallF [] 1 m_power_of (mCons (mVal (mOp2 dMul (mVal (mC (.int 8))) (mAt 1))) (mNil))))))))
  (sRaise 0)
  (sNx))
  (sSeq (sPar [stoO 2, stoO 3] (mCons (mVal (mDisp mkL (mNil))) (mCons (mVal (mFz 0)) (mNil))))
  (sSeq (sFor (stoO 4) (mRange rangeD1 (mCons (mAt 1) (mNil)))
  (sSeq (sAppend 2 (mOp2 (ints2 modI) (mAt 3) (mVal (mC (.int 256)))))
  (sAug 3 (ints2 idivI) (mC (.int 256)))))
  (sRt (mCallN (g1 dTup) (mCons (mAt 2) (mNil))))))
def m_packed : List DV → RF := mFun 5 b_packed
abbrev s_unpacked : Stmt := top 9
theorem sc_unpacked : FnScope ["numbers", "place", "many", "found", "number"] ["numbers", "place", "many"] (defScope s_unpacked) := ⟨rfl, rfl, rfl, by decide +kernel, rfl, by decide +kernel, by decide +kernel⟩
def b_unpacked : Sls → RS :=
  sSeq (sIf (cond (mNot (tst (mCh dLe dLe (mVal (mC (.int 1))) (mAt 2) (mVal (mMOST_BYTES))))) (mT true) (cond (tst (mOp2 dLt (mAt 1) (mVal (mC (.int 0))))) (mT true) (tst (mOp2 dGt (mVal (mOp2 dAdd (mAt 1) (mAt 2))) (mVal (mCallN (g1 dLen) (mCons (mAt 0) (mNil))))))))
  (sRaise 0)
  (sNx))
  (sSeq (sEx (mCallF [] 1 m_check_bytes (mCons (mVal (mSl (mAt 0) (mSomeP (mFz 1)) (mSomeP (mOp2 dAdd (mAt 1) (mAt 2))))) (mNil))))
  (sSeq (sSet 3 (mC (.int 0)))
  (sSeq (sFor (stoO 4) (mWalk (mOp1 dRev (mVal (mSl (mAt 0) (mSomeP (mFz 1)) (mSomeP (mOp2 dAdd (mAt 1) (mAt 2)))))))
  (sSet 3 (mOp2 dAdd (mVal (mOp2 dMul (mAt 3) (mVal (mC (.int 256))))) (mAt 4))))
  (sRt (mMv 3)))))
def m_unpacked : List DV → RF := mFun 5 b_unpacked
abbrev s_packed_signed : Stmt := top 10
theorem sc_packed_signed : FnScope ["number", "many", "half"] ["number", "many"] (defScope s_packed_signed) := ⟨rfl, rfl, rfl, by decide +kernel, rfl, by decide +kernel, by decide +kernel⟩
def b_packed_signed : Sls → RS :=
  sSeq (sIf (mNot (tst (mCh dLe dLe (mVal (mC (.int 1))) (mAt 1) (mVal (mMOST_BYTES)))))
  (sRaise 0)
  (sNx))
  (sSeq (sSet 2 (mCallF [] 1 m_power_of (mCons (mVal (mOp2 dSub (mVal (mOp2 dMul (mVal (mC (.int 8))) (mAt 1))) (mVal (mC (.int 1))))) (mNil))))
  (sSeq (sIf (mNot (tst (mCh dLe dLt (mVal (mOp2 dSub (mVal (mC (.int 0))) (mAt 2))) (mAt 0) (mAt 2))))
  (sRaise 0)
  (sNx))
  (sRt (mCallF [1] 2 m_packed (mCons (mVal (mOp2 (ints2 modI) (mAt 0) (mVal (mOp2 dMul (mVal (mC (.int 2))) (mAt 2))))) (mCons (mAt 1) (mNil)))))))
def m_packed_signed : List DV → RF := mFun 3 b_packed_signed
abbrev s_unpacked_signed : Stmt := top 11
theorem sc_unpacked_signed : FnScope ["numbers", "place", "many", "found", "half"] ["numbers", "place", "many"] (defScope s_unpacked_signed) := ⟨rfl, rfl, rfl, by decide +kernel, rfl, by decide +kernel, by decide +kernel⟩
def b_unpacked_signed : Sls → RS :=
  sSeq (sSet 3 (mCallF [0, 1, 2] 3 m_unpacked (mCons (mAt 0) (mCons (mAt 1) (mCons (mAt 2) (mNil))))))
  (sSeq (sSet 4 (mCallF [] 1 m_power_of (mCons (mVal (mOp2 dSub (mVal (mOp2 dMul (mVal (mC (.int 8))) (mAt 2))) (mVal (mC (.int 1))))) (mNil))))
  (sRt (cond (tst (mOp2 dGe (mAt 3) (mAt 4))) (mOp2 dSub (mAt 3) (mVal (mOp2 dMul (mVal (mC (.int 2))) (mAt 4)))) (mFz 3))))
def m_unpacked_signed : List DV → RF := mFun 5 b_unpacked_signed
abbrev s_fits_signed : Stmt := top 12
theorem sc_fits_signed : FnScope ["number", "many", "half"] ["number", "many"] (defScope s_fits_signed) := ⟨rfl, rfl, rfl, by decide +kernel, rfl, by decide +kernel, by decide +kernel⟩
def b_fits_signed : Sls → RS :=
  sSeq (sIf (mNot (tst (mCh dLe dLe (mVal (mC (.int 1))) (mAt 1) (mVal (mMOST_BYTES)))))
  (sRaise 0)
  (sNx))
  (sSeq (sSet 2 (mCallF [] 1 m_power_of (mCons (mVal (mOp2 dSub (mVal (mOp2 dMul (mVal (mC (.int 8))) (mAt 1))) (mVal (mC (.int 1))))) (mNil))))
  (sRt (mCh dLe dLt (mVal (mOp2 dSub (mVal (mC (.int 0))) (mAt 2))) (mAt 0) (mAt 2))))
def m_fits_signed : List DV → RF := mFun 3 b_fits_signed
abbrev s_seven : Stmt := top 13
theorem sc_seven : FnScope ["number", "found", "left"] ["number"] (defScope s_seven) := ⟨rfl, rfl, rfl, by decide +kernel, rfl, by decide +kernel, by decide +kernel⟩
def b_seven : Sls → RS :=
  sSeq (sIf (tst (mOp2 dLt (mAt 0) (mVal (mC (.int 0)))))
  (sRaise 0)
  (sNx))
  (sSeq (sPar [stoO 1, stoO 2] (mCons (mVal (mDisp mkL (mNil))) (mCons (mVal (mFz 0)) (mNil))))
  (sSeq (whileS (tst (mOp2 dGe (mAt 2) (mVal (mC (.int 128))))) (sSeq (sAppend 1 (mOp2 dAdd (mVal (mOp2 (ints2 modI) (mAt 2) (mVal (mC (.int 128))))) (mVal (mC (.int 128)))))
  (sAug 2 (ints2 idivI) (mC (.int 128)))) 100000)
  (sRt (mCallN (g1 dTup) (mCons (mVal (mOp2 dAdd (mAt 1) (mVal (mDisp mkL (mCons (mVal (mFz 2)) (mNil)))))) (mNil))))))
def m_seven : List DV → RF := mFun 3 b_seven
abbrev s_read_seven : Stmt := top 14
theorem sc_read_seven : FnScope ["numbers", "place", "found", "worth", "turn"] ["numbers", "place"] (defScope s_read_seven) := ⟨rfl, rfl, rfl, by decide +kernel, rfl, by decide +kernel, by decide +kernel⟩
def b_read_seven : Sls → RS :=
  sSeq (sAsg (stTup [stoO 2, stoO 3]) (mDisp mkT (mCons (mVal (mC (.int 0))) (mCons (mVal (mC (.int 1))) (mNil)))))
  (sSeq (sFor (stoO 4) (mRange rangeD1 (mCons (mVal (mC (.int 10))) (mNil)))
  (sSeq (sIf (mNot (tst (mCh dLe dLt (mVal (mC (.int 0))) (mVal (mOp2 dAdd (mAt 1) (mAt 4))) (mVal (mCallN (g1 dLen) (mCons (mAt 0) (mNil)))))))
  (sRaise 0)
  (sNx))
  (sSeq (sEx (mCallF [] 1 m_check_bytes (mCons (mVal (mDisp mkT (mCons (mVal (mOp2 dIx (mAt 0) (mVal (mOp2 dAdd (mAt 1) (mAt 4))))) (mNil)))) (mNil))))
  (sSeq (sAug 2 dAddS (mOp2 dMul (mVal (mOp2 (ints2 modI) (mVal (mOp2 dIx (mAt 0) (mVal (mOp2 dAdd (mAt 1) (mAt 4))))) (mVal (mC (.int 128))))) (mAt 3)))
  (sSeq (sAug 3 (ints2 imulI) (mC (.int 128)))
  (sIf (tst (mOp2 dLt (mVal (mOp2 dIx (mAt 0) (mVal (mOp2 dAdd (mAt 1) (mAt 4))))) (mVal (mC (.int 128)))))
  (sRt (mDisp mkT (mCons (mVal (mFz 2)) (mCons (mVal (mOp2 dAdd (mVal (mOp2 dAdd (mAt 1) (mAt 4))) (mVal (mC (.int 1))))) (mNil)))))
  (sNx)))))))
  (sRaise 0))
def m_read_seven : List DV → RF := mFun 5 b_read_seven
abbrev s_seven_signed : Stmt := top 15
theorem sc_seven_signed : FnScope ["number", "found", "left", "low"] ["number"] (defScope s_seven_signed) := ⟨rfl, rfl, rfl, by decide +kernel, rfl, by decide +kernel, by decide +kernel⟩
def b_seven_signed : Sls → RS :=
  sSeq (sPar [stoO 1, stoO 2] (mCons (mVal (mDisp mkL (mNil))) (mCons (mVal (mFz 0)) (mNil))))
  (whileS (tst (mC (.bl true))) (sSeq (sSet 3 (mOp2 (ints2 modI) (mAt 2) (mVal (mC (.int 128)))))
  (sSeq (sSet 2 (mOp2 (ints2 divI) (mAt 2) (mVal (mC (.int 128)))))
  (sSeq (sIf (cond (cond (tst (mOp2 dEq (mAt 2) (mVal (mC (.int 0))))) (tst (mOp2 dLt (mAt 3) (mVal (mC (.int 64))))) (mT false)) (mT true) (cond (tst (mOp2 dEq (mAt 2) (mVal (mOp2 dSub (mVal (mC (.int 0))) (mVal (mC (.int 1))))))) (tst (mOp2 dGe (mAt 3) (mVal (mC (.int 64))))) (mT false)))
  (sRt (mCallN (g1 dTup) (mCons (mVal (mOp2 dAdd (mAt 1) (mVal (mDisp mkL (mCons (mVal (mFz 3)) (mNil)))))) (mNil))))
  (sNx))
  (sAppend 1 (mOp2 dAdd (mAt 3) (mVal (mC (.int 128)))))))) 100000)
def m_seven_signed : List DV → RF := mFun 4 b_seven_signed
abbrev s_read_seven_signed : Stmt := top 16
theorem sc_read_seven_signed : FnScope ["numbers", "place", "found", "behind", "worth", "turn"] ["numbers", "place"] (defScope s_read_seven_signed) := ⟨rfl, rfl, rfl, by decide +kernel, rfl, by decide +kernel, by decide +kernel⟩
def b_read_seven_signed : Sls → RS :=
  sSeq (sAsg (stTup [stoO 2, stoO 3]) (mCallF [0, 1] 2 m_read_seven (mCons (mAt 0) (mCons (mAt 1) (mNil)))))
  (sSeq (sSet 4 (mC (.int 1)))
  (sSeq (sFor (stoO 5) (mRange rangeD1 (mCons (mVal (mOp2 dSub (mAt 3) (mAt 1))) (mNil)))
  (sAug 4 (ints2 imulI) (mC (.int 128))))
  (sRt (mDisp mkT (mCons (mVal (cond (tst (mOp2 dGe (mVal (mOp2 dIx (mAt 0) (mVal (mOp2 dSub (mAt 3) (mVal (mC (.int 1))))))) (mVal (mC (.int 64))))) (mOp2 dSub (mAt 2) (mAt 4)) (mFz 2))) (mCons (mVal (mFz 3)) (mNil)))))))
def m_read_seven_signed : List DV → RF := mFun 6 b_read_seven_signed
abbrev s_rounded_up : Stmt := top 17
theorem sc_rounded_up : FnScope ["place", "step"] ["place", "step"] (defScope s_rounded_up) := ⟨rfl, rfl, rfl, by decide +kernel, rfl, by decide +kernel, by decide +kernel⟩
def b_rounded_up : Sls → RS :=
  sSeq (sIf (cond (tst (mOp2 dLt (mAt 1) (mVal (mC (.int 1))))) (mT true) (tst (mOp2 dLt (mAt 0) (mVal (mC (.int 0))))))
  (sRaise 0)
  (sNx))
  (sRt (mOp2 dMul (mVal (mOp2 (ints2 divI) (mVal (mOp2 dSub (mVal (mOp2 dAdd (mAt 0) (mAt 1))) (mVal (mC (.int 1))))) (mAt 1))) (mAt 1)))
def m_rounded_up : List DV → RF := mFun 2 b_rounded_up
abbrev s_is_power : Stmt := top 18
theorem sc_is_power : FnScope ["number", "here"] ["number"] (defScope s_is_power) := ⟨rfl, rfl, rfl, by decide +kernel, rfl, by decide +kernel, by decide +kernel⟩
def b_is_power : Sls → RS :=
  sSeq (sSet 1 (mC (.int 1)))
  (sSeq (whileS (tst (mOp2 dLt (mAt 1) (mAt 0))) (sAug 1 (ints2 imulI) (mC (.int 2))) 100000)
  (sRt (mOp2 dEq (mAt 1) (mAt 0))))
def m_is_power : List DV → RF := mFun 2 b_is_power
abbrev s_text_bytes : Stmt := top 22
theorem sc_text_bytes : FnScope ["text"] ["text"] (defScope s_text_bytes) := ⟨rfl, rfl, rfl, by decide +kernel, rfl, by decide +kernel, by decide +kernel⟩
def b_text_bytes : Sls → RS :=
  sSeq (sIf (tst (mGen 1 [] (stoO 0) (mWalk (mFz 0)) (mT true) (mOp2 dNotIn (mAt 0) (mVal (mSIGNS))) kAny))
  (sRaise 0)
  (sNx))
  (sRt (mGen 1 [] (stoO 0) (mWalk (mFz 0)) (mT true) (mCallN (g1 dOrd) (mCons (mAt 0) (mNil))) kTupG))
def m_text_bytes : List DV → RF := mFun 1 b_text_bytes
abbrev s_text_print : Stmt := top 19
theorem sc_text_print : FnScope ["text", "found", "number"] ["text"] (defScope s_text_print) := ⟨rfl, rfl, rfl, by decide +kernel, rfl, by decide +kernel, by decide +kernel⟩
def b_text_print : Sls → RS :=
  sSeq (sSet 1 (mC (.int 5381)))
  (sSeq (sFor (stoO 2) (mWalk (mCallF [0] 1 m_text_bytes (mCons (mAt 0) (mNil))))
  (sSet 1 (mOp2 (ints2 modI) (mVal (mOp2 dAdd (mVal (mOp2 dMul (mAt 1) (mVal (mC (.int 33))))) (mAt 2))) (mVal (mC (.int 4294967296))))))
  (sRt (mMv 1)))
def m_text_print : List DV → RF := mFun 3 b_text_print
abbrev s_bytes_print : Stmt := top 20
theorem sc_bytes_print : FnScope ["numbers", "one", "two", "number"] ["numbers"] (defScope s_bytes_print) := ⟨rfl, rfl, rfl, by decide +kernel, rfl, by decide +kernel, by decide +kernel⟩
def b_bytes_print : Sls → RS :=
  sSeq (sEx (mCallF [0] 1 m_check_bytes (mCons (mAt 0) (mNil))))
  (sSeq (sAsg (stTup [stoO 1, stoO 2]) (mDisp mkT (mCons (mVal (mC (.int 1))) (mCons (mVal (mC (.int 0))) (mNil)))))
  (sSeq (sFor (stoO 3) (mWalk (mFz 0))
  (sSeq (sSet 1 (mOp2 (ints2 modI) (mVal (mOp2 dAdd (mAt 1) (mAt 3))) (mVal (mC (.int 65521)))))
  (sSet 2 (mOp2 (ints2 modI) (mVal (mOp2 dAdd (mAt 2) (mAt 1))) (mVal (mC (.int 65521)))))))
  (sRt (mOp2 dAdd (mVal (mOp2 dMul (mAt 2) (mVal (mC (.int 65536))))) (mAt 1)))))
def m_bytes_print : List DV → RF := mFun 4 b_bytes_print
abbrev s_told_hex : Stmt := top 21
theorem sc_told_hex : FnScope ["number", "many", "found", "left", "turn"] ["number", "many"] (defScope s_told_hex) := ⟨rfl, rfl, rfl, by decide +kernel, rfl, by decide +kernel, by decide +kernel⟩
def b_told_hex : Sls → RS :=
  sSeq (sIf (cond (mNot (tst (mCh dLe dLe (mVal (mC (.int 1))) (mAt 1) (mVal (mC (.int 16)))))) (mT true) (mNot (tst (mCh dLe dLt (mVal (mC (.int 0))) (mAt 0) (mVal (mCallF [] 1 m_power_of (mCons (mVal (mOp2 dMul (mVal (mC (.int 4))) (mAt 1))) (mNil))))))))
  (sRaise 0)
  (sNx))
  (sSeq (sPar [stoO 2, stoO 3] (mCons (mVal (mC (.str []))) (mCons (mVal (mFz 0)) (mNil))))
  (sSeq (sFor (stoO 4) (mRange rangeD1 (mCons (mAt 1) (mNil)))
  (sSeq (sSet 2 (mOp2 dAdd (mVal (mOp2 dIx (mVal (mC (.str [48, 49, 50, 51, 52, 53, 54, 55, 56, 57, 97, 98, 99, 100, 101, 102]))) (mVal (mOp2 (ints2 modI) (mAt 3) (mVal (mC (.int 16))))))) (mAt 2)))
  (sAug 3 (ints2 idivI) (mC (.int 16)))))
  (sRt (mMv 2))))
def m_told_hex : List DV → RF := mFun 5 b_told_hex
abbrev s_sign_of : Stmt := top 23
theorem sc_sign_of : FnScope ["number", "found", "sign"] ["number"] (defScope s_sign_of) := ⟨rfl, rfl, rfl, by decide +kernel, rfl, by decide +kernel, by decide +kernel⟩
def b_sign_of : Sls → RS :=
  sSeq (sSet 1 (mComp (stoO 2) (mWalk (mSIGNS)) (tst (mOp2 dEq (mVal (mCallN (g1 dOrd) (mCons (mAt 2) (mNil)))) (mAt 0))) (mFz 2) [2]))
  (sRt (cond (tst (mOp2 dNe (mAt 1) (mVal (mDisp mkL (mNil))))) (mOp2 dIx (mAt 1) (mVal (mC (.int 0)))) (mC (.str []))))
def m_sign_of : List DV → RF := mFun 3 b_sign_of
abbrev s_bytes_text : Stmt := top 24
theorem sc_bytes_text : FnScope ["numbers", "signs", "number"] ["numbers"] (defScope s_bytes_text) := ⟨rfl, rfl, rfl, by decide +kernel, rfl, by decide +kernel, by decide +kernel⟩
def b_bytes_text : Sls → RS :=
  sSeq (sSet 1 (mComp (stoO 2) (mWalk (mFz 0)) (mT true) (mCallF [2] 1 m_sign_of (mCons (mAt 2) (mNil))) [2]))
  (sSeq (sIf (tst (mOp2 dIn (mVal (mC (.str []))) (mAt 1)))
  (sRaise 0)
  (sNx))
  (sRt (mJoin [] (mAt 1))))
def m_bytes_text : List DV → RF := mFun 3 b_bytes_text
abbrev s__law_dice : Stmt := top 26
theorem sc__law_dice : FnScope ["cell"] ["cell"] (defScope s__law_dice) := ⟨rfl, rfl, rfl, by decide +kernel, rfl, by decide +kernel, by decide +kernel⟩
def b__law_dice : Sls → RS :=
  sSeq (sIf (tst (mCh dLt dLt (mVal (mOp2 dSub (mVal (mC (.int 0))) (mVal (mC (.int 10))))) (mAt 0) (mVal (mC (.int 10)))))
  (sRt (mDisp mkL (mCons (mVal (mCallN (g1 dAbs) (mCons (mAt 0) (mNil)))) (mCons (mVal (mC (.int 0))) (mCons (mVal (mC (.int 2))) (mNil))))))
  (sNx))
  (sRt (mDisp mkL (mCons (mVal (mFz 0)) (mCons (mVal (mOp2 dAdd (mVal (mC (.int 1))) (mVal (mOp2 (ints2 modI) (mVal (mCallN (g1 dInt) (mCons (mAt 0) (mNil)))) (mVal (mC (.int 1009))))))) (mCons (mVal (mCallN (g1 dInt) (mCons (mVal (mOp2 dGe (mAt 0) (mVal (mOp2 (ints2 powI) (mVal (mC (.int 10))) (mVal (mC (.int 18))))))) (mNil)))) (mNil))))))
def m__law_dice : List DV → RF := mFun 1 b__law_dice
abbrev s__law_roll : Stmt := top 27
theorem sc__law_roll : FnScope ["dice", "many", "found"] ["dice", "many"] (defScope s__law_roll) := ⟨rfl, rfl, rfl, by decide +kernel, rfl, by decide +kernel, by decide +kernel⟩
def b__law_roll (mr : List DV → RF) : Sls → RS :=
  sSeq (sIf (cond (tst (mOp2 dEq (mVal (mOp2 dIx (mAt 0) (mVal (mC (.int 2))))) (mVal (mC (.int 2))))) (mT true) (cond (tst (mOp2 dEq (mVal (mOp2 dIx (mAt 0) (mVal (mC (.int 2))))) (mVal (mC (.int 1))))) (tst (mOp2 dGt (mVal (mOp2 dIx (mAt 0) (mVal (mC (.int 0))))) (mVal (mC (.int 0))))) (mT false)))
  (sSeq (sSet 2 (mOp2 (ints2 modI) (mVal (mCallN (g1 dInt) (mCons (mVal (mOp2 dIx (mAt 0) (mVal (mC (.int 0))))) (mNil)))) (mAt 1)))
  (sSeq (sItem 0 (mOp2 (ints2 divI) (mVal (mOp2 dIx (mAt 0) (mVal (mC (.int 0))))) (mAt 1)) (mC (.int 0)))
  (sRt (mMv 2))))
  (sNx))
  (sSeq (sItem 0 (mC (.int 0)) (mC (.int 2)))
  (sSeq (sIf (tst (mOp2 dGt (mAt 1) (mVal (mC (.int 100000000)))))
  (sRt (mOp2 (ints2 modI) (mVal (mCallN (g1 dInt) (mCons (mVal (mOp2 dAdd (mVal (mOp2 dMul (mVal (mCallF [0] 2 mr (mCons (mAt 0) (mCons (mVal (mOp2 dAdd (mVal (mOp2 (ints2 divI) (mAt 1) (mVal (mC (.int 100000000))))) (mVal (mC (.int 1))))) (mNil))))) (mVal (mC (.int 100000000))))) (mVal (mCallF [0] 2 mr (mCons (mAt 0) (mCons (mVal (mC (.int 100000000))) (mNil))))))) (mNil)))) (mAt 1)))
  (sNx))
  (sSeq (sItem 0 (mOp2 (ints2 modI) (mVal (mCallN (g1 dInt) (mCons (mVal (mOp2 dAdd (mVal (mOp2 dAdd (mVal (mOp2 dMul (mVal (mOp2 dIx (mAt 0) (mVal (mC (.int 0))))) (mVal (mC (.int 48271))))) (mVal (mOp2 dMul (mVal (mOp2 dIx (mAt 0) (mVal (mC (.int 1))))) (mVal (mC (.int 69621))))))) (mVal (mC (.int 11))))) (mNil)))) (mVal (mC (.int 2147483647)))) (mC (.int 0)))
  (sSeq (sItem 0 (mOp2 dAdd (mVal (mOp2 dIx (mAt 0) (mVal (mC (.int 1))))) (mVal (mC (.int 1)))) (mC (.int 1)))
  (sRt (mOp2 (ints2 modI) (mVal (mCallN (g1 dInt) (mCons (mVal (mOp2 (ints2 divI) (mVal (mOp2 dIx (mAt 0) (mVal (mC (.int 0))))) (mVal (mC (.int 7))))) (mNil)))) (mAt 1)))))))
def m__law_rollN : Nat → List DV → RF
  | 0 => fun _ => .bad
  | n + 1 => mFun 3 (b__law_roll (m__law_rollN n))
def m__law_roll : List DV → RF := m__law_rollN 4
abbrev s__law_rounds : Stmt := top 28
theorem sc__law_rounds : FnScope ["script", "most", "cells", "cell"] ["script", "most"] (defScope s__law_rounds) := ⟨rfl, rfl, rfl, by decide +kernel, rfl, by decide +kernel, by decide +kernel⟩
def b__law_rounds : Sls → RS :=
  sSeq (sSet 2 (mSl (mAt 0) (mNoP) (mSomeP (mFz 1))))
  (sSeq (sIf (tst (mOp2 dEq (mAt 2) (mVal (mDisp mkL (mNil)))))
  (sSet 2 (mDisp mkL (mCons (mVal (mC (.int 0))) (mNil))))
  (sNx))
  (sRt (mComp (stoO 3) (mWalk (mFz 2)) (mT true) (mCallF [3] 1 m__law_dice (mCons (mAt 3) (mNil))) [3])))
def m__law_rounds : List DV → RF := mFun 4 b__law_rounds
abbrev s__law_number : Stmt := top 30
theorem sc__law_number : FnScope ["dice"] ["dice"] (defScope s__law_number) := ⟨rfl, rfl, rfl, by decide +kernel, rfl, by decide +kernel, by decide +kernel⟩
def b__law_number : Sls → RS :=
  sRt (mOp2 dIx (mVal (mDisp mkL (mCons (mVal (mCallF [0] 2 m__law_roll (mCons (mAt 0) (mCons (mVal (mC (.int 9))) (mNil))))) (mCons (mVal (mCallF [0] 2 m__law_roll (mCons (mAt 0) (mCons (mVal (mC (.int 300))) (mNil))))) (mCons (mVal (mCallF [0] 2 m__law_roll (mCons (mAt 0) (mCons (mVal (mC (.int 100000))) (mNil))))) (mCons (mVal (mCallF [0] 2 m__law_roll (mCons (mAt 0) (mCons (mVal (mOp2 (ints2 powI) (mVal (mC (.int 10))) (mVal (mC (.int 12))))) (mNil))))) (mNil))))))) (mVal (mCallF [0] 2 m__law_roll (mCons (mAt 0) (mCons (mVal (mC (.int 4))) (mNil))))))
def m__law_number : List DV → RF := mFun 1 b__law_number
abbrev s__law_seven : Stmt := top 31
theorem sc__law_seven : FnScope ["number"] ["number"] (defScope s__law_seven) := ⟨rfl, rfl, rfl, by decide +kernel, rfl, by decide +kernel, by decide +kernel⟩
def b__law_seven (mr : List DV → RF) : Sls → RS :=
  sRt (cond (tst (mOp2 dLt (mAt 0) (mVal (mC (.int 128))))) (mDisp mkL (mCons (mVal (mFz 0)) (mNil))) (mOp2 dAdd (mVal (mDisp mkL (mCons (mVal (mOp2 dAdd (mVal (mOp2 (ints2 modI) (mAt 0) (mVal (mC (.int 128))))) (mVal (mC (.int 128))))) (mNil)))) (mVal (mCallF [] 1 mr (mCons (mVal (mOp2 (ints2 divI) (mAt 0) (mVal (mC (.int 128))))) (mNil))))))
def m__law_sevenN : Nat → List DV → RF
  | 0 => fun _ => .bad
  | n + 1 => mFun 1 (b__law_seven (m__law_sevenN n))
def m__law_seven : List DV → RF := m__law_sevenN 12
abbrev s__law_signed : Stmt := top 32
theorem sc__law_signed : FnScope ["number", "low", "left"] ["number"] (defScope s__law_signed) := ⟨rfl, rfl, rfl, by decide +kernel, rfl, by decide +kernel, by decide +kernel⟩
def b__law_signed (mr : List DV → RF) : Sls → RS :=
  sSeq (sPar [stoO 1, stoO 2] (mCons (mVal (mOp2 (ints2 modI) (mAt 0) (mVal (mC (.int 128))))) (mCons (mVal (mOp2 (ints2 divI) (mAt 0) (mVal (mC (.int 128))))) (mNil))))
  (sRt (cond (cond (cond (tst (mOp2 dEq (mAt 2) (mVal (mC (.int 0))))) (tst (mOp2 dLt (mAt 1) (mVal (mC (.int 64))))) (mT false)) (mT true) (cond (tst (mOp2 dEq (mAt 2) (mVal (mOp1 dNeg (mVal (mC (.int 1))))))) (tst (mOp2 dGt (mAt 1) (mVal (mC (.int 63))))) (mT false))) (mDisp mkL (mCons (mVal (mFz 1)) (mNil))) (mOp2 dAdd (mVal (mDisp mkL (mCons (mVal (mOp2 dAdd (mAt 1) (mVal (mC (.int 128))))) (mNil)))) (mVal (mCallF [2] 1 mr (mCons (mAt 2) (mNil)))))))
def m__law_signedN : Nat → List DV → RF
  | 0 => fun _ => .bad
  | n + 1 => mFun 3 (b__law_signed (m__law_signedN n))
def m__law_signed : List DV → RF := m__law_signedN 12
abbrev s__law_refused : Stmt := top 33
theorem sc__law_refused : FnScope ["bad", "k", "f"] [] (defScope s__law_refused) := ⟨rfl, rfl, rfl, by decide +kernel, rfl, by decide +kernel, by decide +kernel⟩
def tab__law_refused : LTab := fun i => ((lamsIn (stAt s__law_refused 0) ++ lamsIn (stAt s__law_refused 1) ++ lamsIn (stAt s__law_refused 2) ++ lamsIn (stAt s__law_refused 3) ++ lamsIn (stAt s__law_refused 4) ++ lamsIn (stAt s__law_refused 5) ++ lamsIn (stAt s__law_refused 6))[i]?).getD lamNo
def fes__law_refused : List (Sls → Res DV) := [mCallF [] 1 m_power_of (mCons (mVal (mOp1 dNeg (mVal (mC (.int 1))))) (mNil)),
  mCallF [] 1 m_power_of (mCons (mVal (mC (.int 65))) (mNil)),
  mCallF [] 1 m_check_bytes (mCons (mVal (mDisp mkT (mCons (mVal (mC (.int 256))) (mNil)))) (mNil)),
  mCallF [] 1 m_check_bytes (mCons (mVal (mDisp mkT (mCons (mVal (mOp1 dNeg (mVal (mC (.int 1))))) (mNil)))) (mNil)),
  mCallF [] 2 m_packed (mCons (mVal (mC (.int 256))) (mCons (mVal (mC (.int 1))) (mNil))),
  mCallF [] 2 m_packed (mCons (mVal (mOp1 dNeg (mVal (mC (.int 1))))) (mCons (mVal (mC (.int 1))) (mNil))),
  mCallF [] 2 m_packed (mCons (mVal (mC (.int 0))) (mCons (mVal (mC (.int 0))) (mNil))),
  mCallF [] 2 m_packed (mCons (mVal (mC (.int 0))) (mCons (mVal (mC (.int 9))) (mNil))),
  mCallF [] 3 m_unpacked (mCons (mVal (mDisp mkT (mCons (mVal (mC (.int 1))) (mNil)))) (mCons (mVal (mC (.int 0))) (mCons (mVal (mC (.int 2))) (mNil)))),
  mCallF [] 3 m_unpacked (mCons (mVal (mDisp mkT (mCons (mVal (mC (.int 1))) (mNil)))) (mCons (mVal (mOp1 dNeg (mVal (mC (.int 1))))) (mCons (mVal (mC (.int 1))) (mNil)))),
  mCallF [] 3 m_unpacked (mCons (mVal (mDisp mkT (mCons (mVal (mC (.int 256))) (mNil)))) (mCons (mVal (mC (.int 0))) (mCons (mVal (mC (.int 1))) (mNil)))),
  mCallF [] 2 m_packed_signed (mCons (mVal (mC (.int 128))) (mCons (mVal (mC (.int 1))) (mNil))),
  mCallF [] 2 m_packed_signed (mCons (mVal (mOp1 dNeg (mVal (mC (.int 129))))) (mCons (mVal (mC (.int 1))) (mNil))),
  mCallF [] 2 m_packed_signed (mCons (mVal (mC (.int 0))) (mCons (mVal (mC (.int 9))) (mNil))),
  mCallF [] 3 m_unpacked_signed (mCons (mVal (mDisp mkT (mCons (mVal (mC (.int 1))) (mNil)))) (mCons (mVal (mC (.int 0))) (mCons (mVal (mC (.int 2))) (mNil)))),
  mCallF [] 2 m_fits_signed (mCons (mVal (mC (.int 0))) (mCons (mVal (mC (.int 0))) (mNil))),
  mCallF [] 1 m_seven (mCons (mVal (mOp1 dNeg (mVal (mC (.int 1))))) (mNil)),
  mCallF [] 2 m_read_seven (mCons (mVal (mDisp mkT (mNil))) (mCons (mVal (mC (.int 0))) (mNil))),
  mCallF [] 2 m_read_seven (mCons (mVal (mDisp mkT (mCons (mVal (mC (.int 128))) (mNil)))) (mCons (mVal (mC (.int 0))) (mNil))),
  mCallF [] 2 m_read_seven (mCons (mVal (mDisp mkT (mCons (mVal (mC (.int 256))) (mNil)))) (mCons (mVal (mC (.int 0))) (mNil))),
  mCallF [] 2 m_read_seven (mCons (mVal (mOp2 dMul (mVal (mDisp mkT (mCons (mVal (mC (.int 128))) (mNil)))) (mVal (mC (.int 11))))) (mCons (mVal (mC (.int 0))) (mNil))),
  mCallF [] 2 m_read_seven (mCons (mVal (mDisp mkT (mCons (mVal (mC (.int 1))) (mNil)))) (mCons (mVal (mOp1 dNeg (mVal (mC (.int 1))))) (mNil))),
  mCallF [] 2 m_read_seven_signed (mCons (mVal (mDisp mkT (mCons (mVal (mC (.int 128))) (mNil)))) (mCons (mVal (mC (.int 0))) (mNil))),
  mCallF [] 2 m_rounded_up (mCons (mVal (mC (.int 1))) (mCons (mVal (mC (.int 0))) (mNil))),
  mCallF [] 2 m_rounded_up (mCons (mVal (mOp1 dNeg (mVal (mC (.int 1))))) (mCons (mVal (mC (.int 1))) (mNil))),
  mCallF [] 1 m_text_print (mCons (mVal (mC (.str [10]))) (mNil)),
  mCallF [] 1 m_text_print (mCons (mVal (mC (.str [10]))) (mNil)),
  mCallF [] 1 m_bytes_print (mCons (mVal (mDisp mkT (mCons (mVal (mC (.int 256))) (mNil)))) (mNil)),
  mCallF [] 2 m_told_hex (mCons (mVal (mC (.int 16))) (mCons (mVal (mC (.int 1))) (mNil))),
  mCallF [] 2 m_told_hex (mCons (mVal (mC (.int 0))) (mCons (mVal (mC (.int 0))) (mNil))),
  mCallF [] 2 m_told_hex (mCons (mVal (mC (.int 0))) (mCons (mVal (mC (.int 17))) (mNil))),
  mCallF [] 2 m_told_hex (mCons (mVal (mOp1 dNeg (mVal (mC (.int 1))))) (mCons (mVal (mC (.int 1))) (mNil))),
  mCallF [] 1 m_text_bytes (mCons (mVal (mC (.str [10]))) (mNil)),
  mCallF [] 1 m_bytes_text (mCons (mVal (mDisp mkT (mCons (mVal (mC (.int 31))) (mNil)))) (mNil)),
  mCallF [] 1 m_bytes_text (mCons (mVal (mDisp mkT (mCons (mVal (mC (.int 127))) (mNil)))) (mNil)),
  mCallF [] 1 m_bytes_text (mCons (mVal (mDisp mkT (mCons (mVal (mC (.int 37))) (mNil)))) (mNil))]
def b__law_refused : Sls → RS :=
  sSeq (sLm 0 [0, 1, 2, 3, 4])
  (sSeq (sLmCat 0 [5, 6, 7, 8, 9])
  (sSeq (sLmCat 0 [10, 11, 12, 13, 14])
  (sSeq (sLmCat 0 [15, 16, 17, 18, 19])
  (sSeq (sLmCat 0 [20, 21, 22, 23, 24])
  (sSeq (sLmCat 0 [25, 26, 27, 28, 29])
  (sSeq (sLmCat 0 [30, 31, 32, 33, 34, 35])
  (sRt (mOp2 dEq (mVal (mRefs 0 nEx sub_WordError [87, 111, 114, 100, 69, 114, 114, 111, 114] fes__law_refused)) (mVal (mDisp mkL (mNil)))))))))))
def m__law_refused : List DV → RF := mFun 3 b__law_refused
abbrev s__law_plain : Stmt := top 34
theorem sc__law_plain : FnScope ["told", "sign", "number"] [] (defScope s__law_plain) := ⟨rfl, rfl, rfl, by decide +kernel, rfl, by decide +kernel, by decide +kernel⟩
def b__law_plain : Sls → RS :=
  sSeq (sSet 0 (mDisp mkL (mCons (mVal (mCallF [] 1 m_power_of (mCons (mVal (mC (.int 0))) (mNil)))) (mCons (mVal (mCallF [] 1 m_power_of (mCons (mVal (mC (.int 10))) (mNil)))) (mCons (mVal (mCallF [] 1 m_check_bytes (mCons (mVal (mDisp mkT (mCons (mVal (mC (.int 0))) (mCons (mVal (mC (.int 255))) (mNil))))) (mNil)))) (mCons (mVal (mCallF [] 2 m_packed (mCons (mVal (mC (.int 4660))) (mCons (mVal (mC (.int 4))) (mNil))))) (mCons (mVal (mCallF [] 3 m_unpacked (mCons (mVal (mDisp mkT (mCons (mVal (mC (.int 9))) (mCons (mVal (mC (.int 52))) (mCons (mVal (mC (.int 18))) (mCons (mVal (mC (.int 0))) (mNil))))))) (mCons (mVal (mC (.int 1))) (mCons (mVal (mC (.int 2))) (mNil)))))) (mCons (mVal (mCallF [] 2 m_packed_signed (mCons (mVal (mOp1 dNeg (mVal (mC (.int 2))))) (mCons (mVal (mC (.int 4))) (mNil))))) (mCons (mVal (mCallF [] 3 m_unpacked_signed (mCons (mVal (mDisp mkT (mCons (mVal (mC (.int 254))) (mCons (mVal (mC (.int 255))) (mNil))))) (mCons (mVal (mC (.int 0))) (mCons (mVal (mC (.int 2))) (mNil)))))) (mCons (mVal (mCallF [] 2 m_fits_signed (mCons (mVal (mC (.int 127))) (mCons (mVal (mC (.int 1))) (mNil))))) (mNil)))))))))))
  (sSeq (sSet 0 (mOp2 dAdd (mAt 0) (mVal (mDisp mkL (mCons (mVal (mCallF [] 2 m_fits_signed (mCons (mVal (mC (.int 128))) (mCons (mVal (mC (.int 1))) (mNil))))) (mCons (mVal (mCallF [] 1 m_seven (mCons (mVal (mC (.int 300))) (mNil)))) (mCons (mVal (mCallF [] 1 m_seven (mCons (mVal (mC (.int 0))) (mNil)))) (mCons (mVal (mCallF [] 2 m_read_seven (mCons (mVal (mDisp mkT (mCons (mVal (mC (.int 172))) (mCons (mVal (mC (.int 2))) (mCons (mVal (mC (.int 5))) (mNil)))))) (mCons (mVal (mC (.int 0))) (mNil))))) (mCons (mVal (mCallF [] 2 m_read_seven (mCons (mVal (mDisp mkT (mCons (mVal (mC (.int 9))) (mCons (mVal (mC (.int 5))) (mNil))))) (mCons (mVal (mC (.int 1))) (mNil))))) (mCons (mVal (mCallF [] 1 m_seven_signed (mCons (mVal (mOp1 dNeg (mVal (mC (.int 1))))) (mNil)))) (mCons (mVal (mCallF [] 1 m_seven_signed (mCons (mVal (mC (.int 64))) (mNil)))) (mCons (mVal (mCallF [] 1 m_seven_signed (mCons (mVal (mOp1 dNeg (mVal (mC (.int 65))))) (mNil)))) (mCons (mVal (mCallF [] 1 m_seven_signed (mCons (mVal (mC (.int 0))) (mNil)))) (mCons (mVal (mCallF [] 2 m_read_seven_signed (mCons (mVal (mDisp mkT (mCons (mVal (mC (.int 127))) (mNil)))) (mCons (mVal (mC (.int 0))) (mNil))))) (mNil)))))))))))))))
  (sSeq (sSet 0 (mOp2 dAdd (mAt 0) (mVal (mDisp mkL (mCons (mVal (mCallF [] 2 m_read_seven_signed (mCons (mVal (mDisp mkT (mCons (mVal (mC (.int 192))) (mCons (mVal (mC (.int 0))) (mNil))))) (mCons (mVal (mC (.int 0))) (mNil))))) (mCons (mVal (mCallF [] 2 m_rounded_up (mCons (mVal (mC (.int 5))) (mCons (mVal (mC (.int 4))) (mNil))))) (mCons (mVal (mCallF [] 2 m_rounded_up (mCons (mVal (mC (.int 8))) (mCons (mVal (mC (.int 4))) (mNil))))) (mCons (mVal (mCallF [] 2 m_rounded_up (mCons (mVal (mC (.int 0))) (mCons (mVal (mC (.int 7))) (mNil))))) (mCons (mVal (mCallF [] 1 m_is_power (mCons (mVal (mC (.int 1))) (mNil)))) (mCons (mVal (mCallF [] 1 m_is_power (mCons (mVal (mC (.int 64))) (mNil)))) (mCons (mVal (mCallF [] 1 m_is_power (mCons (mVal (mC (.int 6))) (mNil)))) (mCons (mVal (mCallF [] 1 m_is_power (mCons (mVal (mC (.int 0))) (mNil)))) (mCons (mVal (mCallF [] 1 m_text_print (mCons (mVal (mC (.str []))) (mNil)))) (mCons (mVal (mCallF [] 1 m_text_print (mCons (mVal (mC (.str [109, 97, 105, 110]))) (mNil)))) (mNil)))))))))))))))
  (sSeq (sSet 0 (mOp2 dAdd (mAt 0) (mVal (mDisp mkL (mCons (mVal (mCallF [] 1 m_bytes_print (mCons (mVal (mDisp mkT (mNil))) (mNil)))) (mCons (mVal (mCallF [] 1 m_bytes_print (mCons (mVal (mDisp mkT (mCons (mVal (mC (.int 1))) (mCons (mVal (mC (.int 2))) (mCons (mVal (mC (.int 3))) (mNil)))))) (mNil)))) (mCons (mVal (mCallF [] 2 m_told_hex (mCons (mVal (mC (.int 255))) (mCons (mVal (mC (.int 4))) (mNil))))) (mCons (mVal (mCallF [] 1 m_text_bytes (mCons (mVal (mC (.str [97, 32, 98]))) (mNil)))) (mCons (mVal (mCallF [] 1 m_bytes_text (mCons (mVal (mDisp mkT (mCons (mVal (mC (.int 72))) (mCons (mVal (mC (.int 105))) (mNil))))) (mNil)))) (mCons (mVal (mCallF [] 1 m_text_bytes (mCons (mVal (mC (.str []))) (mNil)))) (mCons (mVal (mCallF [] 1 m_sign_of (mCons (mVal (mC (.int 65))) (mNil)))) (mCons (mVal (mCallF [] 1 m_sign_of (mCons (mVal (mC (.int 37))) (mNil)))) (mCons (mVal (mCallF [] 1 m_sign_of (mCons (mVal (mC (.int 9))) (mNil)))) (mNil))))))))))))))
  (sSeq (sIf (cond (mNot (tst (mCallF [] 0 m__law_refused mNil))) (mT true) (cond (tst (mOp2 dNe (mVal (mMOST_BYTES)) (mVal (mC (.int 8))))) (mT true) (tst (mOp2 dNe (mVal (mComp (stoO 1) (mWalk (mSIGNS)) (mT true) (mCallN (g1 dOrd) (mCons (mAt 1) (mNil))) [1])) (mVal (mComp (stoO 2) (mRange rangeD2 (mCons (mVal (mC (.int 32))) (mCons (mVal (mC (.int 127))) (mNil)))) (tst (mOp2 dNe (mAt 2) (mVal (mC (.int 37))))) (mFz 2) [2]))))))
  (sRt (mC (.bl false)))
  (sNx))
  (sRt (mOp2 dEq (mAt 0) (mVal (mDisp mkL (mCons (mVal (mC (.int 1))) (mCons (mVal (mC (.int 1024))) (mCons (mVal (mC .non)) (mCons (mVal (mDisp mkT (mCons (mVal (mC (.int 52))) (mCons (mVal (mC (.int 18))) (mCons (mVal (mC (.int 0))) (mCons (mVal (mC (.int 0))) (mNil))))))) (mCons (mVal (mC (.int 4660))) (mCons (mVal (mDisp mkT (mCons (mVal (mC (.int 254))) (mCons (mVal (mC (.int 255))) (mCons (mVal (mC (.int 255))) (mCons (mVal (mC (.int 255))) (mNil))))))) (mCons (mVal (mOp1 dNeg (mVal (mC (.int 2))))) (mCons (mVal (mC (.bl true))) (mCons (mVal (mC (.bl false))) (mCons (mVal (mDisp mkT (mCons (mVal (mC (.int 172))) (mCons (mVal (mC (.int 2))) (mNil))))) (mCons (mVal (mDisp mkT (mCons (mVal (mC (.int 0))) (mNil)))) (mCons (mVal (mDisp mkT (mCons (mVal (mC (.int 300))) (mCons (mVal (mC (.int 2))) (mNil))))) (mCons (mVal (mDisp mkT (mCons (mVal (mC (.int 5))) (mCons (mVal (mC (.int 2))) (mNil))))) (mCons (mVal (mDisp mkT (mCons (mVal (mC (.int 127))) (mNil)))) (mCons (mVal (mDisp mkT (mCons (mVal (mC (.int 192))) (mCons (mVal (mC (.int 0))) (mNil))))) (mCons (mVal (mDisp mkT (mCons (mVal (mC (.int 191))) (mCons (mVal (mC (.int 127))) (mNil))))) (mCons (mVal (mDisp mkT (mCons (mVal (mC (.int 0))) (mNil)))) (mCons (mVal (mDisp mkT (mCons (mVal (mOp1 dNeg (mVal (mC (.int 1))))) (mCons (mVal (mC (.int 1))) (mNil))))) (mCons (mVal (mDisp mkT (mCons (mVal (mC (.int 64))) (mCons (mVal (mC (.int 2))) (mNil))))) (mCons (mVal (mC (.int 8))) (mCons (mVal (mC (.int 8))) (mCons (mVal (mC (.int 0))) (mCons (mVal (mC (.bl true))) (mCons (mVal (mC (.bl true))) (mCons (mVal (mC (.bl false))) (mCons (mVal (mC (.bl false))) (mCons (mVal (mC (.int 5381))) (mCons (mVal (mC (.int 2090499946))) (mCons (mVal (mC (.int 1))) (mCons (mVal (mC (.int 851975))) (mCons (mVal (mC (.str [48, 48, 102, 102]))) (mCons (mVal (mDisp mkT (mCons (mVal (mC (.int 97))) (mCons (mVal (mC (.int 32))) (mCons (mVal (mC (.int 98))) (mNil)))))) (mCons (mVal (mC (.str [72, 105]))) (mCons (mVal (mDisp mkT (mNil))) (mCons (mVal (mC (.str [65]))) (mCons (mVal (mC (.str []))) (mCons (mVal (mC (.str []))) (mNil))))))))))))))))))))))))))))))))))))))))))))))
def m__law_plain : List DV → RF := mFun 3 b__law_plain
abbrev s_law : Stmt := top 35
theorem sc_law : FnScope ["script", "dice", "number", "many", "place", "row", "half", "left", "k", "fits", "signed", "inside", "step", "up", "text", "told", "first", "second", "sign", "figures"] ["script"] (defScope s_law) := ⟨rfl, rfl, rfl, by decide +kernel, rfl, by decide +kernel, by decide +kernel⟩
def b_law : Sls → RS :=
  sSeq (sFor (stoO 1) (mWalk (mCallF [0] 2 m__law_rounds (mCons (mAt 0) (mCons (mVal (mC (.int 1))) (mNil)))))
  (sSeq (sAsg (stTup [stoO 2, stoO 3, stoO 4]) (mDisp mkT (mCons (mVal (mCallF [1] 1 m__law_number (mCons (mAt 1) (mNil)))) (mCons (mVal (mOp2 dAdd (mVal (mC (.int 1))) (mVal (mCallF [1] 2 m__law_roll (mCons (mAt 1) (mCons (mVal (mC (.int 8))) (mNil))))))) (mCons (mVal (mCallF [1] 2 m__law_roll (mCons (mAt 1) (mCons (mVal (mC (.int 3))) (mNil))))) (mNil))))))
  (sSeq (sPar [stoO 5, stoO 6, stoO 7] (mCons (mVal (mDisp mkL (mNil))) (mCons (mVal (mC (.int 1))) (mCons (mVal (mFz 2)) (mNil)))))
  (sSeq (sFor (stoO 8) (mRange rangeD1 (mCons (mAt 3) (mNil)))
  (sPar [stoO 5, stoO 7, stoO 6] (mCons (mVal (mOp2 dAdd (mAt 5) (mVal (mDisp mkL (mCons (mVal (mOp2 (ints2 modI) (mAt 7) (mVal (mC (.int 256))))) (mNil)))))) (mCons (mVal (mOp2 (ints2 divI) (mAt 7) (mVal (mC (.int 256))))) (mCons (mVal (mOp2 dMul (mAt 6) (mVal (mC (.int 256))))) (mNil))))))
  (sSeq (sSet 6 (mOp2 (ints2 divI) (mAt 6) (mVal (mC (.int 2)))))
  (sSeq (sSet 9 (mOp2 dLt (mAt 2) (mVal (mOp2 dMul (mVal (mC (.int 2))) (mAt 6)))))
  (sSeq (sIf (tst (mOp2 dNe (mVal (mTold nEx sub_WordError [87, 111, 114, 100, 69, 114, 114, 111, 114] (mCallF [2, 3] 2 m_packed (mCons (mAt 2) (mCons (mAt 3) (mNil)))))) (mVal (cond (tst (mRd 9)) (mCallN (g1 dTup) (mCons (mAt 5) (mNil))) (mC (.str [87, 111, 114, 100, 69, 114, 114, 111, 114]))))))
  (sRt (mC (.bl false)))
  (sNx))
  (sSeq (sIf (cond (tst (mRd 9)) (tst (mOp2 dNe (mVal (mCallF [4, 3] 3 m_unpacked (mCons (mVal (mOp2 dAdd (mVal (mOp2 dAdd (mVal (mOp2 dMul (mVal (mDisp mkL (mCons (mVal (mC (.int 7))) (mNil)))) (mAt 4))) (mAt 5))) (mVal (mDisp mkL (mCons (mVal (mC (.int 9))) (mNil)))))) (mCons (mAt 4) (mCons (mAt 3) (mNil)))))) (mAt 2))) (mT false))
  (sRt (mC (.bl false)))
  (sNx))
  (sSeq (sSet 10 (mOp2 dMul (mAt 2) (mVal (mOp2 dIx (mVal (mDisp mkL (mCons (mVal (mC (.int 1))) (mCons (mVal (mOp1 dNeg (mVal (mC (.int 1))))) (mNil))))) (mVal (mCallF [1] 2 m__law_roll (mCons (mAt 1) (mCons (mVal (mC (.int 2))) (mNil)))))))))
  (sSeq (sSet 11 (mCh dLe dLt (mVal (mOp1 dNeg (mAt 6))) (mAt 10) (mAt 6)))
  (sSeq (sIf (cond (tst (mOp2 dNe (mVal (mCallF [10, 3] 2 m_fits_signed (mCons (mAt 10) (mCons (mAt 3) (mNil))))) (mAt 11))) (mT true) (tst (mOp2 dEq (mVal (mOp2 dEq (mVal (mTold nEx sub_WordError [87, 111, 114, 100, 69, 114, 114, 111, 114] (mCallF [10, 3] 2 m_packed_signed (mCons (mAt 10) (mCons (mAt 3) (mNil)))))) (mVal (mC (.str [87, 111, 114, 100, 69, 114, 114, 111, 114]))))) (mAt 11))))
  (sRt (mC (.bl false)))
  (sNx))
  (sSeq (sIf (cond (tst (mRd 11)) (cond (tst (mOp2 dNe (mVal (mCallF [4, 3] 3 m_unpacked_signed (mCons (mVal (mOp2 dAdd (mVal (mOp2 dMul (mVal (mDisp mkL (mCons (mVal (mC (.int 7))) (mNil)))) (mAt 4))) (mVal (mCallN (g1 dList) (mCons (mVal (mCallF [10, 3] 2 m_packed_signed (mCons (mAt 10) (mCons (mAt 3) (mNil))))) (mNil)))))) (mCons (mAt 4) (mCons (mAt 3) (mNil)))))) (mAt 10))) (mT true) (cond (tst (mOp2 dGe (mAt 10) (mVal (mC (.int 0))))) (tst (mOp2 dNe (mVal (mCallN (g1 dList) (mCons (mVal (mCallF [10, 3] 2 m_packed_signed (mCons (mAt 10) (mCons (mAt 3) (mNil))))) (mNil)))) (mAt 5))) (mT false))) (mT false))
  (sRt (mC (.bl false)))
  (sNx))
  (sSeq (sIf (cond (tst (mOp2 dNe (mVal (mCallN (g1 dList) (mCons (mVal (mCallF [2] 1 m_seven (mCons (mAt 2) (mNil)))) (mNil)))) (mVal (mCallF [2] 1 m__law_seven (mCons (mAt 2) (mNil)))))) (mT true) (tst (mOp2 dNe (mVal (mCallF [4] 2 m_read_seven (mCons (mVal (mOp2 dAdd (mVal (mOp2 dAdd (mVal (mOp2 dMul (mVal (mDisp mkL (mCons (mVal (mC (.int 200))) (mNil)))) (mAt 4))) (mVal (mCallF [2] 1 m__law_seven (mCons (mAt 2) (mNil)))))) (mVal (mDisp mkL (mCons (mVal (mC (.int 5))) (mNil)))))) (mCons (mAt 4) (mNil))))) (mVal (mDisp mkT (mCons (mVal (mFz 2)) (mCons (mVal (mOp2 dAdd (mAt 4) (mVal (mCallN (g1 dLen) (mCons (mVal (mCallF [2] 1 m__law_seven (mCons (mAt 2) (mNil)))) (mNil)))))) (mNil))))))))
  (sRt (mC (.bl false)))
  (sNx))
  (sSeq (sIf (cond (tst (mOp2 dNe (mVal (mCallN (g1 dList) (mCons (mVal (mCallF [10] 1 m_seven_signed (mCons (mAt 10) (mNil)))) (mNil)))) (mVal (mCallF [10] 1 m__law_signed (mCons (mAt 10) (mNil)))))) (mT true) (tst (mOp2 dNe (mVal (mCallF [4] 2 m_read_seven_signed (mCons (mVal (mOp2 dAdd (mVal (mOp2 dAdd (mVal (mOp2 dMul (mVal (mDisp mkL (mCons (mVal (mC (.int 200))) (mNil)))) (mAt 4))) (mVal (mCallF [10] 1 m__law_signed (mCons (mAt 10) (mNil)))))) (mVal (mDisp mkL (mCons (mVal (mC (.int 5))) (mNil)))))) (mCons (mAt 4) (mNil))))) (mVal (mDisp mkT (mCons (mVal (mFz 10)) (mCons (mVal (mOp2 dAdd (mAt 4) (mVal (mCallN (g1 dLen) (mCons (mVal (mCallF [10] 1 m__law_signed (mCons (mAt 10) (mNil)))) (mNil)))))) (mNil))))))))
  (sRt (mC (.bl false)))
  (sNx))
  (sSeq (sSet 12 (mOp2 dAdd (mVal (mC (.int 1))) (mVal (mCallF [1] 2 m__law_roll (mCons (mAt 1) (mCons (mVal (mC (.int 40))) (mNil)))))))
  (sSeq (sSet 13 (mCallF [2, 12] 2 m_rounded_up (mCons (mAt 2) (mCons (mAt 12) (mNil)))))
  (sSeq (sIf (cond (tst (mOp2 dNe (mVal (mOp2 (ints2 modI) (mAt 13) (mAt 12))) (mVal (mC (.int 0))))) (mT true) (cond (mNot (tst (mCh dLe dLt (mAt 2) (mAt 13) (mVal (mOp2 dAdd (mAt 2) (mAt 12)))))) (mT true) (tst (mOp2 dNe (mVal (mCallF [12] 1 m_is_power (mCons (mAt 12) (mNil)))) (mVal (mOp2 dIn (mAt 12) (mVal (mDisp mkL (mCons (mVal (mC (.int 1))) (mCons (mVal (mC (.int 2))) (mCons (mVal (mC (.int 4))) (mCons (mVal (mC (.int 8))) (mCons (mVal (mC (.int 16))) (mCons (mVal (mC (.int 32))) (mNil)))))))))))))))
  (sRt (mC (.bl false)))
  (sNx))
  (sSeq (sSet 14 (mJoin [] (mVal (mComp (stoO 8) (mRange rangeD1 (mCons (mVal (mCallF [1] 2 m__law_roll (mCons (mAt 1) (mCons (mVal (mC (.int 7))) (mNil))))) (mNil))) (mT true) (mOp2 dIx (mVal (mSIGNS)) (mVal (mCallF [1] 2 m__law_roll (mCons (mAt 1) (mCons (mVal (mCallN (g1 dLen) (mCons (mVal (mSIGNS)) (mNil)))) (mNil)))))) [8]))))
  (sSeq (sAsg (stTup [stoO 15, stoO 16, stoO 17]) (mDisp mkT (mCons (mVal (mC (.int 5381))) (mCons (mVal (mC (.int 1))) (mCons (mVal (mC (.int 0))) (mNil))))))
  (sSeq (sFor (stoO 18) (mWalk (mFz 14))
  (sSeq (sPar [stoO 15, stoO 16] (mCons (mVal (mOp2 dAdd (mVal (mOp2 dMul (mAt 15) (mVal (mC (.int 33))))) (mVal (mCallN (g1 dOrd) (mCons (mAt 18) (mNil)))))) (mCons (mVal (mOp2 dAdd (mAt 16) (mVal (mCallN (g1 dOrd) (mCons (mAt 18) (mNil)))))) (mNil))))
  (sSet 17 (mOp2 dAdd (mAt 17) (mAt 16)))))
  (sSeq (sIf (cond (tst (mOp2 dNe (mVal (mCallF [14] 1 m_text_print (mCons (mAt 14) (mNil)))) (mVal (mOp2 (ints2 modI) (mAt 15) (mVal (mOp2 (ints2 powI) (mVal (mC (.int 2))) (mVal (mC (.int 32))))))))) (mT true) (cond (tst (mOp2 dNe (mVal (mCallF [] 1 m_bytes_print (mCons (mVal (mCallF [14] 1 m_text_bytes (mCons (mAt 14) (mNil)))) (mNil)))) (mVal (mOp2 dAdd (mVal (mOp2 dMul (mVal (mOp2 (ints2 modI) (mAt 17) (mVal (mC (.int 65521))))) (mVal (mC (.int 65536))))) (mVal (mOp2 (ints2 modI) (mAt 16) (mVal (mC (.int 65521))))))))) (mT true) (tst (mOp2 dNe (mVal (mCallF [] 1 m_bytes_text (mCons (mVal (mComp (stoO 18) (mWalk (mFz 14)) (mT true) (mCallN (g1 dOrd) (mCons (mAt 18) (mNil))) [18])) (mNil)))) (mAt 14)))))
  (sRt (mC (.bl false)))
  (sNx))
  (sSeq (sPar [stoO 19, stoO 7] (mCons (mVal (mC (.str []))) (mCons (mVal (mFz 2)) (mNil))))
  (sSeq (sFor (stoO 8) (mRange rangeD1 (mCons (mVal (mC (.int 12))) (mNil)))
  (sPar [stoO 19, stoO 7] (mCons (mVal (mOp2 dAdd (mVal (mOp2 dIx (mVal (mC (.str [48, 49, 50, 51, 52, 53, 54, 55, 56, 57, 97, 98, 99, 100, 101, 102]))) (mVal (mOp2 (ints2 modI) (mAt 7) (mVal (mC (.int 16))))))) (mAt 19))) (mCons (mVal (mOp2 (ints2 divI) (mAt 7) (mVal (mC (.int 16))))) (mNil)))))
  (sIf (cond (tst (mOp2 dNe (mVal (mCallF [2] 2 m_told_hex (mCons (mAt 2) (mCons (mVal (mC (.int 12))) (mNil))))) (mAt 19))) (mT true) (tst (mOp2 dNe (mVal (mCallF [3] 1 m_power_of (mCons (mAt 3) (mNil)))) (mVal (mOp2 dMul (mVal (mC (.int 2))) (mVal (mCallF [] 1 m_power_of (mCons (mVal (mOp2 dSub (mAt 3) (mVal (mC (.int 1))))) (mNil)))))))))
  (sRt (mC (.bl false)))
  (sNx)))))))))))))))))))))))))
  (sRt (mCallF [] 0 m__law_plain mNil))
def m_law : List DV → RF := mFun 20 b_law
structure Txt (C : Cb) (mg : Str → Option Value) (base : Heap) (fa ca pa : Nat → Addr) : Prop where
  f_power_of : FnT C mg "power_of" s_power_of (fa 0) ["times"]
  f_check_bytes : FnTC C mg "check_bytes" s_check_bytes (fa 1) (ca 1) ["numbers"]
  g_check_bytes : GenT C mg base (ca 1) (pa 1)
  f_packed : FnT C mg "packed" s_packed (fa 2) ["number", "many"]
  f_unpacked : FnT C mg "unpacked" s_unpacked (fa 3) ["numbers", "place", "many"]
  f_packed_signed : FnT C mg "packed_signed" s_packed_signed (fa 4) ["number", "many"]
  f_unpacked_signed : FnT C mg "unpacked_signed" s_unpacked_signed (fa 5) ["numbers", "place", "many"]
  f_fits_signed : FnT C mg "fits_signed" s_fits_signed (fa 6) ["number", "many"]
  f_seven : FnT C mg "seven" s_seven (fa 7) ["number"]
  f_read_seven : FnT C mg "read_seven" s_read_seven (fa 8) ["numbers", "place"]
  f_seven_signed : FnT C mg "seven_signed" s_seven_signed (fa 9) ["number"]
  f_read_seven_signed : FnT C mg "read_seven_signed" s_read_seven_signed (fa 10) ["numbers", "place"]
  f_rounded_up : FnT C mg "rounded_up" s_rounded_up (fa 11) ["place", "step"]
  f_is_power : FnT C mg "is_power" s_is_power (fa 12) ["number"]
  f_text_bytes : FnTC C mg "text_bytes" s_text_bytes (fa 13) (ca 13) ["text"]
  g_text_bytes : GenT C mg base (ca 13) (pa 13)
  f_text_print : FnT C mg "text_print" s_text_print (fa 14) ["text"]
  f_bytes_print : FnT C mg "bytes_print" s_bytes_print (fa 15) ["numbers"]
  f_told_hex : FnT C mg "told_hex" s_told_hex (fa 16) ["number", "many"]
  f_sign_of : FnT C mg "sign_of" s_sign_of (fa 17) ["number"]
  f_bytes_text : FnT C mg "bytes_text" s_bytes_text (fa 18) ["numbers"]
  f__law_dice : FnT C mg "_law_dice" s__law_dice (fa 19) ["cell"]
  f__law_roll : FnT C mg "_law_roll" s__law_roll (fa 20) ["dice", "many"]
  f__law_rounds : FnT C mg "_law_rounds" s__law_rounds (fa 21) ["script", "most"]
  f__law_number : FnT C mg "_law_number" s__law_number (fa 22) ["dice"]
  f__law_seven : FnT C mg "_law_seven" s__law_seven (fa 23) ["number"]
  f__law_signed : FnT C mg "_law_signed" s__law_signed (fa 24) ["number"]
  f__law_refused : FnTC C mg "_law_refused" s__law_refused (fa 25) (ca 25) []
  l__law_refused : LamT C mg base "_law_refused" (ca 25) (pa 25)
  f__law_plain : FnT C mg "_law_plain" s__law_plain (fa 26) []
  f_law : FnTC C mg "law" s_law (fa 27) (ca 27) ["script"]
  l_law : LamT C mg base "law" (ca 27) (pa 27)
  t__law_told : ToldT C mg "_law_told" (fa 28) "what" "WordError" [87, 111, 114, 100, 69, 114, 114, 111, 114] (C.exc 0) nEx sub_WordError
  b_range : mg "range" = none
  b_any : mg "any" = none
  b_tuple : mg "tuple" = none
  b_len : mg "len" = none
  b_ord : mg "ord" = none
  b_abs : mg "abs" = none
  b_int : mg "int" = none
  b_enumerate : mg "enumerate" = none
  b_list : mg "list" = none
  c___name__ : ConT mg "__name__" (.str [108, 97, 119, 95, 108, 105, 110, 107, 115, 116, 97, 99, 107, 95, 107, 48, 49, 95, 119, 111, 114, 100, 115, 95, 97, 115, 95, 98, 121, 116, 101, 115])
  c_MOST_BYTES : ConT mg "MOST_BYTES" (.int 8)
  c_SIGNS : ConT mg "SIGNS" (.str [32, 33, 34, 35, 36, 38, 39, 40, 41, 42, 43, 44, 45, 46, 47, 48, 49, 50, 51, 52, 53, 54, 55, 56, 57, 58, 59, 60, 61, 62, 63, 64, 65, 66, 67, 68, 69, 70, 71, 72, 73, 74, 75, 76, 77, 78, 79, 80, 81, 82, 83, 84, 85, 86, 87, 88, 89, 90, 91, 92, 93, 94, 95, 96, 97, 98, 99, 100, 101, 102, 103, 104, 105, 106, 107, 108, 109, 110, 111, 112, 113, 114, 115, 116, 117, 118, 119, 120, 121, 122, 123, 124, 125, 126])
  x_WordError : ExcT C mg "WordError" 0
  x_LinkFault : ExcT C mg "LinkFault" 1
end K01

set_option Elab.async false
set_option linter.all false
set_option maxRecDepth 100000
set_option maxHeartbeats 4000000
namespace K01
open Pv
theorem pow_all : (List.range 65).map (fun n : Nat => m_power_of [.fr (.int n)]) = (List.range 65).map fun n : Nat => .ok (.fr (.int (2 ^ n : Nat))) [.un] := by kernel_rfl
theorem pow_eq (n : Nat) (h : n ≤ 64) : m_power_of [.fr (.int n)] = .ok (.fr (.int (2 ^ n : Nat))) [.un] := List.map_inj_left.mp pow_all n (List.mem_range.mpr (by omega))
/-- the digits of n, the lowest first -/
def rowi (m n : Nat) : List Int := (List.range m).map fun j => ((n / 256 ^ j % 256 : Nat) : Int)
def rowd (m n : Nat) : List D := (rowi m n).map D.int
theorem rowi_succ (m n : Nat) : rowi (m + 1) n = rowi m n ++ [((n / 256 ^ m % 256 : Nat) : Int)] := by simp [rowi, List.range_succ]
theorem rowi_len (m n : Nat) : (rowi m n).length = m := by simp [rowi]
theorem rowd_succ (m n : Nat) : rowd (m + 1) n = rowd m n ++ [.int ((n / 256 ^ m % 256 : Nat) : Int)] := by simp [rowd, rowi_succ]
theorem rowd_len (m n : Nat) : (rowd m n).length = m := by simp [rowd, rowi_len]
theorem div_succ (n i : Nat) : n / 256 ^ i / 256 = n / 256 ^ (i + 1) := by rw [Nat.div_div_eq_div_mul, Nat.pow_succ]
theorem packed_ok (n m : Nat) (h1 : 1 ≤ m) (h8 : m ≤ 8) (hn : n < 2 ^ (8 * m)) : m_packed [.fr (.int n), .fr (.int m)] = .ok (.fr (.tup (rowd m n))) [.un, .un] := by
  have a1 : (1 : Int) ≤ m := by omega
  have a2 : (m : Int) ≤ 8 := by omega
  have a3 : okMul 8 m = true := rfl
  have a4 : (8 : Int) * m = ((8 * m : Nat) : Int) := by omega
  have a5 := pow_eq (8 * m) (by omega)
  have a6 : inR m = true := by unfold inR; simp; omega
  have h0 : (0 : Int) ≤ n := by omega
  have hn' : (n : Int) < (2 ^ (8 * m) : Nat) := by omega
  have st : iterS (stoO 4) (sSeq (sAppend 2 (mOp2 (ints2 modI) (mAt 3) (mVal (mC (.int 256))))) (sAug 3 (ints2 idivI) (mC (.int 256)))) (rgItems 0 m) [.s false (.fr (.int n)), .s false (.fr (.int m)), .s false (.ow (.lst .own [])), .s false (.fr (.int n)), .un] =
      .nx [.s false (.fr (.int n)), .s false (.fr (.int m)), .s false (.ow (.lst .own (rowd m n))), .s false (.fr (.int (n / 256 ^ m : Nat))), tn m] := by
    have := iterS_inv (s := stoO 4) (body := sSeq (sAppend 2 (mOp2 (ints2 modI) (mAt 3) (mVal (mC (.int 256))))) (sAug 3 (ints2 idivI) (mC (.int 256))))
      (fun i => [.s false (.fr (.int n)), .s false (.fr (.int m)), .s false (.ow (.lst .own (rowd i n))), .s false (.fr (.int (n / 256 ^ i : Nat))), tn i]) (rgItems 0 m) 0 (fun i x hx => ?_)
    · rw [rg_len] at this
      simpa [tn, rowd, rowi] using this
    · obtain ⟨hi, rfl⟩ := rg_get hx
      refine ⟨[.s false (.fr (.int n)), .s false (.fr (.int m)), .s false (.ow (.lst .own (rowd i n))), .s false (.fr (.int (n / 256 ^ i : Nat))), .s false (.fr (.int i))], ?_, .inl ?_⟩
      · rcases i with _ | i <;> simp -implicitDefEqProofs only [tn, Int.zero_add, bind_ok, bind_er, bind_bad, thenS_ok, thenS_er, thenS_bad, then_nx, then_rt, then_bk, then_ct, then_er, fin_some, ofO_some, e_sSeq, e_sIf, e_sRt, e_sSet, e_sto, e_sAug, e_sFor, e_sPar, e_sAsg, e_sEx, e_sNx, e_sRaise, e_sItem, e_sAppend, e_sRtN, e_sBk, e_sCt, e_mC, e_mRd, e_mFz, e_frz, e_mMv, e_mVal, e_mAt, e_mOp2, e_mOp1, e_tst, e_cond, e_mT, e_mCh, e_mNil, e_mCons, e_mCallN, e_mDisp, e_stoO, e_stTup, e_mRange, e_lstAt, e_callIt, e_mCallF, e_mNoP, e_mSomeP, e_mSl, e_mWalk, e_mComp, e_mGen, e_mTold, e_sTry, e_capsOk, e_dLt, e_dLe, e_dGt, e_dGe, e_dSub, e_dMax2, e_dMin2, e_mNot, e_mB, e_mJoin, Pv.mFun, Pv.entry, Pv.argS, Pv.finals, Pv.see, Pv.sees, Pv.vals, Pv.takes, Pv.pinOf, Pv.back, Pv.atsOk, Pv.allFr, Pv.ds, Pv.mkT, Pv.mkL, Pv.fz, Pv.kidVs, Pv.stAll, Pv.rangeD1, Pv.rangeD2, Pv.markOf, Pv.g1, Pv.g2, Pv.dLen, Pv.dAbs, Pv.dInt, Pv.dTup, Pv.dList, Pv.dAdd, Pv.dMul, Pv.dNeg, Pv.ints2, DV.d, Pv.modI_p, Pv.divI_p, Pv.idivI_p, Pv.imulI_r, Pv.mulI_p, Pv.powI_p, Pv.dSl, Pv.fzs, Pv.walkD, Pv.dRev, Pv.dOrd, Pv.kids, Pv.kidsL, Pv.kidsT, Pv.items, Pv.dIx, Pv.dEq, Pv.dNe, Pv.dIn, Pv.dNotIn, Pv.eqD_int, Pv.eqD_str, Pv.eqD_bl, Pv.kAny, Pv.kTupG, Pv.anyD, Pv.gSl, sz0, sy0, sz1, sy1, sz2, sy2, sz3, sy3, sz4, sy4, sz5, sy5, sz6, sy6, sz7, sy7, sz8, sy8, sz9, sy9, sz10, sy10, sz11, sy11, sz12, sy12, decide_true, decide_false, decide_not, ite_true, ite_false, not_true_eq_false, not_false_eq_true, List.map_nil, List.map_cons, List.length_nil, List.length_cons, List.replicate_succ, List.replicate_zero, List.nil_append, List.cons_append, List.append_nil, List.getElem?_cons_zero, List.getElem?_cons_succ, List.getElem?_nil, List.set_cons_zero, List.set_cons_succ, List.length_replicate, Option.map_some, Option.map_none, Option.bind_some, Option.bind_none, Nat.sub_self, Nat.reduceSub, Nat.reduceAdd, Nat.zero_add, eq_self, List.contains_cons, List.contains_nil, Bool.and_true, Bool.true_and, Bool.or_true, Bool.true_or, Bool.or_false, Bool.false_or, Bool.and_false, Bool.false_and, Bool.and_self, beq_self_eq_true, Nat.reduceBEq, if_true, if_false, Bool.false_eq_true, reduceIte, reduceCtorEq, decide_eq_true_eq, Bool.not_true, Bool.not_false]
      · have b1 : (0 : Int) < 256 := by omega
        have b2 : ((n / 256 ^ i : Nat) : Int) % 256 = ((n / 256 ^ i % 256 : Nat) : Int) := by omega
        have b3 : (256 : Int) < 1073741824 := by omega
        have b4 : ((n / 256 ^ i : Nat) : Int) / 256 = ((n / 256 ^ (i + 1) : Nat) : Int) := by rw [← div_succ]; omega
        have b5 : i < PySem.sizeLine := Nat.lt_of_lt_of_le (show i < 8 by omega) (by decide)
        simp -implicitDefEqProofs only [Nat.zero_add, tn, b1, b2, b3, b4, b5, rowd_len, rowd_succ, and_self, bind_ok, bind_er, bind_bad, thenS_ok, thenS_er, thenS_bad, then_nx, then_rt, then_bk, then_ct, then_er, fin_some, ofO_some, e_sSeq, e_sIf, e_sRt, e_sSet, e_sto, e_sAug, e_sFor, e_sPar, e_sAsg, e_sEx, e_sNx, e_sRaise, e_sItem, e_sAppend, e_sRtN, e_sBk, e_sCt, e_mC, e_mRd, e_mFz, e_frz, e_mMv, e_mVal, e_mAt, e_mOp2, e_mOp1, e_tst, e_cond, e_mT, e_mCh, e_mNil, e_mCons, e_mCallN, e_mDisp, e_stoO, e_stTup, e_mRange, e_lstAt, e_callIt, e_mCallF, e_mNoP, e_mSomeP, e_mSl, e_mWalk, e_mComp, e_mGen, e_mTold, e_sTry, e_capsOk, e_dLt, e_dLe, e_dGt, e_dGe, e_dSub, e_dMax2, e_dMin2, e_mNot, e_mB, e_mJoin, Pv.mFun, Pv.entry, Pv.argS, Pv.finals, Pv.see, Pv.sees, Pv.vals, Pv.takes, Pv.pinOf, Pv.back, Pv.atsOk, Pv.allFr, Pv.ds, Pv.mkT, Pv.mkL, Pv.fz, Pv.kidVs, Pv.stAll, Pv.rangeD1, Pv.rangeD2, Pv.markOf, Pv.g1, Pv.g2, Pv.dLen, Pv.dAbs, Pv.dInt, Pv.dTup, Pv.dList, Pv.dAdd, Pv.dMul, Pv.dNeg, Pv.ints2, DV.d, Pv.modI_p, Pv.divI_p, Pv.idivI_p, Pv.imulI_r, Pv.mulI_p, Pv.powI_p, Pv.dSl, Pv.fzs, Pv.walkD, Pv.dRev, Pv.dOrd, Pv.kids, Pv.kidsL, Pv.kidsT, Pv.items, Pv.dIx, Pv.dEq, Pv.dNe, Pv.dIn, Pv.dNotIn, Pv.eqD_int, Pv.eqD_str, Pv.eqD_bl, Pv.kAny, Pv.kTupG, Pv.anyD, Pv.gSl, sz0, sy0, sz1, sy1, sz2, sy2, sz3, sy3, sz4, sy4, sz5, sy5, sz6, sy6, sz7, sy7, sz8, sy8, sz9, sy9, sz10, sy10, sz11, sy11, sz12, sy12, decide_true, decide_false, decide_not, ite_true, ite_false, not_true_eq_false, not_false_eq_true, List.map_nil, List.map_cons, List.length_nil, List.length_cons, List.replicate_succ, List.replicate_zero, List.nil_append, List.cons_append, List.append_nil, List.getElem?_cons_zero, List.getElem?_cons_succ, List.getElem?_nil, List.set_cons_zero, List.set_cons_succ, List.length_replicate, Option.map_some, Option.map_none, Option.bind_some, Option.bind_none, Nat.sub_self, Nat.reduceSub, Nat.reduceAdd, Nat.zero_add, eq_self, List.contains_cons, List.contains_nil, Bool.and_true, Bool.true_and, Bool.or_true, Bool.true_or, Bool.or_false, Bool.false_or, Bool.and_false, Bool.false_and, Bool.and_self, beq_self_eq_true, Nat.reduceBEq, if_true, if_false, Bool.false_eq_true, reduceIte, reduceCtorEq, decide_eq_true_eq, Bool.not_true, Bool.not_false]
  have a7 : m ≤ PySem.sizeLine := Nat.le_trans h8 (by decide)
  unfold m_packed b_packed
  simp -implicitDefEqProofs only [mMOST_BYTES, a1, a2, a3, a4, a5, a6, h0, hn', st, Int.toNat_natCast, rowd_len, a7, bind_ok, bind_er, bind_bad, thenS_ok, thenS_er, thenS_bad, then_nx, then_rt, then_bk, then_ct, then_er, fin_some, ofO_some, e_sSeq, e_sIf, e_sRt, e_sSet, e_sto, e_sAug, e_sFor, e_sPar, e_sAsg, e_sEx, e_sNx, e_sRaise, e_sItem, e_sAppend, e_sRtN, e_sBk, e_sCt, e_mC, e_mRd, e_mFz, e_frz, e_mMv, e_mVal, e_mAt, e_mOp2, e_mOp1, e_tst, e_cond, e_mT, e_mCh, e_mNil, e_mCons, e_mCallN, e_mDisp, e_stoO, e_stTup, e_mRange, e_lstAt, e_callIt, e_mCallF, e_mNoP, e_mSomeP, e_mSl, e_mWalk, e_mComp, e_mGen, e_mTold, e_sTry, e_capsOk, e_dLt, e_dLe, e_dGt, e_dGe, e_dSub, e_dMax2, e_dMin2, e_mNot, e_mB, e_mJoin, Pv.mFun, Pv.entry, Pv.argS, Pv.finals, Pv.see, Pv.sees, Pv.vals, Pv.takes, Pv.pinOf, Pv.back, Pv.atsOk, Pv.allFr, Pv.ds, Pv.mkT, Pv.mkL, Pv.fz, Pv.kidVs, Pv.stAll, Pv.rangeD1, Pv.rangeD2, Pv.markOf, Pv.g1, Pv.g2, Pv.dLen, Pv.dAbs, Pv.dInt, Pv.dTup, Pv.dList, Pv.dAdd, Pv.dMul, Pv.dNeg, Pv.ints2, DV.d, Pv.modI_p, Pv.divI_p, Pv.idivI_p, Pv.imulI_r, Pv.mulI_p, Pv.powI_p, Pv.dSl, Pv.fzs, Pv.walkD, Pv.dRev, Pv.dOrd, Pv.kids, Pv.kidsL, Pv.kidsT, Pv.items, Pv.dIx, Pv.dEq, Pv.dNe, Pv.dIn, Pv.dNotIn, Pv.eqD_int, Pv.eqD_str, Pv.eqD_bl, Pv.kAny, Pv.kTupG, Pv.anyD, Pv.gSl, sz0, sy0, sz1, sy1, sz2, sy2, sz3, sy3, sz4, sy4, sz5, sy5, sz6, sy6, sz7, sy7, sz8, sy8, sz9, sy9, sz10, sy10, sz11, sy11, sz12, sy12, decide_true, decide_false, decide_not, ite_true, ite_false, not_true_eq_false, not_false_eq_true, List.map_nil, List.map_cons, List.length_nil, List.length_cons, List.replicate_succ, List.replicate_zero, List.nil_append, List.cons_append, List.append_nil, List.getElem?_cons_zero, List.getElem?_cons_succ, List.getElem?_nil, List.set_cons_zero, List.set_cons_succ, List.length_replicate, Option.map_some, Option.map_none, Option.bind_some, Option.bind_none, Nat.sub_self, Nat.reduceSub, Nat.reduceAdd, Nat.zero_add, eq_self, List.contains_cons, List.contains_nil, Bool.and_true, Bool.true_and, Bool.or_true, Bool.true_or, Bool.or_false, Bool.false_or, Bool.and_false, Bool.false_and, Bool.and_self, beq_self_eq_true, Nat.reduceBEq, if_true, if_false, Bool.false_eq_true, reduceIte, reduceCtorEq, decide_eq_true_eq, Bool.not_true, Bool.not_false]

/-- bytes that stand -/
def bytes (ys : List Int) : Prop := ∀ y ∈ ys, 0 ≤ y ∧ y ≤ 255
theorem check_gen {ys : List Int} (h : bytes ys) : genIt (stoO 0) (mT true) (Pv.cond (tst (mCh dLe dLe (mVal (mC (.int 0))) (mAt 0) (mVal (mC (.int 255))))) (mB false) (mB true)) (ys.map fun y => .fr (.int y)) [.un] = ((ys.map fun y => DV.fr (D.int y)).map fun _ => D.bl false, true) := by
  refine genIt_all (P := fun δ => ∃ z, δ = [z] ∧ ∀ x, z ≠ .s true x) (fun x hx δ hp => ?_) ⟨.un, rfl, fun _ h => by cases h⟩
  obtain ⟨z, rfl, hz⟩ := hp
  obtain ⟨y, hy, rfl⟩ := List.mem_map.mp hx
  obtain ⟨h0, h1⟩ := h y hy
  refine ⟨[.s false (.fr (.int y))], [.s false (.fr (.int y))], [.s false (.fr (.int y))], .fr (.bl false), ?_, rfl, ?_, rfl, _, rfl, fun _ h => by cases h⟩
  · cases z with
    | un => rfl
    | s p x => cases p with
      | true => exact absurd rfl (hz x)
      | false => rfl
    | lm is => rfl
  · simp -implicitDefEqProofs only [h0, h1, bind_ok, bind_er, bind_bad, thenS_ok, thenS_er, thenS_bad, then_nx, then_rt, then_bk, then_ct, then_er, fin_some, ofO_some, e_sSeq, e_sIf, e_sRt, e_sSet, e_sto, e_sAug, e_sFor, e_sPar, e_sAsg, e_sEx, e_sNx, e_sRaise, e_sItem, e_sAppend, e_sRtN, e_sBk, e_sCt, e_mC, e_mRd, e_mFz, e_frz, e_mMv, e_mVal, e_mAt, e_mOp2, e_mOp1, e_tst, e_cond, e_mT, e_mCh, e_mNil, e_mCons, e_mCallN, e_mDisp, e_stoO, e_stTup, e_mRange, e_lstAt, e_callIt, e_mCallF, e_mNoP, e_mSomeP, e_mSl, e_mWalk, e_mComp, e_mGen, e_mTold, e_sTry, e_capsOk, e_dLt, e_dLe, e_dGt, e_dGe, e_dSub, e_dMax2, e_dMin2, e_mNot, e_mB, e_mJoin, Pv.mFun, Pv.entry, Pv.argS, Pv.finals, Pv.see, Pv.sees, Pv.vals, Pv.takes, Pv.pinOf, Pv.back, Pv.atsOk, Pv.allFr, Pv.ds, Pv.mkT, Pv.mkL, Pv.fz, Pv.kidVs, Pv.stAll, Pv.rangeD1, Pv.rangeD2, Pv.markOf, Pv.g1, Pv.g2, Pv.dLen, Pv.dAbs, Pv.dInt, Pv.dTup, Pv.dList, Pv.dAdd, Pv.dMul, Pv.dNeg, Pv.ints2, DV.d, Pv.modI_p, Pv.divI_p, Pv.idivI_p, Pv.imulI_r, Pv.mulI_p, Pv.powI_p, Pv.dSl, Pv.fzs, Pv.walkD, Pv.dRev, Pv.dOrd, Pv.kids, Pv.kidsL, Pv.kidsT, Pv.items, Pv.dIx, Pv.dEq, Pv.dNe, Pv.dIn, Pv.dNotIn, Pv.eqD_int, Pv.eqD_str, Pv.eqD_bl, Pv.kAny, Pv.kTupG, Pv.anyD, Pv.gSl, sz0, sy0, sz1, sy1, sz2, sy2, sz3, sy3, sz4, sy4, sz5, sy5, sz6, sy6, sz7, sy7, sz8, sy8, sz9, sy9, sz10, sy10, sz11, sy11, sz12, sy12, decide_true, decide_false, decide_not, ite_true, ite_false, not_true_eq_false, not_false_eq_true, List.map_nil, List.map_cons, List.length_nil, List.length_cons, List.replicate_succ, List.replicate_zero, List.nil_append, List.cons_append, List.append_nil, List.getElem?_cons_zero, List.getElem?_cons_succ, List.getElem?_nil, List.set_cons_zero, List.set_cons_succ, List.length_replicate, Option.map_some, Option.map_none, Option.bind_some, Option.bind_none, Nat.sub_self, Nat.reduceSub, Nat.reduceAdd, Nat.zero_add, eq_self, List.contains_cons, List.contains_nil, Bool.and_true, Bool.true_and, Bool.or_true, Bool.true_or, Bool.or_false, Bool.false_or, Bool.and_false, Bool.false_and, Bool.and_self, beq_self_eq_true, Nat.reduceBEq, if_true, if_false, Bool.false_eq_true, reduceIte, reduceCtorEq, decide_eq_true_eq, Bool.not_true, Bool.not_false]
theorem any_no (ys : List Int) : Pv.anyD ((ys.map fun y => DV.fr (D.int y)).map fun _ => D.bl false) true = some false := anyD_no fun d hd => by
  obtain ⟨_, _, rfl⟩ := List.mem_map.mp hd
  rfl
theorem check_ow {ys : List Int} (h : bytes ys) : m_check_bytes [.ow (.lst .own (ys.map .int))] = .ok (.fr .non) [.s true (.fr (.lst .fz (ys.map .int)))] := by
  unfold m_check_bytes b_check_bytes
  simp -implicitDefEqProofs only [frs, fzs_ints, check_gen h, any_no, List.all_nil, bind_ok, bind_er, bind_bad, thenS_ok, thenS_er, thenS_bad, then_nx, then_rt, then_bk, then_ct, then_er, fin_some, ofO_some, e_sSeq, e_sIf, e_sRt, e_sSet, e_sto, e_sAug, e_sFor, e_sPar, e_sAsg, e_sEx, e_sNx, e_sRaise, e_sItem, e_sAppend, e_sRtN, e_sBk, e_sCt, e_mC, e_mRd, e_mFz, e_frz, e_mMv, e_mVal, e_mAt, e_mOp2, e_mOp1, e_tst, e_cond, e_mT, e_mCh, e_mNil, e_mCons, e_mCallN, e_mDisp, e_stoO, e_stTup, e_mRange, e_lstAt, e_callIt, e_mCallF, e_mNoP, e_mSomeP, e_mSl, e_mWalk, e_mComp, e_mGen, e_mTold, e_sTry, e_capsOk, e_dLt, e_dLe, e_dGt, e_dGe, e_dSub, e_dMax2, e_dMin2, e_mNot, e_mB, e_mJoin, Pv.mFun, Pv.entry, Pv.argS, Pv.finals, Pv.see, Pv.sees, Pv.vals, Pv.takes, Pv.pinOf, Pv.back, Pv.atsOk, Pv.allFr, Pv.ds, Pv.mkT, Pv.mkL, Pv.fz, Pv.kidVs, Pv.stAll, Pv.rangeD1, Pv.rangeD2, Pv.markOf, Pv.g1, Pv.g2, Pv.dLen, Pv.dAbs, Pv.dInt, Pv.dTup, Pv.dList, Pv.dAdd, Pv.dMul, Pv.dNeg, Pv.ints2, DV.d, Pv.modI_p, Pv.divI_p, Pv.idivI_p, Pv.imulI_r, Pv.mulI_p, Pv.powI_p, Pv.dSl, Pv.fzs, Pv.walkD, Pv.dRev, Pv.dOrd, Pv.kids, Pv.kidsL, Pv.kidsT, Pv.items, Pv.dIx, Pv.dEq, Pv.dNe, Pv.dIn, Pv.dNotIn, Pv.eqD_int, Pv.eqD_str, Pv.eqD_bl, Pv.kAny, Pv.kTupG, Pv.anyD, Pv.gSl, sz0, sy0, sz1, sy1, sz2, sy2, sz3, sy3, sz4, sy4, sz5, sy5, sz6, sy6, sz7, sy7, sz8, sy8, sz9, sy9, sz10, sy10, sz11, sy11, sz12, sy12, decide_true, decide_false, decide_not, ite_true, ite_false, not_true_eq_false, not_false_eq_true, List.map_nil, List.map_cons, List.length_nil, List.length_cons, List.replicate_succ, List.replicate_zero, List.nil_append, List.cons_append, List.append_nil, List.getElem?_cons_zero, List.getElem?_cons_succ, List.getElem?_nil, List.set_cons_zero, List.set_cons_succ, List.length_replicate, Option.map_some, Option.map_none, Option.bind_some, Option.bind_none, Nat.sub_self, Nat.reduceSub, Nat.reduceAdd, Nat.zero_add, eq_self, List.contains_cons, List.contains_nil, Bool.and_true, Bool.true_and, Bool.or_true, Bool.true_or, Bool.or_false, Bool.false_or, Bool.and_false, Bool.false_and, Bool.and_self, beq_self_eq_true, Nat.reduceBEq, if_true, if_false, Bool.false_eq_true, reduceIte, reduceCtorEq, decide_eq_true_eq, Bool.not_true, Bool.not_false]
theorem check_fr {ys : List Int} (h : bytes ys) : m_check_bytes [.fr (.tup (ys.map .int))] = .ok (.fr .non) [.un] := by
  unfold m_check_bytes b_check_bytes
  simp -implicitDefEqProofs only [frs, check_gen h, any_no, List.all_nil, bind_ok, bind_er, bind_bad, thenS_ok, thenS_er, thenS_bad, then_nx, then_rt, then_bk, then_ct, then_er, fin_some, ofO_some, e_sSeq, e_sIf, e_sRt, e_sSet, e_sto, e_sAug, e_sFor, e_sPar, e_sAsg, e_sEx, e_sNx, e_sRaise, e_sItem, e_sAppend, e_sRtN, e_sBk, e_sCt, e_mC, e_mRd, e_mFz, e_frz, e_mMv, e_mVal, e_mAt, e_mOp2, e_mOp1, e_tst, e_cond, e_mT, e_mCh, e_mNil, e_mCons, e_mCallN, e_mDisp, e_stoO, e_stTup, e_mRange, e_lstAt, e_callIt, e_mCallF, e_mNoP, e_mSomeP, e_mSl, e_mWalk, e_mComp, e_mGen, e_mTold, e_sTry, e_capsOk, e_dLt, e_dLe, e_dGt, e_dGe, e_dSub, e_dMax2, e_dMin2, e_mNot, e_mB, e_mJoin, Pv.mFun, Pv.entry, Pv.argS, Pv.finals, Pv.see, Pv.sees, Pv.vals, Pv.takes, Pv.pinOf, Pv.back, Pv.atsOk, Pv.allFr, Pv.ds, Pv.mkT, Pv.mkL, Pv.fz, Pv.kidVs, Pv.stAll, Pv.rangeD1, Pv.rangeD2, Pv.markOf, Pv.g1, Pv.g2, Pv.dLen, Pv.dAbs, Pv.dInt, Pv.dTup, Pv.dList, Pv.dAdd, Pv.dMul, Pv.dNeg, Pv.ints2, DV.d, Pv.modI_p, Pv.divI_p, Pv.idivI_p, Pv.imulI_r, Pv.mulI_p, Pv.powI_p, Pv.dSl, Pv.fzs, Pv.walkD, Pv.dRev, Pv.dOrd, Pv.kids, Pv.kidsL, Pv.kidsT, Pv.items, Pv.dIx, Pv.dEq, Pv.dNe, Pv.dIn, Pv.dNotIn, Pv.eqD_int, Pv.eqD_str, Pv.eqD_bl, Pv.kAny, Pv.kTupG, Pv.anyD, Pv.gSl, sz0, sy0, sz1, sy1, sz2, sy2, sz3, sy3, sz4, sy4, sz5, sy5, sz6, sy6, sz7, sy7, sz8, sy8, sz9, sy9, sz10, sy10, sz11, sy11, sz12, sy12, decide_true, decide_false, decide_not, ite_true, ite_false, not_true_eq_false, not_false_eq_true, List.map_nil, List.map_cons, List.length_nil, List.length_cons, List.replicate_succ, List.replicate_zero, List.nil_append, List.cons_append, List.append_nil, List.getElem?_cons_zero, List.getElem?_cons_succ, List.getElem?_nil, List.set_cons_zero, List.set_cons_succ, List.length_replicate, Option.map_some, Option.map_none, Option.bind_some, Option.bind_none, Nat.sub_self, Nat.reduceSub, Nat.reduceAdd, Nat.zero_add, eq_self, List.contains_cons, List.contains_nil, Bool.and_true, Bool.true_and, Bool.or_true, Bool.true_or, Bool.or_false, Bool.false_or, Bool.and_false, Bool.false_and, Bool.and_self, beq_self_eq_true, Nat.reduceBEq, if_true, if_false, Bool.false_eq_true, reduceIte, reduceCtorEq, decide_eq_true_eq, Bool.not_true, Bool.not_false]
/-- what the bytes say, the lowest first -/
def val : List Int → Int
  | [] => 0
  | y :: ys => y + 256 * val ys
theorem val_loop {a b c : Sl} : ∀ (ys : List Int) (v : Int) (t : Sl), (∀ x, t ≠ .s true x) → ∃ t', (∀ x, t' ≠ .s true x) ∧ iterS (stoO 4) (sSet 3 (mOp2 dAdd (mVal (mOp2 dMul (mAt 3) (mVal (mC (.int 256))))) (mAt 4))) (ys.map fun y => .fr (.int y)) [a, b, c, .s false (.fr (.int v)), t] = .nx [a, b, c, .s false (.fr (.int (ys.foldl (fun v y => v * 256 + y) v))), t']
  | [], v, t, ht => ⟨t, ht, rfl⟩
  | y :: ys, v, t, ht => by
    obtain ⟨t', h1, h2⟩ := val_loop ys (v * 256 + y) (.s false (.fr (.int y))) (fun _ h => by cases h)
    refine ⟨t', h1, ?_⟩
    rw [List.map_cons, iter_cons (δ1 := [a, b, c, .s false (.fr (.int v)), .s false (.fr (.int y))])]
    · have e : okMul v 256 = true := okMul_r (by decide)
      simp -implicitDefEqProofs only [e, bind_ok, bind_er, bind_bad, thenS_ok, thenS_er, thenS_bad, then_nx, then_rt, then_bk, then_ct, then_er, fin_some, ofO_some, e_sSeq, e_sIf, e_sRt, e_sSet, e_sto, e_sAug, e_sFor, e_sPar, e_sAsg, e_sEx, e_sNx, e_sRaise, e_sItem, e_sAppend, e_sRtN, e_sBk, e_sCt, e_mC, e_mRd, e_mFz, e_frz, e_mMv, e_mVal, e_mAt, e_mOp2, e_mOp1, e_tst, e_cond, e_mT, e_mCh, e_mNil, e_mCons, e_mCallN, e_mDisp, e_stoO, e_stTup, e_mRange, e_lstAt, e_callIt, e_mCallF, e_mNoP, e_mSomeP, e_mSl, e_mWalk, e_mComp, e_mGen, e_mTold, e_sTry, e_capsOk, e_dLt, e_dLe, e_dGt, e_dGe, e_dSub, e_dMax2, e_dMin2, e_mNot, e_mB, e_mJoin, Pv.mFun, Pv.entry, Pv.argS, Pv.finals, Pv.see, Pv.sees, Pv.vals, Pv.takes, Pv.pinOf, Pv.back, Pv.atsOk, Pv.allFr, Pv.ds, Pv.mkT, Pv.mkL, Pv.fz, Pv.kidVs, Pv.stAll, Pv.rangeD1, Pv.rangeD2, Pv.markOf, Pv.g1, Pv.g2, Pv.dLen, Pv.dAbs, Pv.dInt, Pv.dTup, Pv.dList, Pv.dAdd, Pv.dMul, Pv.dNeg, Pv.ints2, DV.d, Pv.modI_p, Pv.divI_p, Pv.idivI_p, Pv.imulI_r, Pv.mulI_p, Pv.powI_p, Pv.dSl, Pv.fzs, Pv.walkD, Pv.dRev, Pv.dOrd, Pv.kids, Pv.kidsL, Pv.kidsT, Pv.items, Pv.dIx, Pv.dEq, Pv.dNe, Pv.dIn, Pv.dNotIn, Pv.eqD_int, Pv.eqD_str, Pv.eqD_bl, Pv.kAny, Pv.kTupG, Pv.anyD, Pv.gSl, sz0, sy0, sz1, sy1, sz2, sy2, sz3, sy3, sz4, sy4, sz5, sy5, sz6, sy6, sz7, sy7, sz8, sy8, sz9, sy9, sz10, sy10, sz11, sy11, sz12, sy12, decide_true, decide_false, decide_not, ite_true, ite_false, not_true_eq_false, not_false_eq_true, List.map_nil, List.map_cons, List.length_nil, List.length_cons, List.replicate_succ, List.replicate_zero, List.nil_append, List.cons_append, List.append_nil, List.getElem?_cons_zero, List.getElem?_cons_succ, List.getElem?_nil, List.set_cons_zero, List.set_cons_succ, List.length_replicate, Option.map_some, Option.map_none, Option.bind_some, Option.bind_none, Nat.sub_self, Nat.reduceSub, Nat.reduceAdd, Nat.zero_add, eq_self, List.contains_cons, List.contains_nil, Bool.and_true, Bool.true_and, Bool.or_true, Bool.true_or, Bool.or_false, Bool.false_or, Bool.and_false, Bool.false_and, Bool.and_self, beq_self_eq_true, Nat.reduceBEq, if_true, if_false, Bool.false_eq_true, reduceIte, reduceCtorEq, decide_eq_true_eq, Bool.not_true, Bool.not_false]
      exact h2
    · cases t with
      | un => rfl
      | s p x => cases p with
        | true => exact absurd rfl (ht x)
        | false => rfl
      | lm is => rfl
theorem val_rev (ys : List Int) : ys.reverse.foldl (fun v y => v * 256 + y) 0 = val ys := by
  rw [List.foldl_reverse]
  induction ys with
  | nil => rfl
  | cons y ys ih => simp only [List.foldr_cons, val, ih]; omega
theorem unpacked_ok {xs : List Int} {p m : Nat} (h1 : 1 ≤ m) (h8 : m ≤ 8) (hp : p + m ≤ xs.length) (hb : bytes ((xs.drop p).take m)) : m_unpacked [.ow (.lst .own (xs.map .int)), .fr (.int p), .fr (.int m)] = .ok (.fr (.int (val ((xs.drop p).take m)))) [.s true (.ow (.lst .own (xs.map .int))), .un, .un] := by
  have a1 : (1 : Int) ≤ m := by omega
  have a2 : (m : Int) ≤ 8 := by omega
  have a3 : ¬ ((p : Int) < 0) := by omega
  have a4 : (p : Int) + (m : Int) = ((p + m : Nat) : Int) := by omega
  have a5 : ¬ (((xs.length : Nat) : Int) < ((p + m : Nat) : Int)) := by omega
  have a6 : cut (xs.map D.int) (some (p : Int)) (some ((p + m : Nat) : Int)) = ((xs.drop p).take m).map D.int := by
    rw [cut_nat (by simpa using hp)]
    simp [List.map_take, List.map_drop]
  have a7 : (((xs.drop p).take m).map D.int).reverse.map DV.fr = (((xs.drop p).take m).reverse).map fun y => DV.fr (.int y) := by simp [Function.comp_def]
  obtain ⟨t', _, a8⟩ := val_loop (a := .s true (.ow (.lst .own (xs.map .int)))) (b := .s false (.fr (.int p))) (c := .s false (.fr (.int m))) ((xs.drop p).take m).reverse 0 .un (fun _ h => by cases h)
  unfold m_unpacked b_unpacked
  simp -implicitDefEqProofs only [mMOST_BYTES, a1, a2, a3, a4, a5, a6, a7, a8, val_rev, check_ow hb, List.length_map, List.all_nil, bind_ok, bind_er, bind_bad, thenS_ok, thenS_er, thenS_bad, then_nx, then_rt, then_bk, then_ct, then_er, fin_some, ofO_some, e_sSeq, e_sIf, e_sRt, e_sSet, e_sto, e_sAug, e_sFor, e_sPar, e_sAsg, e_sEx, e_sNx, e_sRaise, e_sItem, e_sAppend, e_sRtN, e_sBk, e_sCt, e_mC, e_mRd, e_mFz, e_frz, e_mMv, e_mVal, e_mAt, e_mOp2, e_mOp1, e_tst, e_cond, e_mT, e_mCh, e_mNil, e_mCons, e_mCallN, e_mDisp, e_stoO, e_stTup, e_mRange, e_lstAt, e_callIt, e_mCallF, e_mNoP, e_mSomeP, e_mSl, e_mWalk, e_mComp, e_mGen, e_mTold, e_sTry, e_capsOk, e_dLt, e_dLe, e_dGt, e_dGe, e_dSub, e_dMax2, e_dMin2, e_mNot, e_mB, e_mJoin, Pv.mFun, Pv.entry, Pv.argS, Pv.finals, Pv.see, Pv.sees, Pv.vals, Pv.takes, Pv.pinOf, Pv.back, Pv.atsOk, Pv.allFr, Pv.ds, Pv.mkT, Pv.mkL, Pv.fz, Pv.kidVs, Pv.stAll, Pv.rangeD1, Pv.rangeD2, Pv.markOf, Pv.g1, Pv.g2, Pv.dLen, Pv.dAbs, Pv.dInt, Pv.dTup, Pv.dList, Pv.dAdd, Pv.dMul, Pv.dNeg, Pv.ints2, DV.d, Pv.modI_p, Pv.divI_p, Pv.idivI_p, Pv.imulI_r, Pv.mulI_p, Pv.powI_p, Pv.dSl, Pv.fzs, Pv.walkD, Pv.dRev, Pv.dOrd, Pv.kids, Pv.kidsL, Pv.kidsT, Pv.items, Pv.dIx, Pv.dEq, Pv.dNe, Pv.dIn, Pv.dNotIn, Pv.eqD_int, Pv.eqD_str, Pv.eqD_bl, Pv.kAny, Pv.kTupG, Pv.anyD, Pv.gSl, sz0, sy0, sz1, sy1, sz2, sy2, sz3, sy3, sz4, sy4, sz5, sy5, sz6, sy6, sz7, sy7, sz8, sy8, sz9, sy9, sz10, sy10, sz11, sy11, sz12, sy12, decide_true, decide_false, decide_not, ite_true, ite_false, not_true_eq_false, not_false_eq_true, List.map_nil, List.map_cons, List.length_nil, List.length_cons, List.replicate_succ, List.replicate_zero, List.nil_append, List.cons_append, List.append_nil, List.getElem?_cons_zero, List.getElem?_cons_succ, List.getElem?_nil, List.set_cons_zero, List.set_cons_succ, List.length_replicate, Option.map_some, Option.map_none, Option.bind_some, Option.bind_none, Nat.sub_self, Nat.reduceSub, Nat.reduceAdd, Nat.zero_add, eq_self, List.contains_cons, List.contains_nil, Bool.and_true, Bool.true_and, Bool.or_true, Bool.true_or, Bool.or_false, Bool.false_or, Bool.and_false, Bool.false_and, Bool.and_self, beq_self_eq_true, Nat.reduceBEq, if_true, if_false, Bool.false_eq_true, reduceIte, reduceCtorEq, decide_eq_true_eq, Bool.not_true, Bool.not_false]
end K01

set_option Elab.async false
set_option linter.all false
set_option maxRecDepth 100000
set_option maxHeartbeats 4000000
namespace K01
open Pv
theorem packed_no (n m : Nat) (h1 : 1 ≤ m) (h8 : m ≤ 8) (hn : ¬ n < 2 ^ (8 * m)) : m_packed [.fr (.int n), .fr (.int m)] = .er 0 [.un, .un] := by
  have a1 : (1 : Int) ≤ m := by omega
  have a2 : (m : Int) ≤ 8 := by omega
  have a3 : okMul 8 m = true := rfl
  have a4 : (8 : Int) * m = ((8 * m : Nat) : Int) := by omega
  have a5 := pow_eq (8 * m) (by omega)
  have h0 : (0 : Int) ≤ n := by omega
  have hn' : ¬ ((n : Int) < (2 ^ (8 * m) : Nat)) := by omega
  unfold m_packed b_packed
  simp -implicitDefEqProofs only [mMOST_BYTES, a1, a2, a3, a4, a5, h0, hn', bind_ok, bind_er, bind_bad, thenS_ok, thenS_er, thenS_bad, then_nx, then_rt, then_bk, then_ct, then_er, fin_some, ofO_some, e_sSeq, e_sIf, e_sRt, e_sSet, e_sto, e_sAug, e_sFor, e_sPar, e_sAsg, e_sEx, e_sNx, e_sRaise, e_sItem, e_sAppend, e_sRtN, e_sBk, e_sCt, e_mC, e_mRd, e_mFz, e_frz, e_mMv, e_mVal, e_mAt, e_mOp2, e_mOp1, e_tst, e_cond, e_mT, e_mCh, e_mNil, e_mCons, e_mCallN, e_mDisp, e_stoO, e_stTup, e_mRange, e_lstAt, e_callIt, e_mCallF, e_mNoP, e_mSomeP, e_mSl, e_mWalk, e_mComp, e_mGen, e_mTold, e_sTry, e_capsOk, e_dLt, e_dLe, e_dGt, e_dGe, e_dSub, e_dMax2, e_dMin2, e_mNot, e_mB, e_mJoin, Pv.mFun, Pv.entry, Pv.argS, Pv.finals, Pv.see, Pv.sees, Pv.vals, Pv.takes, Pv.pinOf, Pv.back, Pv.atsOk, Pv.allFr, Pv.ds, Pv.mkT, Pv.mkL, Pv.fz, Pv.kidVs, Pv.stAll, Pv.rangeD1, Pv.rangeD2, Pv.markOf, Pv.g1, Pv.g2, Pv.dLen, Pv.dAbs, Pv.dInt, Pv.dTup, Pv.dList, Pv.dAdd, Pv.dMul, Pv.dNeg, Pv.ints2, DV.d, Pv.modI_p, Pv.divI_p, Pv.idivI_p, Pv.imulI_r, Pv.mulI_p, Pv.powI_p, Pv.dSl, Pv.fzs, Pv.walkD, Pv.dRev, Pv.dOrd, Pv.kids, Pv.kidsL, Pv.kidsT, Pv.items, Pv.dIx, Pv.dEq, Pv.dNe, Pv.dIn, Pv.dNotIn, Pv.eqD_int, Pv.eqD_str, Pv.eqD_bl, Pv.kAny, Pv.kTupG, Pv.anyD, Pv.gSl, sz0, sy0, sz1, sy1, sz2, sy2, sz3, sy3, sz4, sy4, sz5, sy5, sz6, sy6, sz7, sy7, sz8, sy8, sz9, sy9, sz10, sy10, sz11, sy11, sz12, sy12, decide_true, decide_false, decide_not, ite_true, ite_false, not_true_eq_false, not_false_eq_true, List.map_nil, List.map_cons, List.length_nil, List.length_cons, List.replicate_succ, List.replicate_zero, List.nil_append, List.cons_append, List.append_nil, List.getElem?_cons_zero, List.getElem?_cons_succ, List.getElem?_nil, List.set_cons_zero, List.set_cons_succ, List.length_replicate, Option.map_some, Option.map_none, Option.bind_some, Option.bind_none, Nat.sub_self, Nat.reduceSub, Nat.reduceAdd, Nat.zero_add, eq_self, List.contains_cons, List.contains_nil, Bool.and_true, Bool.true_and, Bool.or_true, Bool.true_or, Bool.or_false, Bool.false_or, Bool.and_false, Bool.false_and, Bool.and_self, beq_self_eq_true, Nat.reduceBEq, if_true, if_false, Bool.false_eq_true, reduceIte, reduceCtorEq, decide_eq_true_eq, Bool.not_true, Bool.not_false]
theorem half_two (m : Nat) (h1 : 1 ≤ m) : 2 ^ (8 * m) = 2 * 2 ^ (8 * m - 1) := by
  obtain ⟨k, rfl⟩ : ∃ k, m = k + 1 := ⟨m - 1, by omega⟩
  rw [show 8 * (k + 1) - 1 = 8 * k + 7 by omega, show 8 * (k + 1) = (8 * k + 7) + 1 by omega, Nat.pow_succ]
  omega
/-- what stands for a signed number -/
def twos (s : Int) (m : Nat) : Nat := (s % ((2 ^ (8 * m) : Nat) : Int)).toNat
theorem packed_signed_ok (s : Int) (m : Nat) (h1 : 1 ≤ m) (h8 : m ≤ 8) (hl : -((2 ^ (8 * m - 1) : Nat) : Int) ≤ s) (hh : s < ((2 ^ (8 * m - 1) : Nat) : Int)) : m_packed_signed [.fr (.int s), .fr (.int m)] = .ok (.fr (.tup (rowd m (twos s m)))) [.un, .un] := by
  have a1 : (1 : Int) ≤ m := by omega
  have a2 : (m : Int) ≤ 8 := by omega
  have a3 : okMul 8 m = true := rfl
  have a4 : (8 : Int) * m - 1 = ((8 * m - 1 : Nat) : Int) := by omega
  have a5 := pow_eq (8 * m - 1) (by omega)
  have b1 : (0 : Int) - ((2 ^ (8 * m - 1) : Nat) : Int) ≤ s := by omega
  have b2 : okMul 2 ((2 ^ (8 * m - 1) : Nat) : Int) = true := okMul_l (by decide)
  have e2 := half_two m h1
  have b3 : (2 : Int) * ((2 ^ (8 * m - 1) : Nat) : Int) = ((2 ^ (8 * m) : Nat) : Int) := by rw [e2]; omega
  have hp : 0 < 2 ^ (8 * m) := Nat.pow_pos (by omega)
  have b4 : (0 : Int) < ((2 ^ (8 * m) : Nat) : Int) := by omega
  have b5 : s % ((2 ^ (8 * m) : Nat) : Int) = ((twos s m : Nat) : Int) := by
    have := Int.emod_nonneg s (show ((2 ^ (8 * m) : Nat) : Int) ≠ 0 by omega)
    unfold twos; omega
  have b6 : twos s m < 2 ^ (8 * m) := by
    have := Int.emod_lt_of_pos s b4
    omega
  have b7 := packed_ok (twos s m) m h1 h8 b6
  unfold m_packed_signed b_packed_signed
  simp -implicitDefEqProofs only [mMOST_BYTES, a1, a2, a3, a4, a5, b1, hh, b2, b3, b4, b5, b7, bind_ok, bind_er, bind_bad, thenS_ok, thenS_er, thenS_bad, then_nx, then_rt, then_bk, then_ct, then_er, fin_some, ofO_some, e_sSeq, e_sIf, e_sRt, e_sSet, e_sto, e_sAug, e_sFor, e_sPar, e_sAsg, e_sEx, e_sNx, e_sRaise, e_sItem, e_sAppend, e_sRtN, e_sBk, e_sCt, e_mC, e_mRd, e_mFz, e_frz, e_mMv, e_mVal, e_mAt, e_mOp2, e_mOp1, e_tst, e_cond, e_mT, e_mCh, e_mNil, e_mCons, e_mCallN, e_mDisp, e_stoO, e_stTup, e_mRange, e_lstAt, e_callIt, e_mCallF, e_mNoP, e_mSomeP, e_mSl, e_mWalk, e_mComp, e_mGen, e_mTold, e_sTry, e_capsOk, e_dLt, e_dLe, e_dGt, e_dGe, e_dSub, e_dMax2, e_dMin2, e_mNot, e_mB, e_mJoin, Pv.mFun, Pv.entry, Pv.argS, Pv.finals, Pv.see, Pv.sees, Pv.vals, Pv.takes, Pv.pinOf, Pv.back, Pv.atsOk, Pv.allFr, Pv.ds, Pv.mkT, Pv.mkL, Pv.fz, Pv.kidVs, Pv.stAll, Pv.rangeD1, Pv.rangeD2, Pv.markOf, Pv.g1, Pv.g2, Pv.dLen, Pv.dAbs, Pv.dInt, Pv.dTup, Pv.dList, Pv.dAdd, Pv.dMul, Pv.dNeg, Pv.ints2, DV.d, Pv.modI_p, Pv.divI_p, Pv.idivI_p, Pv.imulI_r, Pv.mulI_p, Pv.powI_p, Pv.dSl, Pv.fzs, Pv.walkD, Pv.dRev, Pv.dOrd, Pv.kids, Pv.kidsL, Pv.kidsT, Pv.items, Pv.dIx, Pv.dEq, Pv.dNe, Pv.dIn, Pv.dNotIn, Pv.eqD_int, Pv.eqD_str, Pv.eqD_bl, Pv.kAny, Pv.kTupG, Pv.anyD, Pv.gSl, sz0, sy0, sz1, sy1, sz2, sy2, sz3, sy3, sz4, sy4, sz5, sy5, sz6, sy6, sz7, sy7, sz8, sy8, sz9, sy9, sz10, sy10, sz11, sy11, sz12, sy12, decide_true, decide_false, decide_not, ite_true, ite_false, not_true_eq_false, not_false_eq_true, List.map_nil, List.map_cons, List.length_nil, List.length_cons, List.replicate_succ, List.replicate_zero, List.nil_append, List.cons_append, List.append_nil, List.getElem?_cons_zero, List.getElem?_cons_succ, List.getElem?_nil, List.set_cons_zero, List.set_cons_succ, List.length_replicate, Option.map_some, Option.map_none, Option.bind_some, Option.bind_none, Nat.sub_self, Nat.reduceSub, Nat.reduceAdd, Nat.zero_add, eq_self, List.contains_cons, List.contains_nil, Bool.and_true, Bool.true_and, Bool.or_true, Bool.true_or, Bool.or_false, Bool.false_or, Bool.and_false, Bool.false_and, Bool.and_self, beq_self_eq_true, Nat.reduceBEq, if_true, if_false, Bool.false_eq_true, reduceIte, reduceCtorEq, decide_eq_true_eq, Bool.not_true, Bool.not_false]
theorem packed_signed_no (s : Int) (m : Nat) (h1 : 1 ≤ m) (h8 : m ≤ 8) (hn : ¬ (-((2 ^ (8 * m - 1) : Nat) : Int) ≤ s ∧ s < ((2 ^ (8 * m - 1) : Nat) : Int))) : m_packed_signed [.fr (.int s), .fr (.int m)] = .er 0 [.un, .un] := by
  have a1 : (1 : Int) ≤ m := by omega
  have a2 : (m : Int) ≤ 8 := by omega
  have a3 : okMul 8 m = true := rfl
  have a4 : (8 : Int) * m - 1 = ((8 * m - 1 : Nat) : Int) := by omega
  have a5 := pow_eq (8 * m - 1) (by omega)
  unfold m_packed_signed b_packed_signed
  by_cases hl : -((2 ^ (8 * m - 1) : Nat) : Int) ≤ s
  · have b1 : (0 : Int) - ((2 ^ (8 * m - 1) : Nat) : Int) ≤ s := by omega
    have b2 : ¬ s < ((2 ^ (8 * m - 1) : Nat) : Int) := fun h => hn ⟨hl, h⟩
    simp -implicitDefEqProofs only [mMOST_BYTES, a1, a2, a3, a4, a5, b1, b2, bind_ok, bind_er, bind_bad, thenS_ok, thenS_er, thenS_bad, then_nx, then_rt, then_bk, then_ct, then_er, fin_some, ofO_some, e_sSeq, e_sIf, e_sRt, e_sSet, e_sto, e_sAug, e_sFor, e_sPar, e_sAsg, e_sEx, e_sNx, e_sRaise, e_sItem, e_sAppend, e_sRtN, e_sBk, e_sCt, e_mC, e_mRd, e_mFz, e_frz, e_mMv, e_mVal, e_mAt, e_mOp2, e_mOp1, e_tst, e_cond, e_mT, e_mCh, e_mNil, e_mCons, e_mCallN, e_mDisp, e_stoO, e_stTup, e_mRange, e_lstAt, e_callIt, e_mCallF, e_mNoP, e_mSomeP, e_mSl, e_mWalk, e_mComp, e_mGen, e_mTold, e_sTry, e_capsOk, e_dLt, e_dLe, e_dGt, e_dGe, e_dSub, e_dMax2, e_dMin2, e_mNot, e_mB, e_mJoin, Pv.mFun, Pv.entry, Pv.argS, Pv.finals, Pv.see, Pv.sees, Pv.vals, Pv.takes, Pv.pinOf, Pv.back, Pv.atsOk, Pv.allFr, Pv.ds, Pv.mkT, Pv.mkL, Pv.fz, Pv.kidVs, Pv.stAll, Pv.rangeD1, Pv.rangeD2, Pv.markOf, Pv.g1, Pv.g2, Pv.dLen, Pv.dAbs, Pv.dInt, Pv.dTup, Pv.dList, Pv.dAdd, Pv.dMul, Pv.dNeg, Pv.ints2, DV.d, Pv.modI_p, Pv.divI_p, Pv.idivI_p, Pv.imulI_r, Pv.mulI_p, Pv.powI_p, Pv.dSl, Pv.fzs, Pv.walkD, Pv.dRev, Pv.dOrd, Pv.kids, Pv.kidsL, Pv.kidsT, Pv.items, Pv.dIx, Pv.dEq, Pv.dNe, Pv.dIn, Pv.dNotIn, Pv.eqD_int, Pv.eqD_str, Pv.eqD_bl, Pv.kAny, Pv.kTupG, Pv.anyD, Pv.gSl, sz0, sy0, sz1, sy1, sz2, sy2, sz3, sy3, sz4, sy4, sz5, sy5, sz6, sy6, sz7, sy7, sz8, sy8, sz9, sy9, sz10, sy10, sz11, sy11, sz12, sy12, decide_true, decide_false, decide_not, ite_true, ite_false, not_true_eq_false, not_false_eq_true, List.map_nil, List.map_cons, List.length_nil, List.length_cons, List.replicate_succ, List.replicate_zero, List.nil_append, List.cons_append, List.append_nil, List.getElem?_cons_zero, List.getElem?_cons_succ, List.getElem?_nil, List.set_cons_zero, List.set_cons_succ, List.length_replicate, Option.map_some, Option.map_none, Option.bind_some, Option.bind_none, Nat.sub_self, Nat.reduceSub, Nat.reduceAdd, Nat.zero_add, eq_self, List.contains_cons, List.contains_nil, Bool.and_true, Bool.true_and, Bool.or_true, Bool.true_or, Bool.or_false, Bool.false_or, Bool.and_false, Bool.false_and, Bool.and_self, beq_self_eq_true, Nat.reduceBEq, if_true, if_false, Bool.false_eq_true, reduceIte, reduceCtorEq, decide_eq_true_eq, Bool.not_true, Bool.not_false]
  · have b1 : ¬ (0 : Int) - ((2 ^ (8 * m - 1) : Nat) : Int) ≤ s := by omega
    simp -implicitDefEqProofs only [mMOST_BYTES, a1, a2, a3, a4, a5, b1, bind_ok, bind_er, bind_bad, thenS_ok, thenS_er, thenS_bad, then_nx, then_rt, then_bk, then_ct, then_er, fin_some, ofO_some, e_sSeq, e_sIf, e_sRt, e_sSet, e_sto, e_sAug, e_sFor, e_sPar, e_sAsg, e_sEx, e_sNx, e_sRaise, e_sItem, e_sAppend, e_sRtN, e_sBk, e_sCt, e_mC, e_mRd, e_mFz, e_frz, e_mMv, e_mVal, e_mAt, e_mOp2, e_mOp1, e_tst, e_cond, e_mT, e_mCh, e_mNil, e_mCons, e_mCallN, e_mDisp, e_stoO, e_stTup, e_mRange, e_lstAt, e_callIt, e_mCallF, e_mNoP, e_mSomeP, e_mSl, e_mWalk, e_mComp, e_mGen, e_mTold, e_sTry, e_capsOk, e_dLt, e_dLe, e_dGt, e_dGe, e_dSub, e_dMax2, e_dMin2, e_mNot, e_mB, e_mJoin, Pv.mFun, Pv.entry, Pv.argS, Pv.finals, Pv.see, Pv.sees, Pv.vals, Pv.takes, Pv.pinOf, Pv.back, Pv.atsOk, Pv.allFr, Pv.ds, Pv.mkT, Pv.mkL, Pv.fz, Pv.kidVs, Pv.stAll, Pv.rangeD1, Pv.rangeD2, Pv.markOf, Pv.g1, Pv.g2, Pv.dLen, Pv.dAbs, Pv.dInt, Pv.dTup, Pv.dList, Pv.dAdd, Pv.dMul, Pv.dNeg, Pv.ints2, DV.d, Pv.modI_p, Pv.divI_p, Pv.idivI_p, Pv.imulI_r, Pv.mulI_p, Pv.powI_p, Pv.dSl, Pv.fzs, Pv.walkD, Pv.dRev, Pv.dOrd, Pv.kids, Pv.kidsL, Pv.kidsT, Pv.items, Pv.dIx, Pv.dEq, Pv.dNe, Pv.dIn, Pv.dNotIn, Pv.eqD_int, Pv.eqD_str, Pv.eqD_bl, Pv.kAny, Pv.kTupG, Pv.anyD, Pv.gSl, sz0, sy0, sz1, sy1, sz2, sy2, sz3, sy3, sz4, sy4, sz5, sy5, sz6, sy6, sz7, sy7, sz8, sy8, sz9, sy9, sz10, sy10, sz11, sy11, sz12, sy12, decide_true, decide_false, decide_not, ite_true, ite_false, not_true_eq_false, not_false_eq_true, List.map_nil, List.map_cons, List.length_nil, List.length_cons, List.replicate_succ, List.replicate_zero, List.nil_append, List.cons_append, List.append_nil, List.getElem?_cons_zero, List.getElem?_cons_succ, List.getElem?_nil, List.set_cons_zero, List.set_cons_succ, List.length_replicate, Option.map_some, Option.map_none, Option.bind_some, Option.bind_none, Nat.sub_self, Nat.reduceSub, Nat.reduceAdd, Nat.zero_add, eq_self, List.contains_cons, List.contains_nil, Bool.and_true, Bool.true_and, Bool.or_true, Bool.true_or, Bool.or_false, Bool.false_or, Bool.and_false, Bool.false_and, Bool.and_self, beq_self_eq_true, Nat.reduceBEq, if_true, if_false, Bool.false_eq_true, reduceIte, reduceCtorEq, decide_eq_true_eq, Bool.not_true, Bool.not_false]
theorem fits_eq (s : Int) (m : Nat) (h1 : 1 ≤ m) (h8 : m ≤ 8) : m_fits_signed [.fr (.int s), .fr (.int m)] = .ok (.fr (.bl (decide (-((2 ^ (8 * m - 1) : Nat) : Int) ≤ s ∧ s < ((2 ^ (8 * m - 1) : Nat) : Int))))) [.un, .un] := by
  have a1 : (1 : Int) ≤ m := by omega
  have a2 : (m : Int) ≤ 8 := by omega
  have a3 : okMul 8 m = true := rfl
  have a4 : (8 : Int) * m - 1 = ((8 * m - 1 : Nat) : Int) := by omega
  have a5 := pow_eq (8 * m - 1) (by omega)
  unfold m_fits_signed b_fits_signed
  by_cases hl : -((2 ^ (8 * m - 1) : Nat) : Int) ≤ s
  · have b1 : (0 : Int) - ((2 ^ (8 * m - 1) : Nat) : Int) ≤ s := by omega
    simp -implicitDefEqProofs only [mMOST_BYTES, a1, a2, a3, a4, a5, b1, hl, true_and, bind_ok, bind_er, bind_bad, thenS_ok, thenS_er, thenS_bad, then_nx, then_rt, then_bk, then_ct, then_er, fin_some, ofO_some, e_sSeq, e_sIf, e_sRt, e_sSet, e_sto, e_sAug, e_sFor, e_sPar, e_sAsg, e_sEx, e_sNx, e_sRaise, e_sItem, e_sAppend, e_sRtN, e_sBk, e_sCt, e_mC, e_mRd, e_mFz, e_frz, e_mMv, e_mVal, e_mAt, e_mOp2, e_mOp1, e_tst, e_cond, e_mT, e_mCh, e_mNil, e_mCons, e_mCallN, e_mDisp, e_stoO, e_stTup, e_mRange, e_lstAt, e_callIt, e_mCallF, e_mNoP, e_mSomeP, e_mSl, e_mWalk, e_mComp, e_mGen, e_mTold, e_sTry, e_capsOk, e_dLt, e_dLe, e_dGt, e_dGe, e_dSub, e_dMax2, e_dMin2, e_mNot, e_mB, e_mJoin, Pv.mFun, Pv.entry, Pv.argS, Pv.finals, Pv.see, Pv.sees, Pv.vals, Pv.takes, Pv.pinOf, Pv.back, Pv.atsOk, Pv.allFr, Pv.ds, Pv.mkT, Pv.mkL, Pv.fz, Pv.kidVs, Pv.stAll, Pv.rangeD1, Pv.rangeD2, Pv.markOf, Pv.g1, Pv.g2, Pv.dLen, Pv.dAbs, Pv.dInt, Pv.dTup, Pv.dList, Pv.dAdd, Pv.dMul, Pv.dNeg, Pv.ints2, DV.d, Pv.modI_p, Pv.divI_p, Pv.idivI_p, Pv.imulI_r, Pv.mulI_p, Pv.powI_p, Pv.dSl, Pv.fzs, Pv.walkD, Pv.dRev, Pv.dOrd, Pv.kids, Pv.kidsL, Pv.kidsT, Pv.items, Pv.dIx, Pv.dEq, Pv.dNe, Pv.dIn, Pv.dNotIn, Pv.eqD_int, Pv.eqD_str, Pv.eqD_bl, Pv.kAny, Pv.kTupG, Pv.anyD, Pv.gSl, sz0, sy0, sz1, sy1, sz2, sy2, sz3, sy3, sz4, sy4, sz5, sy5, sz6, sy6, sz7, sy7, sz8, sy8, sz9, sy9, sz10, sy10, sz11, sy11, sz12, sy12, decide_true, decide_false, decide_not, ite_true, ite_false, not_true_eq_false, not_false_eq_true, List.map_nil, List.map_cons, List.length_nil, List.length_cons, List.replicate_succ, List.replicate_zero, List.nil_append, List.cons_append, List.append_nil, List.getElem?_cons_zero, List.getElem?_cons_succ, List.getElem?_nil, List.set_cons_zero, List.set_cons_succ, List.length_replicate, Option.map_some, Option.map_none, Option.bind_some, Option.bind_none, Nat.sub_self, Nat.reduceSub, Nat.reduceAdd, Nat.zero_add, eq_self, List.contains_cons, List.contains_nil, Bool.and_true, Bool.true_and, Bool.or_true, Bool.true_or, Bool.or_false, Bool.false_or, Bool.and_false, Bool.false_and, Bool.and_self, beq_self_eq_true, Nat.reduceBEq, if_true, if_false, Bool.false_eq_true, reduceIte, reduceCtorEq, decide_eq_true_eq, Bool.not_true, Bool.not_false]
  · have b1 : ¬ (0 : Int) - ((2 ^ (8 * m - 1) : Nat) : Int) ≤ s := by omega
    simp -implicitDefEqProofs only [mMOST_BYTES, a1, a2, a3, a4, a5, b1, hl, false_and, bind_ok, bind_er, bind_bad, thenS_ok, thenS_er, thenS_bad, then_nx, then_rt, then_bk, then_ct, then_er, fin_some, ofO_some, e_sSeq, e_sIf, e_sRt, e_sSet, e_sto, e_sAug, e_sFor, e_sPar, e_sAsg, e_sEx, e_sNx, e_sRaise, e_sItem, e_sAppend, e_sRtN, e_sBk, e_sCt, e_mC, e_mRd, e_mFz, e_frz, e_mMv, e_mVal, e_mAt, e_mOp2, e_mOp1, e_tst, e_cond, e_mT, e_mCh, e_mNil, e_mCons, e_mCallN, e_mDisp, e_stoO, e_stTup, e_mRange, e_lstAt, e_callIt, e_mCallF, e_mNoP, e_mSomeP, e_mSl, e_mWalk, e_mComp, e_mGen, e_mTold, e_sTry, e_capsOk, e_dLt, e_dLe, e_dGt, e_dGe, e_dSub, e_dMax2, e_dMin2, e_mNot, e_mB, e_mJoin, Pv.mFun, Pv.entry, Pv.argS, Pv.finals, Pv.see, Pv.sees, Pv.vals, Pv.takes, Pv.pinOf, Pv.back, Pv.atsOk, Pv.allFr, Pv.ds, Pv.mkT, Pv.mkL, Pv.fz, Pv.kidVs, Pv.stAll, Pv.rangeD1, Pv.rangeD2, Pv.markOf, Pv.g1, Pv.g2, Pv.dLen, Pv.dAbs, Pv.dInt, Pv.dTup, Pv.dList, Pv.dAdd, Pv.dMul, Pv.dNeg, Pv.ints2, DV.d, Pv.modI_p, Pv.divI_p, Pv.idivI_p, Pv.imulI_r, Pv.mulI_p, Pv.powI_p, Pv.dSl, Pv.fzs, Pv.walkD, Pv.dRev, Pv.dOrd, Pv.kids, Pv.kidsL, Pv.kidsT, Pv.items, Pv.dIx, Pv.dEq, Pv.dNe, Pv.dIn, Pv.dNotIn, Pv.eqD_int, Pv.eqD_str, Pv.eqD_bl, Pv.kAny, Pv.kTupG, Pv.anyD, Pv.gSl, sz0, sy0, sz1, sy1, sz2, sy2, sz3, sy3, sz4, sy4, sz5, sy5, sz6, sy6, sz7, sy7, sz8, sy8, sz9, sy9, sz10, sy10, sz11, sy11, sz12, sy12, decide_true, decide_false, decide_not, ite_true, ite_false, not_true_eq_false, not_false_eq_true, List.map_nil, List.map_cons, List.length_nil, List.length_cons, List.replicate_succ, List.replicate_zero, List.nil_append, List.cons_append, List.append_nil, List.getElem?_cons_zero, List.getElem?_cons_succ, List.getElem?_nil, List.set_cons_zero, List.set_cons_succ, List.length_replicate, Option.map_some, Option.map_none, Option.bind_some, Option.bind_none, Nat.sub_self, Nat.reduceSub, Nat.reduceAdd, Nat.zero_add, eq_self, List.contains_cons, List.contains_nil, Bool.and_true, Bool.true_and, Bool.or_true, Bool.true_or, Bool.or_false, Bool.false_or, Bool.and_false, Bool.false_and, Bool.and_self, beq_self_eq_true, Nat.reduceBEq, if_true, if_false, Bool.false_eq_true, reduceIte, reduceCtorEq, decide_eq_true_eq, Bool.not_true, Bool.not_false]
theorem unpacked_signed_ok {xs : List Int} {p m : Nat} (h1 : 1 ≤ m) (h8 : m ≤ 8) (hp : p + m ≤ xs.length) (hb : bytes ((xs.drop p).take m)) : m_unpacked_signed [.ow (.lst .own (xs.map .int)), .fr (.int p), .fr (.int m)] =
    .ok (.fr (.int (if ((2 ^ (8 * m - 1) : Nat) : Int) ≤ val ((xs.drop p).take m) then val ((xs.drop p).take m) - ((2 ^ (8 * m) : Nat) : Int) else val ((xs.drop p).take m)))) [.s true (.ow (.lst .own (xs.map .int))), .un, .un] := by
  have a3 : okMul 8 m = true := rfl
  have a4 : (8 : Int) * m - 1 = ((8 * m - 1 : Nat) : Int) := by omega
  have a5 := pow_eq (8 * m - 1) (by omega)
  have a6 := unpacked_ok h1 h8 hp hb
  have b2 : okMul 2 ((2 ^ (8 * m - 1) : Nat) : Int) = true := okMul_l (by decide)
  have e2 := half_two m h1
  have b3 : (2 : Int) * ((2 ^ (8 * m - 1) : Nat) : Int) = ((2 ^ (8 * m) : Nat) : Int) := by rw [e2]; omega
  unfold m_unpacked_signed b_unpacked_signed
  by_cases hl : ((2 ^ (8 * m - 1) : Nat) : Int) ≤ val ((xs.drop p).take m)
  · simp -implicitDefEqProofs only [a3, a4, a5, a6, b2, b3, hl, bind_ok, bind_er, bind_bad, thenS_ok, thenS_er, thenS_bad, then_nx, then_rt, then_bk, then_ct, then_er, fin_some, ofO_some, e_sSeq, e_sIf, e_sRt, e_sSet, e_sto, e_sAug, e_sFor, e_sPar, e_sAsg, e_sEx, e_sNx, e_sRaise, e_sItem, e_sAppend, e_sRtN, e_sBk, e_sCt, e_mC, e_mRd, e_mFz, e_frz, e_mMv, e_mVal, e_mAt, e_mOp2, e_mOp1, e_tst, e_cond, e_mT, e_mCh, e_mNil, e_mCons, e_mCallN, e_mDisp, e_stoO, e_stTup, e_mRange, e_lstAt, e_callIt, e_mCallF, e_mNoP, e_mSomeP, e_mSl, e_mWalk, e_mComp, e_mGen, e_mTold, e_sTry, e_capsOk, e_dLt, e_dLe, e_dGt, e_dGe, e_dSub, e_dMax2, e_dMin2, e_mNot, e_mB, e_mJoin, Pv.mFun, Pv.entry, Pv.argS, Pv.finals, Pv.see, Pv.sees, Pv.vals, Pv.takes, Pv.pinOf, Pv.back, Pv.atsOk, Pv.allFr, Pv.ds, Pv.mkT, Pv.mkL, Pv.fz, Pv.kidVs, Pv.stAll, Pv.rangeD1, Pv.rangeD2, Pv.markOf, Pv.g1, Pv.g2, Pv.dLen, Pv.dAbs, Pv.dInt, Pv.dTup, Pv.dList, Pv.dAdd, Pv.dMul, Pv.dNeg, Pv.ints2, DV.d, Pv.modI_p, Pv.divI_p, Pv.idivI_p, Pv.imulI_r, Pv.mulI_p, Pv.powI_p, Pv.dSl, Pv.fzs, Pv.walkD, Pv.dRev, Pv.dOrd, Pv.kids, Pv.kidsL, Pv.kidsT, Pv.items, Pv.dIx, Pv.dEq, Pv.dNe, Pv.dIn, Pv.dNotIn, Pv.eqD_int, Pv.eqD_str, Pv.eqD_bl, Pv.kAny, Pv.kTupG, Pv.anyD, Pv.gSl, sz0, sy0, sz1, sy1, sz2, sy2, sz3, sy3, sz4, sy4, sz5, sy5, sz6, sy6, sz7, sy7, sz8, sy8, sz9, sy9, sz10, sy10, sz11, sy11, sz12, sy12, decide_true, decide_false, decide_not, ite_true, ite_false, not_true_eq_false, not_false_eq_true, List.map_nil, List.map_cons, List.length_nil, List.length_cons, List.replicate_succ, List.replicate_zero, List.nil_append, List.cons_append, List.append_nil, List.getElem?_cons_zero, List.getElem?_cons_succ, List.getElem?_nil, List.set_cons_zero, List.set_cons_succ, List.length_replicate, Option.map_some, Option.map_none, Option.bind_some, Option.bind_none, Nat.sub_self, Nat.reduceSub, Nat.reduceAdd, Nat.zero_add, eq_self, List.contains_cons, List.contains_nil, Bool.and_true, Bool.true_and, Bool.or_true, Bool.true_or, Bool.or_false, Bool.false_or, Bool.and_false, Bool.false_and, Bool.and_self, beq_self_eq_true, Nat.reduceBEq, if_true, if_false, Bool.false_eq_true, reduceIte, reduceCtorEq, decide_eq_true_eq, Bool.not_true, Bool.not_false]
  · simp -implicitDefEqProofs only [a3, a4, a5, a6, b2, b3, hl, bind_ok, bind_er, bind_bad, thenS_ok, thenS_er, thenS_bad, then_nx, then_rt, then_bk, then_ct, then_er, fin_some, ofO_some, e_sSeq, e_sIf, e_sRt, e_sSet, e_sto, e_sAug, e_sFor, e_sPar, e_sAsg, e_sEx, e_sNx, e_sRaise, e_sItem, e_sAppend, e_sRtN, e_sBk, e_sCt, e_mC, e_mRd, e_mFz, e_frz, e_mMv, e_mVal, e_mAt, e_mOp2, e_mOp1, e_tst, e_cond, e_mT, e_mCh, e_mNil, e_mCons, e_mCallN, e_mDisp, e_stoO, e_stTup, e_mRange, e_lstAt, e_callIt, e_mCallF, e_mNoP, e_mSomeP, e_mSl, e_mWalk, e_mComp, e_mGen, e_mTold, e_sTry, e_capsOk, e_dLt, e_dLe, e_dGt, e_dGe, e_dSub, e_dMax2, e_dMin2, e_mNot, e_mB, e_mJoin, Pv.mFun, Pv.entry, Pv.argS, Pv.finals, Pv.see, Pv.sees, Pv.vals, Pv.takes, Pv.pinOf, Pv.back, Pv.atsOk, Pv.allFr, Pv.ds, Pv.mkT, Pv.mkL, Pv.fz, Pv.kidVs, Pv.stAll, Pv.rangeD1, Pv.rangeD2, Pv.markOf, Pv.g1, Pv.g2, Pv.dLen, Pv.dAbs, Pv.dInt, Pv.dTup, Pv.dList, Pv.dAdd, Pv.dMul, Pv.dNeg, Pv.ints2, DV.d, Pv.modI_p, Pv.divI_p, Pv.idivI_p, Pv.imulI_r, Pv.mulI_p, Pv.powI_p, Pv.dSl, Pv.fzs, Pv.walkD, Pv.dRev, Pv.dOrd, Pv.kids, Pv.kidsL, Pv.kidsT, Pv.items, Pv.dIx, Pv.dEq, Pv.dNe, Pv.dIn, Pv.dNotIn, Pv.eqD_int, Pv.eqD_str, Pv.eqD_bl, Pv.kAny, Pv.kTupG, Pv.anyD, Pv.gSl, sz0, sy0, sz1, sy1, sz2, sy2, sz3, sy3, sz4, sy4, sz5, sy5, sz6, sy6, sz7, sy7, sz8, sy8, sz9, sy9, sz10, sy10, sz11, sy11, sz12, sy12, decide_true, decide_false, decide_not, ite_true, ite_false, not_true_eq_false, not_false_eq_true, List.map_nil, List.map_cons, List.length_nil, List.length_cons, List.replicate_succ, List.replicate_zero, List.nil_append, List.cons_append, List.append_nil, List.getElem?_cons_zero, List.getElem?_cons_succ, List.getElem?_nil, List.set_cons_zero, List.set_cons_succ, List.length_replicate, Option.map_some, Option.map_none, Option.bind_some, Option.bind_none, Nat.sub_self, Nat.reduceSub, Nat.reduceAdd, Nat.zero_add, eq_self, List.contains_cons, List.contains_nil, Bool.and_true, Bool.true_and, Bool.or_true, Bool.true_or, Bool.or_false, Bool.false_or, Bool.and_false, Bool.false_and, Bool.and_self, beq_self_eq_true, Nat.reduceBEq, if_true, if_false, Bool.false_eq_true, reduceIte, reduceCtorEq, decide_eq_true_eq, Bool.not_true, Bool.not_false]
/-! ### bytes and numbers -/
theorem rowi_bytes (m n : Nat) : bytes (rowi m n) := fun y hy => by
  obtain ⟨j, _, rfl⟩ := List.mem_map.mp hy
  have : n / 256 ^ j % 256 < 256 := Nat.mod_lt _ (by omega)
  omega
theorem rowi_cons (m n : Nat) : rowi (m + 1) n = ((n % 256 : Nat) : Int) :: rowi m (n / 256) := by
  unfold rowi
  rw [List.range_succ_eq_map, List.map_cons, List.map_map]
  congr 1
  · simp
  apply List.map_congr_left
  intro j _
  show ((n / 256 ^ (j + 1) % 256 : Nat) : Int) = ((n / 256 / 256 ^ j % 256 : Nat) : Int)
  rw [Nat.pow_succ, Nat.mul_comm, Nat.div_div_eq_div_mul]
theorem val_rowi : ∀ (m n : Nat), n < 256 ^ m → val (rowi m n) = n
  | 0, n, h => by
    have : n = 0 := by simpa using h
    subst this; rfl
  | m + 1, n, h => by
    rw [rowi_cons, val, val_rowi m (n / 256) (by rw [Nat.pow_succ] at h; exact Nat.div_lt_of_lt_mul (by omega))]
    omega
theorem pow_256 (m : Nat) : 256 ^ m = 2 ^ (8 * m) := by rw [Nat.pow_mul]
theorem twos_lt (s : Int) (m : Nat) : twos s m < 2 ^ (8 * m) := by
  have hp : 0 < 2 ^ (8 * m) := Nat.pow_pos (by omega)
  have := Int.emod_lt_of_pos s (show (0 : Int) < ((2 ^ (8 * m) : Nat) : Int) by omega)
  have := Int.emod_nonneg s (show ((2 ^ (8 * m) : Nat) : Int) ≠ 0 by omega)
  unfold twos; omega
theorem twos_back (s : Int) (m : Nat) (h1 : 1 ≤ m) (hl : -((2 ^ (8 * m - 1) : Nat) : Int) ≤ s) (hh : s < ((2 ^ (8 * m - 1) : Nat) : Int)) : (if ((2 ^ (8 * m - 1) : Nat) : Int) ≤ (twos s m : Int) then (twos s m : Int) - ((2 ^ (8 * m) : Nat) : Int) else (twos s m : Int)) = s := by
  have e2 := half_two m h1
  unfold twos
  generalize 2 ^ (8 * m - 1) = k at *
  rw [e2]
  by_cases h : 0 ≤ s
  · rw [Int.emod_eq_of_lt h (by omega)]
    rw [if_neg (by omega)]; omega
  · have : s % ((2 * k : Nat) : Int) = s + (2 * k : Nat) := by
      rw [← Int.add_emod_right, Int.emod_eq_of_lt (by omega) (by omega)]
    rw [this, if_pos (by omega)]; omega
theorem twos_pos (s : Int) (m n : Nat) (hs : s = n) (h : n < 2 ^ (8 * m)) : twos s m = n := by
  unfold twos
  rw [hs, Int.emod_eq_of_lt (by omega) (by omega)]; omega
end K01

set_option Elab.async false
set_option linter.all false
set_option maxRecDepth 100000
set_option maxHeartbeats 4000000
namespace K01
open Pv
/-- n by sevens -/
def sev (n : Nat) : List Int := if n < 128 then [(n : Int)] else ((n % 128 + 128 : Nat) : Int) :: sev (n / 128)
termination_by n
decreasing_by omega
theorem sev_lt {n : Nat} (h : n < 128) : sev n = [(n : Int)] := by rw [sev, if_pos h]
theorem sev_ge {n : Nat} (h : ¬ n < 128) : sev n = ((n % 128 + 128 : Nat) : Int) :: sev (n / 128) := by rw [sev, if_neg h]
theorem sev_len : ∀ (k n : Nat), n < 128 ^ (k + 1) → (sev n).length ≤ k + 1
  | 0, n, h => by rw [sev_lt (by simpa using h)]; simp
  | k + 1, n, h => by
    by_cases h1 : n < 128
    · rw [sev_lt h1]; simp
    · rw [sev_ge h1]
      have := sev_len k (n / 128) (Nat.div_lt_of_lt_mul (by rw [Nat.pow_succ] at h; omega))
      simp; omega
theorem law_seven_eq : ∀ (k n : Nat), n < 128 ^ k → k ≤ 1000 → m__law_sevenN k [.fr (.int n)] = .ok (.ow (.lst .own ((sev n).map .int))) [.un] ∨ k = 0
  | 0, n, h, _ => .inr rfl
  | k + 1, n, h, hk => by
    refine .inl ?_
    by_cases h1 : n < 128
    · have a1 : (n : Int) < 128 := by omega
      rw [sev_lt h1]
      unfold m__law_sevenN b__law_seven
      simp -implicitDefEqProofs only [a1, bind_ok, bind_er, bind_bad, thenS_ok, thenS_er, thenS_bad, then_nx, then_rt, then_bk, then_ct, then_er, fin_some, ofO_some, e_sSeq, e_sIf, e_sRt, e_sSet, e_sto, e_sAug, e_sFor, e_sPar, e_sAsg, e_sEx, e_sNx, e_sRaise, e_sItem, e_sAppend, e_sRtN, e_sBk, e_sCt, e_mC, e_mRd, e_mFz, e_frz, e_mMv, e_mVal, e_mAt, e_mOp2, e_mOp1, e_tst, e_cond, e_mT, e_mCh, e_mNil, e_mCons, e_mCallN, e_mDisp, e_stoO, e_stTup, e_mRange, e_lstAt, e_callIt, e_mCallF, e_mNoP, e_mSomeP, e_mSl, e_mWalk, e_mComp, e_mGen, e_mTold, e_sTry, e_capsOk, e_dLt, e_dLe, e_dGt, e_dGe, e_dSub, e_dMax2, e_dMin2, e_mNot, e_mB, e_mJoin, Pv.mFun, Pv.entry, Pv.argS, Pv.finals, Pv.see, Pv.sees, Pv.vals, Pv.takes, Pv.pinOf, Pv.back, Pv.atsOk, Pv.allFr, Pv.ds, Pv.mkT, Pv.mkL, Pv.fz, Pv.kidVs, Pv.stAll, Pv.rangeD1, Pv.rangeD2, Pv.markOf, Pv.g1, Pv.g2, Pv.dLen, Pv.dAbs, Pv.dInt, Pv.dTup, Pv.dList, Pv.dAdd, Pv.dMul, Pv.dNeg, Pv.ints2, DV.d, Pv.modI_p, Pv.divI_p, Pv.idivI_p, Pv.imulI_r, Pv.mulI_p, Pv.powI_p, Pv.dSl, Pv.fzs, Pv.walkD, Pv.dRev, Pv.dOrd, Pv.kids, Pv.kidsL, Pv.kidsT, Pv.items, Pv.dIx, Pv.dEq, Pv.dNe, Pv.dIn, Pv.dNotIn, Pv.eqD_int, Pv.eqD_str, Pv.eqD_bl, Pv.kAny, Pv.kTupG, Pv.anyD, Pv.gSl, sz0, sy0, sz1, sy1, sz2, sy2, sz3, sy3, sz4, sy4, sz5, sy5, sz6, sy6, sz7, sy7, sz8, sy8, sz9, sy9, sz10, sy10, sz11, sy11, sz12, sy12, decide_true, decide_false, decide_not, ite_true, ite_false, not_true_eq_false, not_false_eq_true, List.map_nil, List.map_cons, List.length_nil, List.length_cons, List.replicate_succ, List.replicate_zero, List.nil_append, List.cons_append, List.append_nil, List.getElem?_cons_zero, List.getElem?_cons_succ, List.getElem?_nil, List.set_cons_zero, List.set_cons_succ, List.length_replicate, Option.map_some, Option.map_none, Option.bind_some, Option.bind_none, Nat.sub_self, Nat.reduceSub, Nat.reduceAdd, Nat.zero_add, eq_self, List.contains_cons, List.contains_nil, Bool.and_true, Bool.true_and, Bool.or_true, Bool.true_or, Bool.or_false, Bool.false_or, Bool.and_false, Bool.false_and, Bool.and_self, beq_self_eq_true, Nat.reduceBEq, if_true, if_false, Bool.false_eq_true, reduceIte, reduceCtorEq, decide_eq_true_eq, Bool.not_true, Bool.not_false]
    · have a1 : ¬ (n : Int) < 128 := by omega
      have a2 : (0 : Int) < 128 := by omega
      have a3 : (n : Int) % 128 + 128 = ((n % 128 + 128 : Nat) : Int) := by omega
      have a4 : (n : Int) / 128 = ((n / 128 : Nat) : Int) := by omega
      have a6 : (128 : Int).natAbs.log2 < 9000 := by decide
      have hd : n / 128 < 128 ^ k := Nat.div_lt_of_lt_mul (by rw [Nat.pow_succ] at h; omega)
      have hk0 : k ≠ 0 := fun e => by
        subst e
        simp at hd
        omega
      have a5 := (law_seven_eq k (n / 128) hd (by omega)).resolve_right hk0
      have a7 : 1 + (sev (n / 128)).length ≤ PySem.sizeLine := by
        obtain ⟨j, rfl⟩ : ∃ j, k = j + 1 := ⟨k - 1, by omega⟩
        have := sev_len j (n / 128) hd
        exact Nat.le_trans (show 1 + (sev (n / 128)).length ≤ 2000 by omega) (by decide)
      rw [sev_ge h1]
      unfold m__law_sevenN b__law_seven
      simp -implicitDefEqProofs only [a1, a2, a3, a4, a5, a6, a7, List.length_map, and_self, List.cons_append, List.nil_append, bind_ok, bind_er, bind_bad, thenS_ok, thenS_er, thenS_bad, then_nx, then_rt, then_bk, then_ct, then_er, fin_some, ofO_some, e_sSeq, e_sIf, e_sRt, e_sSet, e_sto, e_sAug, e_sFor, e_sPar, e_sAsg, e_sEx, e_sNx, e_sRaise, e_sItem, e_sAppend, e_sRtN, e_sBk, e_sCt, e_mC, e_mRd, e_mFz, e_frz, e_mMv, e_mVal, e_mAt, e_mOp2, e_mOp1, e_tst, e_cond, e_mT, e_mCh, e_mNil, e_mCons, e_mCallN, e_mDisp, e_stoO, e_stTup, e_mRange, e_lstAt, e_callIt, e_mCallF, e_mNoP, e_mSomeP, e_mSl, e_mWalk, e_mComp, e_mGen, e_mTold, e_sTry, e_capsOk, e_dLt, e_dLe, e_dGt, e_dGe, e_dSub, e_dMax2, e_dMin2, e_mNot, e_mB, e_mJoin, Pv.mFun, Pv.entry, Pv.argS, Pv.finals, Pv.see, Pv.sees, Pv.vals, Pv.takes, Pv.pinOf, Pv.back, Pv.atsOk, Pv.allFr, Pv.ds, Pv.mkT, Pv.mkL, Pv.fz, Pv.kidVs, Pv.stAll, Pv.rangeD1, Pv.rangeD2, Pv.markOf, Pv.g1, Pv.g2, Pv.dLen, Pv.dAbs, Pv.dInt, Pv.dTup, Pv.dList, Pv.dAdd, Pv.dMul, Pv.dNeg, Pv.ints2, DV.d, Pv.modI_p, Pv.divI_p, Pv.idivI_p, Pv.imulI_r, Pv.mulI_p, Pv.powI_p, Pv.dSl, Pv.fzs, Pv.walkD, Pv.dRev, Pv.dOrd, Pv.kids, Pv.kidsL, Pv.kidsT, Pv.items, Pv.dIx, Pv.dEq, Pv.dNe, Pv.dIn, Pv.dNotIn, Pv.eqD_int, Pv.eqD_str, Pv.eqD_bl, Pv.kAny, Pv.kTupG, Pv.anyD, Pv.gSl, sz0, sy0, sz1, sy1, sz2, sy2, sz3, sy3, sz4, sy4, sz5, sy5, sz6, sy6, sz7, sy7, sz8, sy8, sz9, sy9, sz10, sy10, sz11, sy11, sz12, sy12, decide_true, decide_false, decide_not, ite_true, ite_false, not_true_eq_false, not_false_eq_true, List.map_nil, List.map_cons, List.length_nil, List.length_cons, List.replicate_succ, List.replicate_zero, List.nil_append, List.cons_append, List.append_nil, List.getElem?_cons_zero, List.getElem?_cons_succ, List.getElem?_nil, List.set_cons_zero, List.set_cons_succ, List.length_replicate, Option.map_some, Option.map_none, Option.bind_some, Option.bind_none, Nat.sub_self, Nat.reduceSub, Nat.reduceAdd, Nat.zero_add, eq_self, List.contains_cons, List.contains_nil, Bool.and_true, Bool.true_and, Bool.or_true, Bool.true_or, Bool.or_false, Bool.false_or, Bool.and_false, Bool.false_and, Bool.and_self, beq_self_eq_true, Nat.reduceBEq, if_true, if_false, Bool.false_eq_true, reduceIte, reduceCtorEq, decide_eq_true_eq, Bool.not_true, Bool.not_false]
theorem seven_loop {a : Sl} : ∀ (k f : Nat) (acc : List Int) (l : Nat), l < 128 ^ (k + 1) → k < f → acc.length + k ≤ 1000 → ∃ (acc' : List Int) (l' : Nat), acc' ++ [(l' : Int)] = acc ++ sev l ∧
    whileS (tst (mOp2 dGe (mAt 2) (mVal (mC (.int 128))))) (sSeq (sAppend 1 (mOp2 dAdd (mVal (mOp2 (ints2 modI) (mAt 2) (mVal (mC (.int 128))))) (mVal (mC (.int 128))))) (sAug 2 (ints2 idivI) (mC (.int 128)))) f [a, .s false (.ow (.lst .own (acc.map .int))), .s false (.fr (.int l))] =
      .nx [a, .s false (.ow (.lst .own (acc'.map .int))), .s false (.fr (.int l'))] := by
  intro k
  induction k with
  | zero =>
    intro f acc l h hf ha
    obtain ⟨g, rfl⟩ : ∃ g, f = g + 1 := ⟨f - 1, by omega⟩
    have h1 : l < 128 := by simpa using h
    have a1 : ¬ (128 : Int) ≤ (l : Int) := by omega
    refine ⟨acc, l, by rw [sev_lt h1], ?_⟩
    unfold whileS
    simp -implicitDefEqProofs only [a1, bind_ok, bind_er, bind_bad, thenS_ok, thenS_er, thenS_bad, then_nx, then_rt, then_bk, then_ct, then_er, fin_some, ofO_some, e_sSeq, e_sIf, e_sRt, e_sSet, e_sto, e_sAug, e_sFor, e_sPar, e_sAsg, e_sEx, e_sNx, e_sRaise, e_sItem, e_sAppend, e_sRtN, e_sBk, e_sCt, e_mC, e_mRd, e_mFz, e_frz, e_mMv, e_mVal, e_mAt, e_mOp2, e_mOp1, e_tst, e_cond, e_mT, e_mCh, e_mNil, e_mCons, e_mCallN, e_mDisp, e_stoO, e_stTup, e_mRange, e_lstAt, e_callIt, e_mCallF, e_mNoP, e_mSomeP, e_mSl, e_mWalk, e_mComp, e_mGen, e_mTold, e_sTry, e_capsOk, e_dLt, e_dLe, e_dGt, e_dGe, e_dSub, e_dMax2, e_dMin2, e_mNot, e_mB, e_mJoin, Pv.mFun, Pv.entry, Pv.argS, Pv.finals, Pv.see, Pv.sees, Pv.vals, Pv.takes, Pv.pinOf, Pv.back, Pv.atsOk, Pv.allFr, Pv.ds, Pv.mkT, Pv.mkL, Pv.fz, Pv.kidVs, Pv.stAll, Pv.rangeD1, Pv.rangeD2, Pv.markOf, Pv.g1, Pv.g2, Pv.dLen, Pv.dAbs, Pv.dInt, Pv.dTup, Pv.dList, Pv.dAdd, Pv.dMul, Pv.dNeg, Pv.ints2, DV.d, Pv.modI_p, Pv.divI_p, Pv.idivI_p, Pv.imulI_r, Pv.mulI_p, Pv.powI_p, Pv.dSl, Pv.fzs, Pv.walkD, Pv.dRev, Pv.dOrd, Pv.kids, Pv.kidsL, Pv.kidsT, Pv.items, Pv.dIx, Pv.dEq, Pv.dNe, Pv.dIn, Pv.dNotIn, Pv.eqD_int, Pv.eqD_str, Pv.eqD_bl, Pv.kAny, Pv.kTupG, Pv.anyD, Pv.gSl, sz0, sy0, sz1, sy1, sz2, sy2, sz3, sy3, sz4, sy4, sz5, sy5, sz6, sy6, sz7, sy7, sz8, sy8, sz9, sy9, sz10, sy10, sz11, sy11, sz12, sy12, decide_true, decide_false, decide_not, ite_true, ite_false, not_true_eq_false, not_false_eq_true, List.map_nil, List.map_cons, List.length_nil, List.length_cons, List.replicate_succ, List.replicate_zero, List.nil_append, List.cons_append, List.append_nil, List.getElem?_cons_zero, List.getElem?_cons_succ, List.getElem?_nil, List.set_cons_zero, List.set_cons_succ, List.length_replicate, Option.map_some, Option.map_none, Option.bind_some, Option.bind_none, Nat.sub_self, Nat.reduceSub, Nat.reduceAdd, Nat.zero_add, eq_self, List.contains_cons, List.contains_nil, Bool.and_true, Bool.true_and, Bool.or_true, Bool.true_or, Bool.or_false, Bool.false_or, Bool.and_false, Bool.false_and, Bool.and_self, beq_self_eq_true, Nat.reduceBEq, if_true, if_false, Bool.false_eq_true, reduceIte, reduceCtorEq, decide_eq_true_eq, Bool.not_true, Bool.not_false]
  | succ k ih =>
    intro f acc l h hf ha
    obtain ⟨g, rfl⟩ : ∃ g, f = g + 1 := ⟨f - 1, by omega⟩
    by_cases h1 : l < 128
    · have a1 : ¬ (128 : Int) ≤ (l : Int) := by omega
      refine ⟨acc, l, by rw [sev_lt h1], ?_⟩
      unfold whileS
      simp -implicitDefEqProofs only [a1, bind_ok, bind_er, bind_bad, thenS_ok, thenS_er, thenS_bad, then_nx, then_rt, then_bk, then_ct, then_er, fin_some, ofO_some, e_sSeq, e_sIf, e_sRt, e_sSet, e_sto, e_sAug, e_sFor, e_sPar, e_sAsg, e_sEx, e_sNx, e_sRaise, e_sItem, e_sAppend, e_sRtN, e_sBk, e_sCt, e_mC, e_mRd, e_mFz, e_frz, e_mMv, e_mVal, e_mAt, e_mOp2, e_mOp1, e_tst, e_cond, e_mT, e_mCh, e_mNil, e_mCons, e_mCallN, e_mDisp, e_stoO, e_stTup, e_mRange, e_lstAt, e_callIt, e_mCallF, e_mNoP, e_mSomeP, e_mSl, e_mWalk, e_mComp, e_mGen, e_mTold, e_sTry, e_capsOk, e_dLt, e_dLe, e_dGt, e_dGe, e_dSub, e_dMax2, e_dMin2, e_mNot, e_mB, e_mJoin, Pv.mFun, Pv.entry, Pv.argS, Pv.finals, Pv.see, Pv.sees, Pv.vals, Pv.takes, Pv.pinOf, Pv.back, Pv.atsOk, Pv.allFr, Pv.ds, Pv.mkT, Pv.mkL, Pv.fz, Pv.kidVs, Pv.stAll, Pv.rangeD1, Pv.rangeD2, Pv.markOf, Pv.g1, Pv.g2, Pv.dLen, Pv.dAbs, Pv.dInt, Pv.dTup, Pv.dList, Pv.dAdd, Pv.dMul, Pv.dNeg, Pv.ints2, DV.d, Pv.modI_p, Pv.divI_p, Pv.idivI_p, Pv.imulI_r, Pv.mulI_p, Pv.powI_p, Pv.dSl, Pv.fzs, Pv.walkD, Pv.dRev, Pv.dOrd, Pv.kids, Pv.kidsL, Pv.kidsT, Pv.items, Pv.dIx, Pv.dEq, Pv.dNe, Pv.dIn, Pv.dNotIn, Pv.eqD_int, Pv.eqD_str, Pv.eqD_bl, Pv.kAny, Pv.kTupG, Pv.anyD, Pv.gSl, sz0, sy0, sz1, sy1, sz2, sy2, sz3, sy3, sz4, sy4, sz5, sy5, sz6, sy6, sz7, sy7, sz8, sy8, sz9, sy9, sz10, sy10, sz11, sy11, sz12, sy12, decide_true, decide_false, decide_not, ite_true, ite_false, not_true_eq_false, not_false_eq_true, List.map_nil, List.map_cons, List.length_nil, List.length_cons, List.replicate_succ, List.replicate_zero, List.nil_append, List.cons_append, List.append_nil, List.getElem?_cons_zero, List.getElem?_cons_succ, List.getElem?_nil, List.set_cons_zero, List.set_cons_succ, List.length_replicate, Option.map_some, Option.map_none, Option.bind_some, Option.bind_none, Nat.sub_self, Nat.reduceSub, Nat.reduceAdd, Nat.zero_add, eq_self, List.contains_cons, List.contains_nil, Bool.and_true, Bool.true_and, Bool.or_true, Bool.true_or, Bool.or_false, Bool.false_or, Bool.and_false, Bool.false_and, Bool.and_self, beq_self_eq_true, Nat.reduceBEq, if_true, if_false, Bool.false_eq_true, reduceIte, reduceCtorEq, decide_eq_true_eq, Bool.not_true, Bool.not_false]
    · have a1 : (128 : Int) ≤ (l : Int) := by omega
      have a2 : (0 : Int) < 128 := by omega
      have a3 : (l : Int) % 128 + 128 = ((l % 128 + 128 : Nat) : Int) := by omega
      have a4 : (l : Int) / 128 = ((l / 128 : Nat) : Int) := by omega
      have a5 : (128 : Int) < 1073741824 := by omega
      have a6 : acc.length < PySem.sizeLine := Nat.lt_of_le_of_lt (show acc.length ≤ 1000 by omega) (by decide)
      obtain ⟨acc', l', e1, e2⟩ := ih g (acc ++ [((l % 128 + 128 : Nat) : Int)]) (l / 128) (Nat.div_lt_of_lt_mul (by rw [Nat.pow_succ] at h; omega)) (by omega) (by simp; omega)
      refine ⟨acc', l', by rw [e1, sev_ge h1]; simp, ?_⟩
      have a7 : (acc ++ [((l % 128 + 128 : Nat) : Int)]).map D.int = acc.map D.int ++ [.int ((l % 128 + 128 : Nat) : Int)] := by simp
      rw [a7] at e2
      unfold whileS
      simp -implicitDefEqProofs only [a1, a2, a3, a4, a5, a6, List.length_map, and_self, bind_ok, bind_er, bind_bad, thenS_ok, thenS_er, thenS_bad, then_nx, then_rt, then_bk, then_ct, then_er, fin_some, ofO_some, e_sSeq, e_sIf, e_sRt, e_sSet, e_sto, e_sAug, e_sFor, e_sPar, e_sAsg, e_sEx, e_sNx, e_sRaise, e_sItem, e_sAppend, e_sRtN, e_sBk, e_sCt, e_mC, e_mRd, e_mFz, e_frz, e_mMv, e_mVal, e_mAt, e_mOp2, e_mOp1, e_tst, e_cond, e_mT, e_mCh, e_mNil, e_mCons, e_mCallN, e_mDisp, e_stoO, e_stTup, e_mRange, e_lstAt, e_callIt, e_mCallF, e_mNoP, e_mSomeP, e_mSl, e_mWalk, e_mComp, e_mGen, e_mTold, e_sTry, e_capsOk, e_dLt, e_dLe, e_dGt, e_dGe, e_dSub, e_dMax2, e_dMin2, e_mNot, e_mB, e_mJoin, Pv.mFun, Pv.entry, Pv.argS, Pv.finals, Pv.see, Pv.sees, Pv.vals, Pv.takes, Pv.pinOf, Pv.back, Pv.atsOk, Pv.allFr, Pv.ds, Pv.mkT, Pv.mkL, Pv.fz, Pv.kidVs, Pv.stAll, Pv.rangeD1, Pv.rangeD2, Pv.markOf, Pv.g1, Pv.g2, Pv.dLen, Pv.dAbs, Pv.dInt, Pv.dTup, Pv.dList, Pv.dAdd, Pv.dMul, Pv.dNeg, Pv.ints2, DV.d, Pv.modI_p, Pv.divI_p, Pv.idivI_p, Pv.imulI_r, Pv.mulI_p, Pv.powI_p, Pv.dSl, Pv.fzs, Pv.walkD, Pv.dRev, Pv.dOrd, Pv.kids, Pv.kidsL, Pv.kidsT, Pv.items, Pv.dIx, Pv.dEq, Pv.dNe, Pv.dIn, Pv.dNotIn, Pv.eqD_int, Pv.eqD_str, Pv.eqD_bl, Pv.kAny, Pv.kTupG, Pv.anyD, Pv.gSl, sz0, sy0, sz1, sy1, sz2, sy2, sz3, sy3, sz4, sy4, sz5, sy5, sz6, sy6, sz7, sy7, sz8, sy8, sz9, sy9, sz10, sy10, sz11, sy11, sz12, sy12, decide_true, decide_false, decide_not, ite_true, ite_false, not_true_eq_false, not_false_eq_true, List.map_nil, List.map_cons, List.length_nil, List.length_cons, List.replicate_succ, List.replicate_zero, List.nil_append, List.cons_append, List.append_nil, List.getElem?_cons_zero, List.getElem?_cons_succ, List.getElem?_nil, List.set_cons_zero, List.set_cons_succ, List.length_replicate, Option.map_some, Option.map_none, Option.bind_some, Option.bind_none, Nat.sub_self, Nat.reduceSub, Nat.reduceAdd, Nat.zero_add, eq_self, List.contains_cons, List.contains_nil, Bool.and_true, Bool.true_and, Bool.or_true, Bool.true_or, Bool.or_false, Bool.false_or, Bool.and_false, Bool.false_and, Bool.and_self, beq_self_eq_true, Nat.reduceBEq, if_true, if_false, Bool.false_eq_true, reduceIte, reduceCtorEq, decide_eq_true_eq, Bool.not_true, Bool.not_false]
      exact e2
theorem seven_eq (n : Nat) (h : n < 128 ^ 10) : m_seven [.fr (.int n)] = .ok (.fr (.tup ((sev n).map .int))) [.un] := by
  have a1 : ¬ (n : Int) < 0 := by omega
  obtain ⟨acc, l, e1, e2⟩ := seven_loop (a := .s false (.fr (.int n))) 9 100000 [] n h (by omega) (by simp)
  rw [List.nil_append] at e1
  rw [List.map_nil] at e2
  have hl := sev_len 9 n h
  have a3 : acc.length + 1 ≤ PySem.sizeLine := by
    have : (acc ++ [(l : Int)]).length = (sev n).length := by rw [e1]
    simp at this
    exact Nat.le_trans (show acc.length + 1 ≤ 20 by omega) (by decide)
  have a2 : acc.map D.int ++ [.int (l : Int)] = (sev n).map D.int := by rw [← e1]; simp
  unfold m_seven b_seven
  simp -implicitDefEqProofs only [a1, e2, a2, a3, List.length_map, bind_ok, bind_er, bind_bad, thenS_ok, thenS_er, thenS_bad, then_nx, then_rt, then_bk, then_ct, then_er, fin_some, ofO_some, e_sSeq, e_sIf, e_sRt, e_sSet, e_sto, e_sAug, e_sFor, e_sPar, e_sAsg, e_sEx, e_sNx, e_sRaise, e_sItem, e_sAppend, e_sRtN, e_sBk, e_sCt, e_mC, e_mRd, e_mFz, e_frz, e_mMv, e_mVal, e_mAt, e_mOp2, e_mOp1, e_tst, e_cond, e_mT, e_mCh, e_mNil, e_mCons, e_mCallN, e_mDisp, e_stoO, e_stTup, e_mRange, e_lstAt, e_callIt, e_mCallF, e_mNoP, e_mSomeP, e_mSl, e_mWalk, e_mComp, e_mGen, e_mTold, e_sTry, e_capsOk, e_dLt, e_dLe, e_dGt, e_dGe, e_dSub, e_dMax2, e_dMin2, e_mNot, e_mB, e_mJoin, Pv.mFun, Pv.entry, Pv.argS, Pv.finals, Pv.see, Pv.sees, Pv.vals, Pv.takes, Pv.pinOf, Pv.back, Pv.atsOk, Pv.allFr, Pv.ds, Pv.mkT, Pv.mkL, Pv.fz, Pv.kidVs, Pv.stAll, Pv.rangeD1, Pv.rangeD2, Pv.markOf, Pv.g1, Pv.g2, Pv.dLen, Pv.dAbs, Pv.dInt, Pv.dTup, Pv.dList, Pv.dAdd, Pv.dMul, Pv.dNeg, Pv.ints2, DV.d, Pv.modI_p, Pv.divI_p, Pv.idivI_p, Pv.imulI_r, Pv.mulI_p, Pv.powI_p, Pv.dSl, Pv.fzs, Pv.walkD, Pv.dRev, Pv.dOrd, Pv.kids, Pv.kidsL, Pv.kidsT, Pv.items, Pv.dIx, Pv.dEq, Pv.dNe, Pv.dIn, Pv.dNotIn, Pv.eqD_int, Pv.eqD_str, Pv.eqD_bl, Pv.kAny, Pv.kTupG, Pv.anyD, Pv.gSl, sz0, sy0, sz1, sy1, sz2, sy2, sz3, sy3, sz4, sy4, sz5, sy5, sz6, sy6, sz7, sy7, sz8, sy8, sz9, sy9, sz10, sy10, sz11, sy11, sz12, sy12, decide_true, decide_false, decide_not, ite_true, ite_false, not_true_eq_false, not_false_eq_true, List.map_nil, List.map_cons, List.length_nil, List.length_cons, List.replicate_succ, List.replicate_zero, List.nil_append, List.cons_append, List.append_nil, List.getElem?_cons_zero, List.getElem?_cons_succ, List.getElem?_nil, List.set_cons_zero, List.set_cons_succ, List.length_replicate, Option.map_some, Option.map_none, Option.bind_some, Option.bind_none, Nat.sub_self, Nat.reduceSub, Nat.reduceAdd, Nat.zero_add, eq_self, List.contains_cons, List.contains_nil, Bool.and_true, Bool.true_and, Bool.or_true, Bool.true_or, Bool.or_false, Bool.false_or, Bool.and_false, Bool.false_and, Bool.and_self, beq_self_eq_true, Nat.reduceBEq, if_true, if_false, Bool.false_eq_true, reduceIte, reduceCtorEq, decide_eq_true_eq, Bool.not_true, Bool.not_false]
end K01

set_option Elab.async false
set_option linter.all false
set_option maxRecDepth 100000
set_option maxHeartbeats 4000000
namespace K01
open Pv
/-- bytes that stand for a number by sevens -/
def Sv : List Int → Prop
  | [] => False
  | [y] => 0 ≤ y ∧ y < 128
  | y :: z :: ys => 128 ≤ y ∧ y ≤ 255 ∧ Sv (z :: ys)
def v7 : List Int → Int
  | [] => 0
  | [y] => y
  | y :: z :: ys => y % 128 + 128 * v7 (z :: ys)
theorem at_nat {xs : List Int} {j : Nat} {y : Int} (h : xs[j]? = some y) : L2.atI (xs.map D.int) ((j : Nat) : Int) = some (.int y) := by
  have hj : j < xs.length := (List.getElem?_eq_some_iff.mp h).1
  unfold L2.atI
  rw [show L2.ixN (xs.map D.int).length ((j : Nat) : Int) = some j by unfold L2.ixN; rw [if_pos (by omega), if_pos (by simp; omega)]; simp]
  simp [h]
theorem check_one {y : Int} (h0 : 0 ≤ y) (h1 : y ≤ 255) : m_check_bytes [.fr (.tup [.int y])] = .ok (.fr .non) [.un] := check_fr (ys := [y]) fun z hz => by
  rw [List.mem_singleton] at hz
  subst hz
  exact ⟨h0, h1⟩
abbrev rsBody : Sls → RS := (sSeq (sIf (mNot (tst (mCh dLe dLt (mVal (mC (.int 0))) (mVal (mOp2 dAdd (mAt 1) (mAt 4))) (mVal (mCallN (g1 dLen) (mCons (mAt 0) (mNil)))))))
  (sRaise 0)
  (sNx))
  (sSeq (sEx (mCallF [] 1 m_check_bytes (mCons (mVal (mDisp mkT (mCons (mVal (mOp2 dIx (mAt 0) (mVal (mOp2 dAdd (mAt 1) (mAt 4))))) (mNil)))) (mNil))))
  (sSeq (sAug 2 dAddS (mOp2 dMul (mVal (mOp2 (ints2 modI) (mVal (mOp2 dIx (mAt 0) (mVal (mOp2 dAdd (mAt 1) (mAt 4))))) (mVal (mC (.int 128))))) (mAt 3)))
  (sSeq (sAug 3 (ints2 imulI) (mC (.int 128)))
  (sIf (tst (mOp2 dLt (mVal (mOp2 dIx (mAt 0) (mVal (mOp2 dAdd (mAt 1) (mAt 4))))) (mVal (mC (.int 128)))))
  (sRt (mDisp mkT (mCons (mVal (mFz 2)) (mCons (mVal (mOp2 dAdd (mVal (mOp2 dAdd (mAt 1) (mAt 4))) (mVal (mC (.int 1))))) (mNil)))))
  (sNx))))))
theorem read_loop (xs : List Int) (p : Nat) (pb : Bool) : ∀ (ys : List Int) (t k : Nat) (v w : Int) (rest : List Int) (tl : Sl), Sv ys → xs.drop (p + t) = ys ++ rest → ys.length ≤ k → w = (128 : Int) ^ t → t + ys.length ≤ 20 → (tl = .un ∨ ∃ x, tl = .s false x) →
    ∃ a b c, iterS (stoO 4) rsBody ((List.range' t k).map fun (j : Nat) => .fr (.int (0 + (j : Int)))) [.s pb (.ow (.lst .own (xs.map .int))), .s false (.fr (.int p)), .s false (.fr (.int v)), .s false (.fr (.int w)), tl] =
      .rt (.fr (.tup [.int (v + w * v7 ys), .int ((p + t + ys.length : Nat) : Int)])) [.s pb (.ow (.lst .own (xs.map .int))), .s false (.fr (.int p)), a, b, c] := by
  intro ys
  induction ys with
  | nil => intro t k v w rest tl h; exact h.elim
  | cons y ys ih =>
    intro t k v w rest tl hs hd hk hw ht htl
    obtain ⟨k, rfl⟩ : ∃ j, k = j + 1 := ⟨k - 1, by simp at hk; omega⟩
    have hy : xs[p + t]? = some y := by
      have : (xs.drop (p + t))[0]? = some y := by rw [hd]; rfl
      simpa using this
    have hlen : p + t < xs.length := (List.getElem?_eq_some_iff.mp hy).1
    have hb : 0 ≤ y ∧ y ≤ 255 := by
      cases ys with
      | nil => have := hs.1; have := hs.2; omega
      | cons z zs => have := hs.1; have := hs.2.1; omega
    have a0 : (0 : Int) + (t : Int) = (t : Int) := by omega
    have a1 : (p : Int) + (t : Int) = ((p + t : Nat) : Int) := by omega
    have a2 : (0 : Int) ≤ ((p + t : Nat) : Int) := by omega
    have a3 : ((p + t : Nat) : Int) < ((xs.length : Nat) : Int) := by omega
    have a4 := at_nat hy
    have a5 := check_one hb.1 hb.2
    have a6 : (0 : Int) < 128 := by omega
    have a7 : small 128 = true := by decide
    have a8 : okMul (y % 128) w = true := okMul_l (by unfold small; simp; omega)
    have hst : stoO 4 (.fr (.int (0 + (t : Int)))) [.s pb (.ow (.lst .own (xs.map .int))), .s false (.fr (.int p)), .s false (.fr (.int v)), .s false (.fr (.int w)), tl] = some [.s pb (.ow (.lst .own (xs.map .int))), .s false (.fr (.int p)), .s false (.fr (.int v)), .s false (.fr (.int w)), .s false (.fr (.int (t : Int)))] := by
      rw [a0]
      rcases htl with rfl | ⟨x, rfl⟩ <;> rfl
    rw [List.range'_succ, List.map_cons, iter_cons hst]
    unfold rsBody
    cases ys with
    | nil =>
      have b1 : y < 128 := hs.2
      have b2 : y % 128 = y := Int.emod_eq_of_lt hb.1 b1
      have b3 : ((p + t : Nat) : Int) + 1 = ((p + t + 1 : Nat) : Int) := by omega
      rw [b2] at a8
      refine ⟨.s false (.fr (.int (v + y * w))), .s false (.fr (.int (w * 128))), .s false (.fr (.int t)), ?_⟩
      simp -implicitDefEqProofs only [dAddS, a0, a1, a2, a3, a4, a5, a6, a7, a8, b1, b2, b3, v7, Int.mul_comm w y, List.length_map, bind_ok, bind_er, bind_bad, thenS_ok, thenS_er, thenS_bad, then_nx, then_rt, then_bk, then_ct, then_er, fin_some, ofO_some, e_sSeq, e_sIf, e_sRt, e_sSet, e_sto, e_sAug, e_sFor, e_sPar, e_sAsg, e_sEx, e_sNx, e_sRaise, e_sItem, e_sAppend, e_sRtN, e_sBk, e_sCt, e_mC, e_mRd, e_mFz, e_frz, e_mMv, e_mVal, e_mAt, e_mOp2, e_mOp1, e_tst, e_cond, e_mT, e_mCh, e_mNil, e_mCons, e_mCallN, e_mDisp, e_stoO, e_stTup, e_mRange, e_lstAt, e_callIt, e_mCallF, e_mNoP, e_mSomeP, e_mSl, e_mWalk, e_mComp, e_mGen, e_mTold, e_sTry, e_capsOk, e_dLt, e_dLe, e_dGt, e_dGe, e_dSub, e_dMax2, e_dMin2, e_mNot, e_mB, e_mJoin, Pv.mFun, Pv.entry, Pv.argS, Pv.finals, Pv.see, Pv.sees, Pv.vals, Pv.takes, Pv.pinOf, Pv.back, Pv.atsOk, Pv.allFr, Pv.ds, Pv.mkT, Pv.mkL, Pv.fz, Pv.kidVs, Pv.stAll, Pv.rangeD1, Pv.rangeD2, Pv.markOf, Pv.g1, Pv.g2, Pv.dLen, Pv.dAbs, Pv.dInt, Pv.dTup, Pv.dList, Pv.dAdd, Pv.dMul, Pv.dNeg, Pv.ints2, DV.d, Pv.modI_p, Pv.divI_p, Pv.idivI_p, Pv.imulI_r, Pv.mulI_p, Pv.powI_p, Pv.dSl, Pv.fzs, Pv.walkD, Pv.dRev, Pv.dOrd, Pv.kids, Pv.kidsL, Pv.kidsT, Pv.items, Pv.dIx, Pv.dEq, Pv.dNe, Pv.dIn, Pv.dNotIn, Pv.eqD_int, Pv.eqD_str, Pv.eqD_bl, Pv.kAny, Pv.kTupG, Pv.anyD, Pv.gSl, sz0, sy0, sz1, sy1, sz2, sy2, sz3, sy3, sz4, sy4, sz5, sy5, sz6, sy6, sz7, sy7, sz8, sy8, sz9, sy9, sz10, sy10, sz11, sy11, sz12, sy12, decide_true, decide_false, decide_not, ite_true, ite_false, not_true_eq_false, not_false_eq_true, List.map_nil, List.map_cons, List.length_nil, List.length_cons, List.replicate_succ, List.replicate_zero, List.nil_append, List.cons_append, List.append_nil, List.getElem?_cons_zero, List.getElem?_cons_succ, List.getElem?_nil, List.set_cons_zero, List.set_cons_succ, List.length_replicate, Option.map_some, Option.map_none, Option.bind_some, Option.bind_none, Nat.sub_self, Nat.reduceSub, Nat.reduceAdd, Nat.zero_add, eq_self, List.contains_cons, List.contains_nil, Bool.and_true, Bool.true_and, Bool.or_true, Bool.true_or, Bool.or_false, Bool.false_or, Bool.and_false, Bool.false_and, Bool.and_self, beq_self_eq_true, Nat.reduceBEq, if_true, if_false, Bool.false_eq_true, reduceIte, reduceCtorEq, decide_eq_true_eq, Bool.not_true, Bool.not_false]
    | cons z zs =>
      have b1 : ¬ y < 128 := by have := hs.1; omega
      have hd2 : xs.drop (p + (t + 1)) = (z :: zs) ++ rest := by
        rw [← Nat.add_assoc, ← List.drop_drop, hd]; rfl
      obtain ⟨a, b, c, r⟩ := ih (t + 1) k (v + y % 128 * w) (w * 128) rest (.s false (.fr (.int t))) hs.2.2 hd2 (by simp at hk ⊢; omega) (by rw [hw, Int.pow_succ]) (by simp at ht ⊢; omega) (.inr ⟨_, rfl⟩)
      refine ⟨a, b, c, ?_⟩
      simp -implicitDefEqProofs only [dAddS, a0, a1, a2, a3, a4, a5, a6, a7, a8, b1, List.length_map, bind_ok, bind_er, bind_bad, thenS_ok, thenS_er, thenS_bad, then_nx, then_rt, then_bk, then_ct, then_er, fin_some, ofO_some, e_sSeq, e_sIf, e_sRt, e_sSet, e_sto, e_sAug, e_sFor, e_sPar, e_sAsg, e_sEx, e_sNx, e_sRaise, e_sItem, e_sAppend, e_sRtN, e_sBk, e_sCt, e_mC, e_mRd, e_mFz, e_frz, e_mMv, e_mVal, e_mAt, e_mOp2, e_mOp1, e_tst, e_cond, e_mT, e_mCh, e_mNil, e_mCons, e_mCallN, e_mDisp, e_stoO, e_stTup, e_mRange, e_lstAt, e_callIt, e_mCallF, e_mNoP, e_mSomeP, e_mSl, e_mWalk, e_mComp, e_mGen, e_mTold, e_sTry, e_capsOk, e_dLt, e_dLe, e_dGt, e_dGe, e_dSub, e_dMax2, e_dMin2, e_mNot, e_mB, e_mJoin, Pv.mFun, Pv.entry, Pv.argS, Pv.finals, Pv.see, Pv.sees, Pv.vals, Pv.takes, Pv.pinOf, Pv.back, Pv.atsOk, Pv.allFr, Pv.ds, Pv.mkT, Pv.mkL, Pv.fz, Pv.kidVs, Pv.stAll, Pv.rangeD1, Pv.rangeD2, Pv.markOf, Pv.g1, Pv.g2, Pv.dLen, Pv.dAbs, Pv.dInt, Pv.dTup, Pv.dList, Pv.dAdd, Pv.dMul, Pv.dNeg, Pv.ints2, DV.d, Pv.modI_p, Pv.divI_p, Pv.idivI_p, Pv.imulI_r, Pv.mulI_p, Pv.powI_p, Pv.dSl, Pv.fzs, Pv.walkD, Pv.dRev, Pv.dOrd, Pv.kids, Pv.kidsL, Pv.kidsT, Pv.items, Pv.dIx, Pv.dEq, Pv.dNe, Pv.dIn, Pv.dNotIn, Pv.eqD_int, Pv.eqD_str, Pv.eqD_bl, Pv.kAny, Pv.kTupG, Pv.anyD, Pv.gSl, sz0, sy0, sz1, sy1, sz2, sy2, sz3, sy3, sz4, sy4, sz5, sy5, sz6, sy6, sz7, sy7, sz8, sy8, sz9, sy9, sz10, sy10, sz11, sy11, sz12, sy12, decide_true, decide_false, decide_not, ite_true, ite_false, not_true_eq_false, not_false_eq_true, List.map_nil, List.map_cons, List.length_nil, List.length_cons, List.replicate_succ, List.replicate_zero, List.nil_append, List.cons_append, List.append_nil, List.getElem?_cons_zero, List.getElem?_cons_succ, List.getElem?_nil, List.set_cons_zero, List.set_cons_succ, List.length_replicate, Option.map_some, Option.map_none, Option.bind_some, Option.bind_none, Nat.sub_self, Nat.reduceSub, Nat.reduceAdd, Nat.zero_add, eq_self, List.contains_cons, List.contains_nil, Bool.and_true, Bool.true_and, Bool.or_true, Bool.true_or, Bool.or_false, Bool.false_or, Bool.and_false, Bool.false_and, Bool.and_self, beq_self_eq_true, Nat.reduceBEq, if_true, if_false, Bool.false_eq_true, reduceIte, reduceCtorEq, decide_eq_true_eq, Bool.not_true, Bool.not_false]
      refine r.trans ?_
      have e1 : v + y % 128 * w + w * 128 * v7 (z :: zs) = v + w * v7 (y :: z :: zs) := by
        rw [v7, Int.mul_add, Int.mul_comm w (y % 128), Int.mul_assoc, Int.add_assoc]
      have e2 : p + (t + 1) + (z :: zs).length = p + t + (y :: z :: zs).length := by simp; omega
      rw [e1, e2]
      simp only [List.length_cons]
theorem read_eq {xs ys rest : List Int} {p : Nat} (hs : Sv ys) (hd : xs.drop p = ys ++ rest) (hl : ys.length ≤ 10) : m_read_seven [.ow (.lst .own (xs.map .int)), .fr (.int p)] =
    .ok (.fr (.tup [.int (v7 ys), .int ((p + ys.length : Nat) : Int)])) [.s true (.ow (.lst .own (xs.map .int))), .un] := by
  obtain ⟨a, b, c, r⟩ := read_loop xs p true ys 0 10 0 1 rest .un hs (by simpa using hd) hl rfl (by omega) (.inl rfl)
  have a1 : inR 10 = true := by decide
  have a2 : rgItems 0 (10 : Int).toNat = (List.range' 0 10).map fun (j : Nat) => .fr (.int (0 + (j : Int))) := rfl
  have a3 : (0 : Int) + 1 * v7 ys = v7 ys := by omega
  unfold m_read_seven b_read_seven
  rw [a3, Nat.add_zero] at r
  simp -implicitDefEqProofs only [a1, a2, r, List.all_nil, List.all_cons, bind_ok, bind_er, bind_bad, thenS_ok, thenS_er, thenS_bad, then_nx, then_rt, then_bk, then_ct, then_er, fin_some, ofO_some, e_sSeq, e_sIf, e_sRt, e_sSet, e_sto, e_sAug, e_sFor, e_sPar, e_sAsg, e_sEx, e_sNx, e_sRaise, e_sItem, e_sAppend, e_sRtN, e_sBk, e_sCt, e_mC, e_mRd, e_mFz, e_frz, e_mMv, e_mVal, e_mAt, e_mOp2, e_mOp1, e_tst, e_cond, e_mT, e_mCh, e_mNil, e_mCons, e_mCallN, e_mDisp, e_stoO, e_stTup, e_mRange, e_lstAt, e_callIt, e_mCallF, e_mNoP, e_mSomeP, e_mSl, e_mWalk, e_mComp, e_mGen, e_mTold, e_sTry, e_capsOk, e_dLt, e_dLe, e_dGt, e_dGe, e_dSub, e_dMax2, e_dMin2, e_mNot, e_mB, e_mJoin, Pv.mFun, Pv.entry, Pv.argS, Pv.finals, Pv.see, Pv.sees, Pv.vals, Pv.takes, Pv.pinOf, Pv.back, Pv.atsOk, Pv.allFr, Pv.ds, Pv.mkT, Pv.mkL, Pv.fz, Pv.kidVs, Pv.stAll, Pv.rangeD1, Pv.rangeD2, Pv.markOf, Pv.g1, Pv.g2, Pv.dLen, Pv.dAbs, Pv.dInt, Pv.dTup, Pv.dList, Pv.dAdd, Pv.dMul, Pv.dNeg, Pv.ints2, DV.d, Pv.modI_p, Pv.divI_p, Pv.idivI_p, Pv.imulI_r, Pv.mulI_p, Pv.powI_p, Pv.dSl, Pv.fzs, Pv.walkD, Pv.dRev, Pv.dOrd, Pv.kids, Pv.kidsL, Pv.kidsT, Pv.items, Pv.dIx, Pv.dEq, Pv.dNe, Pv.dIn, Pv.dNotIn, Pv.eqD_int, Pv.eqD_str, Pv.eqD_bl, Pv.kAny, Pv.kTupG, Pv.anyD, Pv.gSl, sz0, sy0, sz1, sy1, sz2, sy2, sz3, sy3, sz4, sy4, sz5, sy5, sz6, sy6, sz7, sy7, sz8, sy8, sz9, sy9, sz10, sy10, sz11, sy11, sz12, sy12, decide_true, decide_false, decide_not, ite_true, ite_false, not_true_eq_false, not_false_eq_true, List.map_nil, List.map_cons, List.length_nil, List.length_cons, List.replicate_succ, List.replicate_zero, List.nil_append, List.cons_append, List.append_nil, List.getElem?_cons_zero, List.getElem?_cons_succ, List.getElem?_nil, List.set_cons_zero, List.set_cons_succ, List.length_replicate, Option.map_some, Option.map_none, Option.bind_some, Option.bind_none, Nat.sub_self, Nat.reduceSub, Nat.reduceAdd, Nat.zero_add, eq_self, List.contains_cons, List.contains_nil, Bool.and_true, Bool.true_and, Bool.or_true, Bool.true_or, Bool.or_false, Bool.false_or, Bool.and_false, Bool.false_and, Bool.and_self, beq_self_eq_true, Nat.reduceBEq, if_true, if_false, Bool.false_eq_true, reduceIte, reduceCtorEq, decide_eq_true_eq, Bool.not_true, Bool.not_false]
theorem sev_sv : ∀ (k n : Nat), n < 128 ^ (k + 1) → Sv (sev n) ∧ v7 (sev n) = n
  | 0, n, h => by
    have h1 : n < 128 := by simpa using h
    rw [sev_lt h1]
    exact ⟨⟨by omega, by omega⟩, rfl⟩
  | k + 1, n, h => by
    by_cases h1 : n < 128
    · rw [sev_lt h1]
      exact ⟨⟨by omega, by omega⟩, rfl⟩
    · obtain ⟨i1, i2⟩ := sev_sv k (n / 128) (Nat.div_lt_of_lt_mul (by rw [Nat.pow_succ] at h; omega))
      rw [sev_ge h1]
      cases e : sev (n / 128) with
      | nil => rw [e] at i1; exact i1.elim
      | cons z zs =>
        rw [e] at i1 i2
        refine ⟨⟨by omega, by omega, i1⟩, ?_⟩
        rw [v7, i2]
        omega
end K01

set_option Elab.async false
set_option linter.all false
set_option maxRecDepth 100000
set_option maxHeartbeats 4000000
namespace K01
open Pv
def dn (s : Int) : Prop := (s / 128 = 0 ∧ s % 128 < 64) ∨ (s / 128 = -1 ∧ 64 ≤ s % 128)
instance (s : Int) : Decidable (dn s) := by unfold dn; infer_instance
def ssev : Nat → Int → List Int
  | 0, s => [s % 128]
  | k + 1, s => if dn s then [s % 128] else (s % 128 + 128) :: ssev k (s / 128)
def ft (k : Nat) (s : Int) : Prop := -(64 * 128 ^ k : Int) ≤ s ∧ s < 64 * 128 ^ k
theorem ft_zero {s : Int} (h : ft 0 s) : dn s := by
  obtain ⟨h1, h2⟩ := h
  unfold dn
  simp at h1 h2
  omega
theorem ft_succ {k : Nat} {s : Int} (h : ft (k + 1) s) : ft k (s / 128) := by
  obtain ⟨h1, h2⟩ := h
  unfold ft
  rw [Int.pow_succ] at h1 h2
  generalize (128 : Int) ^ k = q at *
  omega
theorem ssev_dn {k : Nat} {s : Int} (h : dn s) : ssev k s = [s % 128] := by
  cases k with
  | zero => rfl
  | succ k => rw [ssev, if_pos h]
theorem ssev_nd {k : Nat} {s : Int} (h : ¬ dn s) : ssev (k + 1) s = (s % 128 + 128) :: ssev k (s / 128) := by rw [ssev, if_neg h]
theorem ssev_len : ∀ (k : Nat) (s : Int), (ssev k s).length ≤ k + 1
  | 0, s => by simp [ssev]
  | k + 1, s => by
    rw [ssev]
    split
    · simp
    · have := ssev_len k (s / 128)
      simp; omega
theorem law_signed_dn (F : List DV → RF) {s : Int} (h : dn s) : mFun 3 (b__law_signed F) [.fr (.int s)] = .ok (.ow (.lst .own [.int (s % 128)])) [.un] := by
  have a2 : (0 : Int) < 128 := by omega
  have a6 : (128 : Int).natAbs.log2 < 9000 := by decide
  unfold b__law_signed
  rcases h with ⟨h1, h2⟩ | ⟨h1, h2⟩
  · simp -implicitDefEqProofs only [a2, a6, eq_true h1, h2, and_self, bind_ok, bind_er, bind_bad, thenS_ok, thenS_er, thenS_bad, then_nx, then_rt, then_bk, then_ct, then_er, fin_some, ofO_some, e_sSeq, e_sIf, e_sRt, e_sSet, e_sto, e_sAug, e_sFor, e_sPar, e_sAsg, e_sEx, e_sNx, e_sRaise, e_sItem, e_sAppend, e_sRtN, e_sBk, e_sCt, e_mC, e_mRd, e_mFz, e_frz, e_mMv, e_mVal, e_mAt, e_mOp2, e_mOp1, e_tst, e_cond, e_mT, e_mCh, e_mNil, e_mCons, e_mCallN, e_mDisp, e_stoO, e_stTup, e_mRange, e_lstAt, e_callIt, e_mCallF, e_mNoP, e_mSomeP, e_mSl, e_mWalk, e_mComp, e_mGen, e_mTold, e_sTry, e_capsOk, e_dLt, e_dLe, e_dGt, e_dGe, e_dSub, e_dMax2, e_dMin2, e_mNot, e_mB, e_mJoin, Pv.mFun, Pv.entry, Pv.argS, Pv.finals, Pv.see, Pv.sees, Pv.vals, Pv.takes, Pv.pinOf, Pv.back, Pv.atsOk, Pv.allFr, Pv.ds, Pv.mkT, Pv.mkL, Pv.fz, Pv.kidVs, Pv.stAll, Pv.rangeD1, Pv.rangeD2, Pv.markOf, Pv.g1, Pv.g2, Pv.dLen, Pv.dAbs, Pv.dInt, Pv.dTup, Pv.dList, Pv.dAdd, Pv.dMul, Pv.dNeg, Pv.ints2, DV.d, Pv.modI_p, Pv.divI_p, Pv.idivI_p, Pv.imulI_r, Pv.mulI_p, Pv.powI_p, Pv.dSl, Pv.fzs, Pv.walkD, Pv.dRev, Pv.dOrd, Pv.kids, Pv.kidsL, Pv.kidsT, Pv.items, Pv.dIx, Pv.dEq, Pv.dNe, Pv.dIn, Pv.dNotIn, Pv.eqD_int, Pv.eqD_str, Pv.eqD_bl, Pv.kAny, Pv.kTupG, Pv.anyD, Pv.gSl, sz0, sy0, sz1, sy1, sz2, sy2, sz3, sy3, sz4, sy4, sz5, sy5, sz6, sy6, sz7, sy7, sz8, sy8, sz9, sy9, sz10, sy10, sz11, sy11, sz12, sy12, decide_true, decide_false, decide_not, ite_true, ite_false, not_true_eq_false, not_false_eq_true, List.map_nil, List.map_cons, List.length_nil, List.length_cons, List.replicate_succ, List.replicate_zero, List.nil_append, List.cons_append, List.append_nil, List.getElem?_cons_zero, List.getElem?_cons_succ, List.getElem?_nil, List.set_cons_zero, List.set_cons_succ, List.length_replicate, Option.map_some, Option.map_none, Option.bind_some, Option.bind_none, Nat.sub_self, Nat.reduceSub, Nat.reduceAdd, Nat.zero_add, eq_self, List.contains_cons, List.contains_nil, Bool.and_true, Bool.true_and, Bool.or_true, Bool.true_or, Bool.or_false, Bool.false_or, Bool.and_false, Bool.false_and, Bool.and_self, beq_self_eq_true, Nat.reduceBEq, if_true, if_false, Bool.false_eq_true, reduceIte, reduceCtorEq, decide_eq_true_eq, Bool.not_true, Bool.not_false]
  · have h0 : ¬ s / 128 = 0 := by omega
    have h3 : 63 < s % 128 := by omega
    simp -implicitDefEqProofs only [a2, a6, eq_true h1, eq_false h0, h3, and_self, bind_ok, bind_er, bind_bad, thenS_ok, thenS_er, thenS_bad, then_nx, then_rt, then_bk, then_ct, then_er, fin_some, ofO_some, e_sSeq, e_sIf, e_sRt, e_sSet, e_sto, e_sAug, e_sFor, e_sPar, e_sAsg, e_sEx, e_sNx, e_sRaise, e_sItem, e_sAppend, e_sRtN, e_sBk, e_sCt, e_mC, e_mRd, e_mFz, e_frz, e_mMv, e_mVal, e_mAt, e_mOp2, e_mOp1, e_tst, e_cond, e_mT, e_mCh, e_mNil, e_mCons, e_mCallN, e_mDisp, e_stoO, e_stTup, e_mRange, e_lstAt, e_callIt, e_mCallF, e_mNoP, e_mSomeP, e_mSl, e_mWalk, e_mComp, e_mGen, e_mTold, e_sTry, e_capsOk, e_dLt, e_dLe, e_dGt, e_dGe, e_dSub, e_dMax2, e_dMin2, e_mNot, e_mB, e_mJoin, Pv.mFun, Pv.entry, Pv.argS, Pv.finals, Pv.see, Pv.sees, Pv.vals, Pv.takes, Pv.pinOf, Pv.back, Pv.atsOk, Pv.allFr, Pv.ds, Pv.mkT, Pv.mkL, Pv.fz, Pv.kidVs, Pv.stAll, Pv.rangeD1, Pv.rangeD2, Pv.markOf, Pv.g1, Pv.g2, Pv.dLen, Pv.dAbs, Pv.dInt, Pv.dTup, Pv.dList, Pv.dAdd, Pv.dMul, Pv.dNeg, Pv.ints2, DV.d, Pv.modI_p, Pv.divI_p, Pv.idivI_p, Pv.imulI_r, Pv.mulI_p, Pv.powI_p, Pv.dSl, Pv.fzs, Pv.walkD, Pv.dRev, Pv.dOrd, Pv.kids, Pv.kidsL, Pv.kidsT, Pv.items, Pv.dIx, Pv.dEq, Pv.dNe, Pv.dIn, Pv.dNotIn, Pv.eqD_int, Pv.eqD_str, Pv.eqD_bl, Pv.kAny, Pv.kTupG, Pv.anyD, Pv.gSl, sz0, sy0, sz1, sy1, sz2, sy2, sz3, sy3, sz4, sy4, sz5, sy5, sz6, sy6, sz7, sy7, sz8, sy8, sz9, sy9, sz10, sy10, sz11, sy11, sz12, sy12, decide_true, decide_false, decide_not, ite_true, ite_false, not_true_eq_false, not_false_eq_true, List.map_nil, List.map_cons, List.length_nil, List.length_cons, List.replicate_succ, List.replicate_zero, List.nil_append, List.cons_append, List.append_nil, List.getElem?_cons_zero, List.getElem?_cons_succ, List.getElem?_nil, List.set_cons_zero, List.set_cons_succ, List.length_replicate, Option.map_some, Option.map_none, Option.bind_some, Option.bind_none, Nat.sub_self, Nat.reduceSub, Nat.reduceAdd, Nat.zero_add, eq_self, List.contains_cons, List.contains_nil, Bool.and_true, Bool.true_and, Bool.or_true, Bool.true_or, Bool.or_false, Bool.false_or, Bool.and_false, Bool.false_and, Bool.and_self, beq_self_eq_true, Nat.reduceBEq, if_true, if_false, Bool.false_eq_true, reduceIte, reduceCtorEq, decide_eq_true_eq, Bool.not_true, Bool.not_false]
theorem law_signed_nd (F : List DV → RF) {s : Int} {ys : List Int} (h : ¬ dn s) (hF : F [.fr (.int (s / 128))] = .ok (.ow (.lst .own (ys.map .int))) [.un]) (hl : 1 + ys.length ≤ PySem.sizeLine) : mFun 3 (b__law_signed F) [.fr (.int s)] = .ok (.ow (.lst .own (((s % 128 + 128) :: ys : List Int).map .int))) [.un] := by
  have a2 : (0 : Int) < 128 := by omega
  have a6 : (128 : Int).natAbs.log2 < 9000 := by decide
  unfold b__law_signed
  unfold dn at h
  by_cases h0 : s / 128 = 0
  · have h2 : ¬ s % 128 < 64 := fun h2 => h (.inl ⟨h0, h2⟩)
    have h1 : ¬ s / 128 = -1 := by omega
    simp -implicitDefEqProofs only [a2, a6, eq_true h0, eq_false h1, h2, hF, hl, List.length_map, and_self, bind_ok, bind_er, bind_bad, thenS_ok, thenS_er, thenS_bad, then_nx, then_rt, then_bk, then_ct, then_er, fin_some, ofO_some, e_sSeq, e_sIf, e_sRt, e_sSet, e_sto, e_sAug, e_sFor, e_sPar, e_sAsg, e_sEx, e_sNx, e_sRaise, e_sItem, e_sAppend, e_sRtN, e_sBk, e_sCt, e_mC, e_mRd, e_mFz, e_frz, e_mMv, e_mVal, e_mAt, e_mOp2, e_mOp1, e_tst, e_cond, e_mT, e_mCh, e_mNil, e_mCons, e_mCallN, e_mDisp, e_stoO, e_stTup, e_mRange, e_lstAt, e_callIt, e_mCallF, e_mNoP, e_mSomeP, e_mSl, e_mWalk, e_mComp, e_mGen, e_mTold, e_sTry, e_capsOk, e_dLt, e_dLe, e_dGt, e_dGe, e_dSub, e_dMax2, e_dMin2, e_mNot, e_mB, e_mJoin, Pv.mFun, Pv.entry, Pv.argS, Pv.finals, Pv.see, Pv.sees, Pv.vals, Pv.takes, Pv.pinOf, Pv.back, Pv.atsOk, Pv.allFr, Pv.ds, Pv.mkT, Pv.mkL, Pv.fz, Pv.kidVs, Pv.stAll, Pv.rangeD1, Pv.rangeD2, Pv.markOf, Pv.g1, Pv.g2, Pv.dLen, Pv.dAbs, Pv.dInt, Pv.dTup, Pv.dList, Pv.dAdd, Pv.dMul, Pv.dNeg, Pv.ints2, DV.d, Pv.modI_p, Pv.divI_p, Pv.idivI_p, Pv.imulI_r, Pv.mulI_p, Pv.powI_p, Pv.dSl, Pv.fzs, Pv.walkD, Pv.dRev, Pv.dOrd, Pv.kids, Pv.kidsL, Pv.kidsT, Pv.items, Pv.dIx, Pv.dEq, Pv.dNe, Pv.dIn, Pv.dNotIn, Pv.eqD_int, Pv.eqD_str, Pv.eqD_bl, Pv.kAny, Pv.kTupG, Pv.anyD, Pv.gSl, sz0, sy0, sz1, sy1, sz2, sy2, sz3, sy3, sz4, sy4, sz5, sy5, sz6, sy6, sz7, sy7, sz8, sy8, sz9, sy9, sz10, sy10, sz11, sy11, sz12, sy12, decide_true, decide_false, decide_not, ite_true, ite_false, not_true_eq_false, not_false_eq_true, List.map_nil, List.map_cons, List.length_nil, List.length_cons, List.replicate_succ, List.replicate_zero, List.nil_append, List.cons_append, List.append_nil, List.getElem?_cons_zero, List.getElem?_cons_succ, List.getElem?_nil, List.set_cons_zero, List.set_cons_succ, List.length_replicate, Option.map_some, Option.map_none, Option.bind_some, Option.bind_none, Nat.sub_self, Nat.reduceSub, Nat.reduceAdd, Nat.zero_add, eq_self, List.contains_cons, List.contains_nil, Bool.and_true, Bool.true_and, Bool.or_true, Bool.true_or, Bool.or_false, Bool.false_or, Bool.and_false, Bool.false_and, Bool.and_self, beq_self_eq_true, Nat.reduceBEq, if_true, if_false, Bool.false_eq_true, reduceIte, reduceCtorEq, decide_eq_true_eq, Bool.not_true, Bool.not_false]
  · by_cases h1 : s / 128 = -1
    · have h2 : ¬ 63 < s % 128 := fun h2 => h (.inr ⟨h1, by omega⟩)
      simp -implicitDefEqProofs only [a2, a6, eq_false h0, eq_true h1, h2, hF, hl, List.length_map, and_self, bind_ok, bind_er, bind_bad, thenS_ok, thenS_er, thenS_bad, then_nx, then_rt, then_bk, then_ct, then_er, fin_some, ofO_some, e_sSeq, e_sIf, e_sRt, e_sSet, e_sto, e_sAug, e_sFor, e_sPar, e_sAsg, e_sEx, e_sNx, e_sRaise, e_sItem, e_sAppend, e_sRtN, e_sBk, e_sCt, e_mC, e_mRd, e_mFz, e_frz, e_mMv, e_mVal, e_mAt, e_mOp2, e_mOp1, e_tst, e_cond, e_mT, e_mCh, e_mNil, e_mCons, e_mCallN, e_mDisp, e_stoO, e_stTup, e_mRange, e_lstAt, e_callIt, e_mCallF, e_mNoP, e_mSomeP, e_mSl, e_mWalk, e_mComp, e_mGen, e_mTold, e_sTry, e_capsOk, e_dLt, e_dLe, e_dGt, e_dGe, e_dSub, e_dMax2, e_dMin2, e_mNot, e_mB, e_mJoin, Pv.mFun, Pv.entry, Pv.argS, Pv.finals, Pv.see, Pv.sees, Pv.vals, Pv.takes, Pv.pinOf, Pv.back, Pv.atsOk, Pv.allFr, Pv.ds, Pv.mkT, Pv.mkL, Pv.fz, Pv.kidVs, Pv.stAll, Pv.rangeD1, Pv.rangeD2, Pv.markOf, Pv.g1, Pv.g2, Pv.dLen, Pv.dAbs, Pv.dInt, Pv.dTup, Pv.dList, Pv.dAdd, Pv.dMul, Pv.dNeg, Pv.ints2, DV.d, Pv.modI_p, Pv.divI_p, Pv.idivI_p, Pv.imulI_r, Pv.mulI_p, Pv.powI_p, Pv.dSl, Pv.fzs, Pv.walkD, Pv.dRev, Pv.dOrd, Pv.kids, Pv.kidsL, Pv.kidsT, Pv.items, Pv.dIx, Pv.dEq, Pv.dNe, Pv.dIn, Pv.dNotIn, Pv.eqD_int, Pv.eqD_str, Pv.eqD_bl, Pv.kAny, Pv.kTupG, Pv.anyD, Pv.gSl, sz0, sy0, sz1, sy1, sz2, sy2, sz3, sy3, sz4, sy4, sz5, sy5, sz6, sy6, sz7, sy7, sz8, sy8, sz9, sy9, sz10, sy10, sz11, sy11, sz12, sy12, decide_true, decide_false, decide_not, ite_true, ite_false, not_true_eq_false, not_false_eq_true, List.map_nil, List.map_cons, List.length_nil, List.length_cons, List.replicate_succ, List.replicate_zero, List.nil_append, List.cons_append, List.append_nil, List.getElem?_cons_zero, List.getElem?_cons_succ, List.getElem?_nil, List.set_cons_zero, List.set_cons_succ, List.length_replicate, Option.map_some, Option.map_none, Option.bind_some, Option.bind_none, Nat.sub_self, Nat.reduceSub, Nat.reduceAdd, Nat.zero_add, eq_self, List.contains_cons, List.contains_nil, Bool.and_true, Bool.true_and, Bool.or_true, Bool.true_or, Bool.or_false, Bool.false_or, Bool.and_false, Bool.false_and, Bool.and_self, beq_self_eq_true, Nat.reduceBEq, if_true, if_false, Bool.false_eq_true, reduceIte, reduceCtorEq, decide_eq_true_eq, Bool.not_true, Bool.not_false]
    · simp -implicitDefEqProofs only [a2, a6, eq_false h0, eq_false h1, hF, hl, List.length_map, and_self, bind_ok, bind_er, bind_bad, thenS_ok, thenS_er, thenS_bad, then_nx, then_rt, then_bk, then_ct, then_er, fin_some, ofO_some, e_sSeq, e_sIf, e_sRt, e_sSet, e_sto, e_sAug, e_sFor, e_sPar, e_sAsg, e_sEx, e_sNx, e_sRaise, e_sItem, e_sAppend, e_sRtN, e_sBk, e_sCt, e_mC, e_mRd, e_mFz, e_frz, e_mMv, e_mVal, e_mAt, e_mOp2, e_mOp1, e_tst, e_cond, e_mT, e_mCh, e_mNil, e_mCons, e_mCallN, e_mDisp, e_stoO, e_stTup, e_mRange, e_lstAt, e_callIt, e_mCallF, e_mNoP, e_mSomeP, e_mSl, e_mWalk, e_mComp, e_mGen, e_mTold, e_sTry, e_capsOk, e_dLt, e_dLe, e_dGt, e_dGe, e_dSub, e_dMax2, e_dMin2, e_mNot, e_mB, e_mJoin, Pv.mFun, Pv.entry, Pv.argS, Pv.finals, Pv.see, Pv.sees, Pv.vals, Pv.takes, Pv.pinOf, Pv.back, Pv.atsOk, Pv.allFr, Pv.ds, Pv.mkT, Pv.mkL, Pv.fz, Pv.kidVs, Pv.stAll, Pv.rangeD1, Pv.rangeD2, Pv.markOf, Pv.g1, Pv.g2, Pv.dLen, Pv.dAbs, Pv.dInt, Pv.dTup, Pv.dList, Pv.dAdd, Pv.dMul, Pv.dNeg, Pv.ints2, DV.d, Pv.modI_p, Pv.divI_p, Pv.idivI_p, Pv.imulI_r, Pv.mulI_p, Pv.powI_p, Pv.dSl, Pv.fzs, Pv.walkD, Pv.dRev, Pv.dOrd, Pv.kids, Pv.kidsL, Pv.kidsT, Pv.items, Pv.dIx, Pv.dEq, Pv.dNe, Pv.dIn, Pv.dNotIn, Pv.eqD_int, Pv.eqD_str, Pv.eqD_bl, Pv.kAny, Pv.kTupG, Pv.anyD, Pv.gSl, sz0, sy0, sz1, sy1, sz2, sy2, sz3, sy3, sz4, sy4, sz5, sy5, sz6, sy6, sz7, sy7, sz8, sy8, sz9, sy9, sz10, sy10, sz11, sy11, sz12, sy12, decide_true, decide_false, decide_not, ite_true, ite_false, not_true_eq_false, not_false_eq_true, List.map_nil, List.map_cons, List.length_nil, List.length_cons, List.replicate_succ, List.replicate_zero, List.nil_append, List.cons_append, List.append_nil, List.getElem?_cons_zero, List.getElem?_cons_succ, List.getElem?_nil, List.set_cons_zero, List.set_cons_succ, List.length_replicate, Option.map_some, Option.map_none, Option.bind_some, Option.bind_none, Nat.sub_self, Nat.reduceSub, Nat.reduceAdd, Nat.zero_add, eq_self, List.contains_cons, List.contains_nil, Bool.and_true, Bool.true_and, Bool.or_true, Bool.true_or, Bool.or_false, Bool.false_or, Bool.and_false, Bool.false_and, Bool.and_self, beq_self_eq_true, Nat.reduceBEq, if_true, if_false, Bool.false_eq_true, reduceIte, reduceCtorEq, decide_eq_true_eq, Bool.not_true, Bool.not_false]
theorem law_signed_eq : ∀ (k j : Nat) (s : Int), ft k s → k < j → k ≤ 1000 → m__law_signedN j [.fr (.int s)] = .ok (.ow (.lst .own ((ssev k s).map .int))) [.un]
  | k, 0, s, h, hj, _ => absurd hj (by omega)
  | 0, j + 1, s, h, hj, hk => by
    rw [ssev_dn (ft_zero h)]
    exact law_signed_dn _ (ft_zero h)
  | k + 1, j + 1, s, h, hj, hk => by
    by_cases hd : dn s
    · rw [ssev_dn hd]
      exact law_signed_dn _ hd
    · rw [ssev_nd hd]
      have := ssev_len k (s / 128)
      exact law_signed_nd _ hd (law_signed_eq k j (s / 128) (ft_succ h) (by omega) (by omega)) (Nat.le_trans (show 1 + (ssev k (s / 128)).length ≤ 2000 by omega) (by decide))
abbrev sgBody : Sls → RS := (sSeq (sSet 3 (mOp2 (ints2 modI) (mAt 2) (mVal (mC (.int 128)))))
  (sSeq (sSet 2 (mOp2 (ints2 divI) (mAt 2) (mVal (mC (.int 128)))))
  (sSeq (sIf (cond (cond (tst (mOp2 dEq (mAt 2) (mVal (mC (.int 0))))) (tst (mOp2 dLt (mAt 3) (mVal (mC (.int 64))))) (mT false)) (mT true) (cond (tst (mOp2 dEq (mAt 2) (mVal (mOp2 dSub (mVal (mC (.int 0))) (mVal (mC (.int 1))))))) (tst (mOp2 dGe (mAt 3) (mVal (mC (.int 64))))) (mT false)))
  (sRt (mCallN (g1 dTup) (mCons (mVal (mOp2 dAdd (mAt 1) (mVal (mDisp mkL (mCons (mVal (mFz 3)) (mNil)))))) (mNil))))
  (sNx))
  (sAppend 1 (mOp2 dAdd (mAt 3) (mVal (mC (.int 128))))))))
theorem sg_dn {a tl : Sl} {acc : List Int} {s : Int} (h : dn s) (htl : tl = .un ∨ ∃ x, tl = .s false x) (hl : acc.length + 1 ≤ PySem.sizeLine) : sgBody [a, .s false (.ow (.lst .own (acc.map .int))), .s false (.fr (.int s)), tl] = .rt (.fr (.tup ((acc ++ [s % 128]).map .int))) [a, .s false (.ow (.lst .own (acc.map .int))), .s false (.fr (.int (s / 128))), .s false (.fr (.int (s % 128)))] := by
  have a2 : (0 : Int) < 128 := by omega
  have a6 : (128 : Int).natAbs.log2 < 9000 := by decide
  have a7 : (0 : Int) - 1 = -1 := rfl
  unfold sgBody
  rcases htl with rfl | ⟨x, rfl⟩ <;> rcases h with ⟨h1, h2⟩ | ⟨h1, h2⟩
  · simp -implicitDefEqProofs only [a2, a6, a7, eq_true h1, h2, hl, List.map_append, List.length_map, and_self, bind_ok, bind_er, bind_bad, thenS_ok, thenS_er, thenS_bad, then_nx, then_rt, then_bk, then_ct, then_er, fin_some, ofO_some, e_sSeq, e_sIf, e_sRt, e_sSet, e_sto, e_sAug, e_sFor, e_sPar, e_sAsg, e_sEx, e_sNx, e_sRaise, e_sItem, e_sAppend, e_sRtN, e_sBk, e_sCt, e_mC, e_mRd, e_mFz, e_frz, e_mMv, e_mVal, e_mAt, e_mOp2, e_mOp1, e_tst, e_cond, e_mT, e_mCh, e_mNil, e_mCons, e_mCallN, e_mDisp, e_stoO, e_stTup, e_mRange, e_lstAt, e_callIt, e_mCallF, e_mNoP, e_mSomeP, e_mSl, e_mWalk, e_mComp, e_mGen, e_mTold, e_sTry, e_capsOk, e_dLt, e_dLe, e_dGt, e_dGe, e_dSub, e_dMax2, e_dMin2, e_mNot, e_mB, e_mJoin, Pv.mFun, Pv.entry, Pv.argS, Pv.finals, Pv.see, Pv.sees, Pv.vals, Pv.takes, Pv.pinOf, Pv.back, Pv.atsOk, Pv.allFr, Pv.ds, Pv.mkT, Pv.mkL, Pv.fz, Pv.kidVs, Pv.stAll, Pv.rangeD1, Pv.rangeD2, Pv.markOf, Pv.g1, Pv.g2, Pv.dLen, Pv.dAbs, Pv.dInt, Pv.dTup, Pv.dList, Pv.dAdd, Pv.dMul, Pv.dNeg, Pv.ints2, DV.d, Pv.modI_p, Pv.divI_p, Pv.idivI_p, Pv.imulI_r, Pv.mulI_p, Pv.powI_p, Pv.dSl, Pv.fzs, Pv.walkD, Pv.dRev, Pv.dOrd, Pv.kids, Pv.kidsL, Pv.kidsT, Pv.items, Pv.dIx, Pv.dEq, Pv.dNe, Pv.dIn, Pv.dNotIn, Pv.eqD_int, Pv.eqD_str, Pv.eqD_bl, Pv.kAny, Pv.kTupG, Pv.anyD, Pv.gSl, sz0, sy0, sz1, sy1, sz2, sy2, sz3, sy3, sz4, sy4, sz5, sy5, sz6, sy6, sz7, sy7, sz8, sy8, sz9, sy9, sz10, sy10, sz11, sy11, sz12, sy12, decide_true, decide_false, decide_not, ite_true, ite_false, not_true_eq_false, not_false_eq_true, List.map_nil, List.map_cons, List.length_nil, List.length_cons, List.replicate_succ, List.replicate_zero, List.nil_append, List.cons_append, List.append_nil, List.getElem?_cons_zero, List.getElem?_cons_succ, List.getElem?_nil, List.set_cons_zero, List.set_cons_succ, List.length_replicate, Option.map_some, Option.map_none, Option.bind_some, Option.bind_none, Nat.sub_self, Nat.reduceSub, Nat.reduceAdd, Nat.zero_add, eq_self, List.contains_cons, List.contains_nil, Bool.and_true, Bool.true_and, Bool.or_true, Bool.true_or, Bool.or_false, Bool.false_or, Bool.and_false, Bool.false_and, Bool.and_self, beq_self_eq_true, Nat.reduceBEq, if_true, if_false, Bool.false_eq_true, reduceIte, reduceCtorEq, decide_eq_true_eq, Bool.not_true, Bool.not_false]
  · have h0 : ¬ s / 128 = 0 := by omega
    simp -implicitDefEqProofs only [a2, a6, a7, eq_true h1, eq_false h0, h2, hl, List.map_append, List.length_map, and_self, bind_ok, bind_er, bind_bad, thenS_ok, thenS_er, thenS_bad, then_nx, then_rt, then_bk, then_ct, then_er, fin_some, ofO_some, e_sSeq, e_sIf, e_sRt, e_sSet, e_sto, e_sAug, e_sFor, e_sPar, e_sAsg, e_sEx, e_sNx, e_sRaise, e_sItem, e_sAppend, e_sRtN, e_sBk, e_sCt, e_mC, e_mRd, e_mFz, e_frz, e_mMv, e_mVal, e_mAt, e_mOp2, e_mOp1, e_tst, e_cond, e_mT, e_mCh, e_mNil, e_mCons, e_mCallN, e_mDisp, e_stoO, e_stTup, e_mRange, e_lstAt, e_callIt, e_mCallF, e_mNoP, e_mSomeP, e_mSl, e_mWalk, e_mComp, e_mGen, e_mTold, e_sTry, e_capsOk, e_dLt, e_dLe, e_dGt, e_dGe, e_dSub, e_dMax2, e_dMin2, e_mNot, e_mB, e_mJoin, Pv.mFun, Pv.entry, Pv.argS, Pv.finals, Pv.see, Pv.sees, Pv.vals, Pv.takes, Pv.pinOf, Pv.back, Pv.atsOk, Pv.allFr, Pv.ds, Pv.mkT, Pv.mkL, Pv.fz, Pv.kidVs, Pv.stAll, Pv.rangeD1, Pv.rangeD2, Pv.markOf, Pv.g1, Pv.g2, Pv.dLen, Pv.dAbs, Pv.dInt, Pv.dTup, Pv.dList, Pv.dAdd, Pv.dMul, Pv.dNeg, Pv.ints2, DV.d, Pv.modI_p, Pv.divI_p, Pv.idivI_p, Pv.imulI_r, Pv.mulI_p, Pv.powI_p, Pv.dSl, Pv.fzs, Pv.walkD, Pv.dRev, Pv.dOrd, Pv.kids, Pv.kidsL, Pv.kidsT, Pv.items, Pv.dIx, Pv.dEq, Pv.dNe, Pv.dIn, Pv.dNotIn, Pv.eqD_int, Pv.eqD_str, Pv.eqD_bl, Pv.kAny, Pv.kTupG, Pv.anyD, Pv.gSl, sz0, sy0, sz1, sy1, sz2, sy2, sz3, sy3, sz4, sy4, sz5, sy5, sz6, sy6, sz7, sy7, sz8, sy8, sz9, sy9, sz10, sy10, sz11, sy11, sz12, sy12, decide_true, decide_false, decide_not, ite_true, ite_false, not_true_eq_false, not_false_eq_true, List.map_nil, List.map_cons, List.length_nil, List.length_cons, List.replicate_succ, List.replicate_zero, List.nil_append, List.cons_append, List.append_nil, List.getElem?_cons_zero, List.getElem?_cons_succ, List.getElem?_nil, List.set_cons_zero, List.set_cons_succ, List.length_replicate, Option.map_some, Option.map_none, Option.bind_some, Option.bind_none, Nat.sub_self, Nat.reduceSub, Nat.reduceAdd, Nat.zero_add, eq_self, List.contains_cons, List.contains_nil, Bool.and_true, Bool.true_and, Bool.or_true, Bool.true_or, Bool.or_false, Bool.false_or, Bool.and_false, Bool.false_and, Bool.and_self, beq_self_eq_true, Nat.reduceBEq, if_true, if_false, Bool.false_eq_true, reduceIte, reduceCtorEq, decide_eq_true_eq, Bool.not_true, Bool.not_false]
  · simp -implicitDefEqProofs only [a2, a6, a7, eq_true h1, h2, hl, List.map_append, List.length_map, and_self, bind_ok, bind_er, bind_bad, thenS_ok, thenS_er, thenS_bad, then_nx, then_rt, then_bk, then_ct, then_er, fin_some, ofO_some, e_sSeq, e_sIf, e_sRt, e_sSet, e_sto, e_sAug, e_sFor, e_sPar, e_sAsg, e_sEx, e_sNx, e_sRaise, e_sItem, e_sAppend, e_sRtN, e_sBk, e_sCt, e_mC, e_mRd, e_mFz, e_frz, e_mMv, e_mVal, e_mAt, e_mOp2, e_mOp1, e_tst, e_cond, e_mT, e_mCh, e_mNil, e_mCons, e_mCallN, e_mDisp, e_stoO, e_stTup, e_mRange, e_lstAt, e_callIt, e_mCallF, e_mNoP, e_mSomeP, e_mSl, e_mWalk, e_mComp, e_mGen, e_mTold, e_sTry, e_capsOk, e_dLt, e_dLe, e_dGt, e_dGe, e_dSub, e_dMax2, e_dMin2, e_mNot, e_mB, e_mJoin, Pv.mFun, Pv.entry, Pv.argS, Pv.finals, Pv.see, Pv.sees, Pv.vals, Pv.takes, Pv.pinOf, Pv.back, Pv.atsOk, Pv.allFr, Pv.ds, Pv.mkT, Pv.mkL, Pv.fz, Pv.kidVs, Pv.stAll, Pv.rangeD1, Pv.rangeD2, Pv.markOf, Pv.g1, Pv.g2, Pv.dLen, Pv.dAbs, Pv.dInt, Pv.dTup, Pv.dList, Pv.dAdd, Pv.dMul, Pv.dNeg, Pv.ints2, DV.d, Pv.modI_p, Pv.divI_p, Pv.idivI_p, Pv.imulI_r, Pv.mulI_p, Pv.powI_p, Pv.dSl, Pv.fzs, Pv.walkD, Pv.dRev, Pv.dOrd, Pv.kids, Pv.kidsL, Pv.kidsT, Pv.items, Pv.dIx, Pv.dEq, Pv.dNe, Pv.dIn, Pv.dNotIn, Pv.eqD_int, Pv.eqD_str, Pv.eqD_bl, Pv.kAny, Pv.kTupG, Pv.anyD, Pv.gSl, sz0, sy0, sz1, sy1, sz2, sy2, sz3, sy3, sz4, sy4, sz5, sy5, sz6, sy6, sz7, sy7, sz8, sy8, sz9, sy9, sz10, sy10, sz11, sy11, sz12, sy12, decide_true, decide_false, decide_not, ite_true, ite_false, not_true_eq_false, not_false_eq_true, List.map_nil, List.map_cons, List.length_nil, List.length_cons, List.replicate_succ, List.replicate_zero, List.nil_append, List.cons_append, List.append_nil, List.getElem?_cons_zero, List.getElem?_cons_succ, List.getElem?_nil, List.set_cons_zero, List.set_cons_succ, List.length_replicate, Option.map_some, Option.map_none, Option.bind_some, Option.bind_none, Nat.sub_self, Nat.reduceSub, Nat.reduceAdd, Nat.zero_add, eq_self, List.contains_cons, List.contains_nil, Bool.and_true, Bool.true_and, Bool.or_true, Bool.true_or, Bool.or_false, Bool.false_or, Bool.and_false, Bool.false_and, Bool.and_self, beq_self_eq_true, Nat.reduceBEq, if_true, if_false, Bool.false_eq_true, reduceIte, reduceCtorEq, decide_eq_true_eq, Bool.not_true, Bool.not_false]
  · have h0 : ¬ s / 128 = 0 := by omega
    simp -implicitDefEqProofs only [a2, a6, a7, eq_true h1, eq_false h0, h2, hl, List.map_append, List.length_map, and_self, bind_ok, bind_er, bind_bad, thenS_ok, thenS_er, thenS_bad, then_nx, then_rt, then_bk, then_ct, then_er, fin_some, ofO_some, e_sSeq, e_sIf, e_sRt, e_sSet, e_sto, e_sAug, e_sFor, e_sPar, e_sAsg, e_sEx, e_sNx, e_sRaise, e_sItem, e_sAppend, e_sRtN, e_sBk, e_sCt, e_mC, e_mRd, e_mFz, e_frz, e_mMv, e_mVal, e_mAt, e_mOp2, e_mOp1, e_tst, e_cond, e_mT, e_mCh, e_mNil, e_mCons, e_mCallN, e_mDisp, e_stoO, e_stTup, e_mRange, e_lstAt, e_callIt, e_mCallF, e_mNoP, e_mSomeP, e_mSl, e_mWalk, e_mComp, e_mGen, e_mTold, e_sTry, e_capsOk, e_dLt, e_dLe, e_dGt, e_dGe, e_dSub, e_dMax2, e_dMin2, e_mNot, e_mB, e_mJoin, Pv.mFun, Pv.entry, Pv.argS, Pv.finals, Pv.see, Pv.sees, Pv.vals, Pv.takes, Pv.pinOf, Pv.back, Pv.atsOk, Pv.allFr, Pv.ds, Pv.mkT, Pv.mkL, Pv.fz, Pv.kidVs, Pv.stAll, Pv.rangeD1, Pv.rangeD2, Pv.markOf, Pv.g1, Pv.g2, Pv.dLen, Pv.dAbs, Pv.dInt, Pv.dTup, Pv.dList, Pv.dAdd, Pv.dMul, Pv.dNeg, Pv.ints2, DV.d, Pv.modI_p, Pv.divI_p, Pv.idivI_p, Pv.imulI_r, Pv.mulI_p, Pv.powI_p, Pv.dSl, Pv.fzs, Pv.walkD, Pv.dRev, Pv.dOrd, Pv.kids, Pv.kidsL, Pv.kidsT, Pv.items, Pv.dIx, Pv.dEq, Pv.dNe, Pv.dIn, Pv.dNotIn, Pv.eqD_int, Pv.eqD_str, Pv.eqD_bl, Pv.kAny, Pv.kTupG, Pv.anyD, Pv.gSl, sz0, sy0, sz1, sy1, sz2, sy2, sz3, sy3, sz4, sy4, sz5, sy5, sz6, sy6, sz7, sy7, sz8, sy8, sz9, sy9, sz10, sy10, sz11, sy11, sz12, sy12, decide_true, decide_false, decide_not, ite_true, ite_false, not_true_eq_false, not_false_eq_true, List.map_nil, List.map_cons, List.length_nil, List.length_cons, List.replicate_succ, List.replicate_zero, List.nil_append, List.cons_append, List.append_nil, List.getElem?_cons_zero, List.getElem?_cons_succ, List.getElem?_nil, List.set_cons_zero, List.set_cons_succ, List.length_replicate, Option.map_some, Option.map_none, Option.bind_some, Option.bind_none, Nat.sub_self, Nat.reduceSub, Nat.reduceAdd, Nat.zero_add, eq_self, List.contains_cons, List.contains_nil, Bool.and_true, Bool.true_and, Bool.or_true, Bool.true_or, Bool.or_false, Bool.false_or, Bool.and_false, Bool.false_and, Bool.and_self, beq_self_eq_true, Nat.reduceBEq, if_true, if_false, Bool.false_eq_true, reduceIte, reduceCtorEq, decide_eq_true_eq, Bool.not_true, Bool.not_false]
theorem sg_nd {a tl : Sl} {acc : List Int} {s : Int} (h : ¬ dn s) (htl : tl = .un ∨ ∃ x, tl = .s false x) (hl : acc.length < PySem.sizeLine) : sgBody [a, .s false (.ow (.lst .own (acc.map .int))), .s false (.fr (.int s)), tl] = .nx [a, .s false (.ow (.lst .own ((acc ++ [s % 128 + 128]).map .int))), .s false (.fr (.int (s / 128))), .s false (.fr (.int (s % 128)))] := by
  have a2 : (0 : Int) < 128 := by omega
  have a6 : (128 : Int).natAbs.log2 < 9000 := by decide
  have a7 : (0 : Int) - 1 = -1 := rfl
  unfold sgBody
  unfold dn at h
  by_cases h0 : s / 128 = 0
  · have h2 : ¬ s % 128 < 64 := fun h2 => h (.inl ⟨h0, h2⟩)
    have h1 : ¬ s / 128 = -1 := by omega
    rcases htl with rfl | ⟨x, rfl⟩ <;> simp -implicitDefEqProofs only [a2, a6, a7, eq_true h0, eq_false h1, h2, hl, List.map_append, List.length_map, and_self, bind_ok, bind_er, bind_bad, thenS_ok, thenS_er, thenS_bad, then_nx, then_rt, then_bk, then_ct, then_er, fin_some, ofO_some, e_sSeq, e_sIf, e_sRt, e_sSet, e_sto, e_sAug, e_sFor, e_sPar, e_sAsg, e_sEx, e_sNx, e_sRaise, e_sItem, e_sAppend, e_sRtN, e_sBk, e_sCt, e_mC, e_mRd, e_mFz, e_frz, e_mMv, e_mVal, e_mAt, e_mOp2, e_mOp1, e_tst, e_cond, e_mT, e_mCh, e_mNil, e_mCons, e_mCallN, e_mDisp, e_stoO, e_stTup, e_mRange, e_lstAt, e_callIt, e_mCallF, e_mNoP, e_mSomeP, e_mSl, e_mWalk, e_mComp, e_mGen, e_mTold, e_sTry, e_capsOk, e_dLt, e_dLe, e_dGt, e_dGe, e_dSub, e_dMax2, e_dMin2, e_mNot, e_mB, e_mJoin, Pv.mFun, Pv.entry, Pv.argS, Pv.finals, Pv.see, Pv.sees, Pv.vals, Pv.takes, Pv.pinOf, Pv.back, Pv.atsOk, Pv.allFr, Pv.ds, Pv.mkT, Pv.mkL, Pv.fz, Pv.kidVs, Pv.stAll, Pv.rangeD1, Pv.rangeD2, Pv.markOf, Pv.g1, Pv.g2, Pv.dLen, Pv.dAbs, Pv.dInt, Pv.dTup, Pv.dList, Pv.dAdd, Pv.dMul, Pv.dNeg, Pv.ints2, DV.d, Pv.modI_p, Pv.divI_p, Pv.idivI_p, Pv.imulI_r, Pv.mulI_p, Pv.powI_p, Pv.dSl, Pv.fzs, Pv.walkD, Pv.dRev, Pv.dOrd, Pv.kids, Pv.kidsL, Pv.kidsT, Pv.items, Pv.dIx, Pv.dEq, Pv.dNe, Pv.dIn, Pv.dNotIn, Pv.eqD_int, Pv.eqD_str, Pv.eqD_bl, Pv.kAny, Pv.kTupG, Pv.anyD, Pv.gSl, sz0, sy0, sz1, sy1, sz2, sy2, sz3, sy3, sz4, sy4, sz5, sy5, sz6, sy6, sz7, sy7, sz8, sy8, sz9, sy9, sz10, sy10, sz11, sy11, sz12, sy12, decide_true, decide_false, decide_not, ite_true, ite_false, not_true_eq_false, not_false_eq_true, List.map_nil, List.map_cons, List.length_nil, List.length_cons, List.replicate_succ, List.replicate_zero, List.nil_append, List.cons_append, List.append_nil, List.getElem?_cons_zero, List.getElem?_cons_succ, List.getElem?_nil, List.set_cons_zero, List.set_cons_succ, List.length_replicate, Option.map_some, Option.map_none, Option.bind_some, Option.bind_none, Nat.sub_self, Nat.reduceSub, Nat.reduceAdd, Nat.zero_add, eq_self, List.contains_cons, List.contains_nil, Bool.and_true, Bool.true_and, Bool.or_true, Bool.true_or, Bool.or_false, Bool.false_or, Bool.and_false, Bool.false_and, Bool.and_self, beq_self_eq_true, Nat.reduceBEq, if_true, if_false, Bool.false_eq_true, reduceIte, reduceCtorEq, decide_eq_true_eq, Bool.not_true, Bool.not_false]
  · by_cases h1 : s / 128 = -1
    · have h2 : ¬ 64 ≤ s % 128 := fun h2 => h (.inr ⟨h1, h2⟩)
      rcases htl with rfl | ⟨x, rfl⟩ <;> simp -implicitDefEqProofs only [a2, a6, a7, eq_false h0, eq_true h1, h2, hl, List.map_append, List.length_map, and_self, bind_ok, bind_er, bind_bad, thenS_ok, thenS_er, thenS_bad, then_nx, then_rt, then_bk, then_ct, then_er, fin_some, ofO_some, e_sSeq, e_sIf, e_sRt, e_sSet, e_sto, e_sAug, e_sFor, e_sPar, e_sAsg, e_sEx, e_sNx, e_sRaise, e_sItem, e_sAppend, e_sRtN, e_sBk, e_sCt, e_mC, e_mRd, e_mFz, e_frz, e_mMv, e_mVal, e_mAt, e_mOp2, e_mOp1, e_tst, e_cond, e_mT, e_mCh, e_mNil, e_mCons, e_mCallN, e_mDisp, e_stoO, e_stTup, e_mRange, e_lstAt, e_callIt, e_mCallF, e_mNoP, e_mSomeP, e_mSl, e_mWalk, e_mComp, e_mGen, e_mTold, e_sTry, e_capsOk, e_dLt, e_dLe, e_dGt, e_dGe, e_dSub, e_dMax2, e_dMin2, e_mNot, e_mB, e_mJoin, Pv.mFun, Pv.entry, Pv.argS, Pv.finals, Pv.see, Pv.sees, Pv.vals, Pv.takes, Pv.pinOf, Pv.back, Pv.atsOk, Pv.allFr, Pv.ds, Pv.mkT, Pv.mkL, Pv.fz, Pv.kidVs, Pv.stAll, Pv.rangeD1, Pv.rangeD2, Pv.markOf, Pv.g1, Pv.g2, Pv.dLen, Pv.dAbs, Pv.dInt, Pv.dTup, Pv.dList, Pv.dAdd, Pv.dMul, Pv.dNeg, Pv.ints2, DV.d, Pv.modI_p, Pv.divI_p, Pv.idivI_p, Pv.imulI_r, Pv.mulI_p, Pv.powI_p, Pv.dSl, Pv.fzs, Pv.walkD, Pv.dRev, Pv.dOrd, Pv.kids, Pv.kidsL, Pv.kidsT, Pv.items, Pv.dIx, Pv.dEq, Pv.dNe, Pv.dIn, Pv.dNotIn, Pv.eqD_int, Pv.eqD_str, Pv.eqD_bl, Pv.kAny, Pv.kTupG, Pv.anyD, Pv.gSl, sz0, sy0, sz1, sy1, sz2, sy2, sz3, sy3, sz4, sy4, sz5, sy5, sz6, sy6, sz7, sy7, sz8, sy8, sz9, sy9, sz10, sy10, sz11, sy11, sz12, sy12, decide_true, decide_false, decide_not, ite_true, ite_false, not_true_eq_false, not_false_eq_true, List.map_nil, List.map_cons, List.length_nil, List.length_cons, List.replicate_succ, List.replicate_zero, List.nil_append, List.cons_append, List.append_nil, List.getElem?_cons_zero, List.getElem?_cons_succ, List.getElem?_nil, List.set_cons_zero, List.set_cons_succ, List.length_replicate, Option.map_some, Option.map_none, Option.bind_some, Option.bind_none, Nat.sub_self, Nat.reduceSub, Nat.reduceAdd, Nat.zero_add, eq_self, List.contains_cons, List.contains_nil, Bool.and_true, Bool.true_and, Bool.or_true, Bool.true_or, Bool.or_false, Bool.false_or, Bool.and_false, Bool.false_and, Bool.and_self, beq_self_eq_true, Nat.reduceBEq, if_true, if_false, Bool.false_eq_true, reduceIte, reduceCtorEq, decide_eq_true_eq, Bool.not_true, Bool.not_false]
    · rcases htl with rfl | ⟨x, rfl⟩ <;> simp -implicitDefEqProofs only [a2, a6, a7, eq_false h0, eq_false h1, hl, List.map_append, List.length_map, and_self, bind_ok, bind_er, bind_bad, thenS_ok, thenS_er, thenS_bad, then_nx, then_rt, then_bk, then_ct, then_er, fin_some, ofO_some, e_sSeq, e_sIf, e_sRt, e_sSet, e_sto, e_sAug, e_sFor, e_sPar, e_sAsg, e_sEx, e_sNx, e_sRaise, e_sItem, e_sAppend, e_sRtN, e_sBk, e_sCt, e_mC, e_mRd, e_mFz, e_frz, e_mMv, e_mVal, e_mAt, e_mOp2, e_mOp1, e_tst, e_cond, e_mT, e_mCh, e_mNil, e_mCons, e_mCallN, e_mDisp, e_stoO, e_stTup, e_mRange, e_lstAt, e_callIt, e_mCallF, e_mNoP, e_mSomeP, e_mSl, e_mWalk, e_mComp, e_mGen, e_mTold, e_sTry, e_capsOk, e_dLt, e_dLe, e_dGt, e_dGe, e_dSub, e_dMax2, e_dMin2, e_mNot, e_mB, e_mJoin, Pv.mFun, Pv.entry, Pv.argS, Pv.finals, Pv.see, Pv.sees, Pv.vals, Pv.takes, Pv.pinOf, Pv.back, Pv.atsOk, Pv.allFr, Pv.ds, Pv.mkT, Pv.mkL, Pv.fz, Pv.kidVs, Pv.stAll, Pv.rangeD1, Pv.rangeD2, Pv.markOf, Pv.g1, Pv.g2, Pv.dLen, Pv.dAbs, Pv.dInt, Pv.dTup, Pv.dList, Pv.dAdd, Pv.dMul, Pv.dNeg, Pv.ints2, DV.d, Pv.modI_p, Pv.divI_p, Pv.idivI_p, Pv.imulI_r, Pv.mulI_p, Pv.powI_p, Pv.dSl, Pv.fzs, Pv.walkD, Pv.dRev, Pv.dOrd, Pv.kids, Pv.kidsL, Pv.kidsT, Pv.items, Pv.dIx, Pv.dEq, Pv.dNe, Pv.dIn, Pv.dNotIn, Pv.eqD_int, Pv.eqD_str, Pv.eqD_bl, Pv.kAny, Pv.kTupG, Pv.anyD, Pv.gSl, sz0, sy0, sz1, sy1, sz2, sy2, sz3, sy3, sz4, sy4, sz5, sy5, sz6, sy6, sz7, sy7, sz8, sy8, sz9, sy9, sz10, sy10, sz11, sy11, sz12, sy12, decide_true, decide_false, decide_not, ite_true, ite_false, not_true_eq_false, not_false_eq_true, List.map_nil, List.map_cons, List.length_nil, List.length_cons, List.replicate_succ, List.replicate_zero, List.nil_append, List.cons_append, List.append_nil, List.getElem?_cons_zero, List.getElem?_cons_succ, List.getElem?_nil, List.set_cons_zero, List.set_cons_succ, List.length_replicate, Option.map_some, Option.map_none, Option.bind_some, Option.bind_none, Nat.sub_self, Nat.reduceSub, Nat.reduceAdd, Nat.zero_add, eq_self, List.contains_cons, List.contains_nil, Bool.and_true, Bool.true_and, Bool.or_true, Bool.true_or, Bool.or_false, Bool.false_or, Bool.and_false, Bool.false_and, Bool.and_self, beq_self_eq_true, Nat.reduceBEq, if_true, if_false, Bool.false_eq_true, reduceIte, reduceCtorEq, decide_eq_true_eq, Bool.not_true, Bool.not_false]
theorem sg_loop {a : Sl} : ∀ (k f : Nat) (acc : List Int) (s : Int) (tl : Sl), ft k s → k < f → acc.length + k ≤ 1000 → (tl = .un ∨ ∃ x, tl = .s false x) →
    ∃ b c d, whileS (tst (mC (.bl true))) sgBody f [a, .s false (.ow (.lst .own (acc.map .int))), .s false (.fr (.int s)), tl] = .rt (.fr (.tup ((acc ++ ssev k s).map .int))) [a, b, c, d] := by
  intro k
  induction k with
  | zero =>
    intro f acc s tl h hf ha htl
    obtain ⟨g, rfl⟩ : ∃ g, f = g + 1 := ⟨f - 1, by omega⟩
    have e := sg_dn (a := a) (acc := acc) (ft_zero h) htl (Nat.le_trans (show acc.length + 1 ≤ 2000 by omega) (by decide))
    refine ⟨.s false (.ow (.lst .own (acc.map .int))), .s false (.fr (.int (s / 128))), .s false (.fr (.int (s % 128))), ?_⟩
    rw [ssev_dn (ft_zero h)]
    unfold whileS
    simp -implicitDefEqProofs only [e, bind_ok, bind_er, bind_bad, thenS_ok, thenS_er, thenS_bad, then_nx, then_rt, then_bk, then_ct, then_er, fin_some, ofO_some, e_sSeq, e_sIf, e_sRt, e_sSet, e_sto, e_sAug, e_sFor, e_sPar, e_sAsg, e_sEx, e_sNx, e_sRaise, e_sItem, e_sAppend, e_sRtN, e_sBk, e_sCt, e_mC, e_mRd, e_mFz, e_frz, e_mMv, e_mVal, e_mAt, e_mOp2, e_mOp1, e_tst, e_cond, e_mT, e_mCh, e_mNil, e_mCons, e_mCallN, e_mDisp, e_stoO, e_stTup, e_mRange, e_lstAt, e_callIt, e_mCallF, e_mNoP, e_mSomeP, e_mSl, e_mWalk, e_mComp, e_mGen, e_mTold, e_sTry, e_capsOk, e_dLt, e_dLe, e_dGt, e_dGe, e_dSub, e_dMax2, e_dMin2, e_mNot, e_mB, e_mJoin, Pv.mFun, Pv.entry, Pv.argS, Pv.finals, Pv.see, Pv.sees, Pv.vals, Pv.takes, Pv.pinOf, Pv.back, Pv.atsOk, Pv.allFr, Pv.ds, Pv.mkT, Pv.mkL, Pv.fz, Pv.kidVs, Pv.stAll, Pv.rangeD1, Pv.rangeD2, Pv.markOf, Pv.g1, Pv.g2, Pv.dLen, Pv.dAbs, Pv.dInt, Pv.dTup, Pv.dList, Pv.dAdd, Pv.dMul, Pv.dNeg, Pv.ints2, DV.d, Pv.modI_p, Pv.divI_p, Pv.idivI_p, Pv.imulI_r, Pv.mulI_p, Pv.powI_p, Pv.dSl, Pv.fzs, Pv.walkD, Pv.dRev, Pv.dOrd, Pv.kids, Pv.kidsL, Pv.kidsT, Pv.items, Pv.dIx, Pv.dEq, Pv.dNe, Pv.dIn, Pv.dNotIn, Pv.eqD_int, Pv.eqD_str, Pv.eqD_bl, Pv.kAny, Pv.kTupG, Pv.anyD, Pv.gSl, sz0, sy0, sz1, sy1, sz2, sy2, sz3, sy3, sz4, sy4, sz5, sy5, sz6, sy6, sz7, sy7, sz8, sy8, sz9, sy9, sz10, sy10, sz11, sy11, sz12, sy12, decide_true, decide_false, decide_not, ite_true, ite_false, not_true_eq_false, not_false_eq_true, List.map_nil, List.map_cons, List.length_nil, List.length_cons, List.replicate_succ, List.replicate_zero, List.nil_append, List.cons_append, List.append_nil, List.getElem?_cons_zero, List.getElem?_cons_succ, List.getElem?_nil, List.set_cons_zero, List.set_cons_succ, List.length_replicate, Option.map_some, Option.map_none, Option.bind_some, Option.bind_none, Nat.sub_self, Nat.reduceSub, Nat.reduceAdd, Nat.zero_add, eq_self, List.contains_cons, List.contains_nil, Bool.and_true, Bool.true_and, Bool.or_true, Bool.true_or, Bool.or_false, Bool.false_or, Bool.and_false, Bool.false_and, Bool.and_self, beq_self_eq_true, Nat.reduceBEq, if_true, if_false, Bool.false_eq_true, reduceIte, reduceCtorEq, decide_eq_true_eq, Bool.not_true, Bool.not_false]
  | succ k ih =>
    intro f acc s tl h hf ha htl
    obtain ⟨g, rfl⟩ : ∃ g, f = g + 1 := ⟨f - 1, by omega⟩
    by_cases hd : dn s
    · have e := sg_dn (a := a) (acc := acc) hd htl (Nat.le_trans (show acc.length + 1 ≤ 2000 by omega) (by decide))
      refine ⟨.s false (.ow (.lst .own (acc.map .int))), .s false (.fr (.int (s / 128))), .s false (.fr (.int (s % 128))), ?_⟩
      rw [ssev_dn hd]
      unfold whileS
      simp -implicitDefEqProofs only [e, bind_ok, bind_er, bind_bad, thenS_ok, thenS_er, thenS_bad, then_nx, then_rt, then_bk, then_ct, then_er, fin_some, ofO_some, e_sSeq, e_sIf, e_sRt, e_sSet, e_sto, e_sAug, e_sFor, e_sPar, e_sAsg, e_sEx, e_sNx, e_sRaise, e_sItem, e_sAppend, e_sRtN, e_sBk, e_sCt, e_mC, e_mRd, e_mFz, e_frz, e_mMv, e_mVal, e_mAt, e_mOp2, e_mOp1, e_tst, e_cond, e_mT, e_mCh, e_mNil, e_mCons, e_mCallN, e_mDisp, e_stoO, e_stTup, e_mRange, e_lstAt, e_callIt, e_mCallF, e_mNoP, e_mSomeP, e_mSl, e_mWalk, e_mComp, e_mGen, e_mTold, e_sTry, e_capsOk, e_dLt, e_dLe, e_dGt, e_dGe, e_dSub, e_dMax2, e_dMin2, e_mNot, e_mB, e_mJoin, Pv.mFun, Pv.entry, Pv.argS, Pv.finals, Pv.see, Pv.sees, Pv.vals, Pv.takes, Pv.pinOf, Pv.back, Pv.atsOk, Pv.allFr, Pv.ds, Pv.mkT, Pv.mkL, Pv.fz, Pv.kidVs, Pv.stAll, Pv.rangeD1, Pv.rangeD2, Pv.markOf, Pv.g1, Pv.g2, Pv.dLen, Pv.dAbs, Pv.dInt, Pv.dTup, Pv.dList, Pv.dAdd, Pv.dMul, Pv.dNeg, Pv.ints2, DV.d, Pv.modI_p, Pv.divI_p, Pv.idivI_p, Pv.imulI_r, Pv.mulI_p, Pv.powI_p, Pv.dSl, Pv.fzs, Pv.walkD, Pv.dRev, Pv.dOrd, Pv.kids, Pv.kidsL, Pv.kidsT, Pv.items, Pv.dIx, Pv.dEq, Pv.dNe, Pv.dIn, Pv.dNotIn, Pv.eqD_int, Pv.eqD_str, Pv.eqD_bl, Pv.kAny, Pv.kTupG, Pv.anyD, Pv.gSl, sz0, sy0, sz1, sy1, sz2, sy2, sz3, sy3, sz4, sy4, sz5, sy5, sz6, sy6, sz7, sy7, sz8, sy8, sz9, sy9, sz10, sy10, sz11, sy11, sz12, sy12, decide_true, decide_false, decide_not, ite_true, ite_false, not_true_eq_false, not_false_eq_true, List.map_nil, List.map_cons, List.length_nil, List.length_cons, List.replicate_succ, List.replicate_zero, List.nil_append, List.cons_append, List.append_nil, List.getElem?_cons_zero, List.getElem?_cons_succ, List.getElem?_nil, List.set_cons_zero, List.set_cons_succ, List.length_replicate, Option.map_some, Option.map_none, Option.bind_some, Option.bind_none, Nat.sub_self, Nat.reduceSub, Nat.reduceAdd, Nat.zero_add, eq_self, List.contains_cons, List.contains_nil, Bool.and_true, Bool.true_and, Bool.or_true, Bool.true_or, Bool.or_false, Bool.false_or, Bool.and_false, Bool.false_and, Bool.and_self, beq_self_eq_true, Nat.reduceBEq, if_true, if_false, Bool.false_eq_true, reduceIte, reduceCtorEq, decide_eq_true_eq, Bool.not_true, Bool.not_false]
    · have e := sg_nd (a := a) (acc := acc) hd htl (Nat.lt_of_le_of_lt (show acc.length ≤ 1000 by omega) (by decide))
      obtain ⟨b, c, d, r⟩ := ih g (acc ++ [s % 128 + 128]) (s / 128) (.s false (.fr (.int (s % 128)))) (ft_succ h) (by omega) (by simp; omega) (.inr ⟨_, rfl⟩)
      refine ⟨b, c, d, ?_⟩
      rw [List.append_assoc] at r
      rw [ssev_nd hd]
      unfold whileS
      simp -implicitDefEqProofs only [e, bind_ok, bind_er, bind_bad, thenS_ok, thenS_er, thenS_bad, then_nx, then_rt, then_bk, then_ct, then_er, fin_some, ofO_some, e_sSeq, e_sIf, e_sRt, e_sSet, e_sto, e_sAug, e_sFor, e_sPar, e_sAsg, e_sEx, e_sNx, e_sRaise, e_sItem, e_sAppend, e_sRtN, e_sBk, e_sCt, e_mC, e_mRd, e_mFz, e_frz, e_mMv, e_mVal, e_mAt, e_mOp2, e_mOp1, e_tst, e_cond, e_mT, e_mCh, e_mNil, e_mCons, e_mCallN, e_mDisp, e_stoO, e_stTup, e_mRange, e_lstAt, e_callIt, e_mCallF, e_mNoP, e_mSomeP, e_mSl, e_mWalk, e_mComp, e_mGen, e_mTold, e_sTry, e_capsOk, e_dLt, e_dLe, e_dGt, e_dGe, e_dSub, e_dMax2, e_dMin2, e_mNot, e_mB, e_mJoin, Pv.mFun, Pv.entry, Pv.argS, Pv.finals, Pv.see, Pv.sees, Pv.vals, Pv.takes, Pv.pinOf, Pv.back, Pv.atsOk, Pv.allFr, Pv.ds, Pv.mkT, Pv.mkL, Pv.fz, Pv.kidVs, Pv.stAll, Pv.rangeD1, Pv.rangeD2, Pv.markOf, Pv.g1, Pv.g2, Pv.dLen, Pv.dAbs, Pv.dInt, Pv.dTup, Pv.dList, Pv.dAdd, Pv.dMul, Pv.dNeg, Pv.ints2, DV.d, Pv.modI_p, Pv.divI_p, Pv.idivI_p, Pv.imulI_r, Pv.mulI_p, Pv.powI_p, Pv.dSl, Pv.fzs, Pv.walkD, Pv.dRev, Pv.dOrd, Pv.kids, Pv.kidsL, Pv.kidsT, Pv.items, Pv.dIx, Pv.dEq, Pv.dNe, Pv.dIn, Pv.dNotIn, Pv.eqD_int, Pv.eqD_str, Pv.eqD_bl, Pv.kAny, Pv.kTupG, Pv.anyD, Pv.gSl, sz0, sy0, sz1, sy1, sz2, sy2, sz3, sy3, sz4, sy4, sz5, sy5, sz6, sy6, sz7, sy7, sz8, sy8, sz9, sy9, sz10, sy10, sz11, sy11, sz12, sy12, decide_true, decide_false, decide_not, ite_true, ite_false, not_true_eq_false, not_false_eq_true, List.map_nil, List.map_cons, List.length_nil, List.length_cons, List.replicate_succ, List.replicate_zero, List.nil_append, List.cons_append, List.append_nil, List.getElem?_cons_zero, List.getElem?_cons_succ, List.getElem?_nil, List.set_cons_zero, List.set_cons_succ, List.length_replicate, Option.map_some, Option.map_none, Option.bind_some, Option.bind_none, Nat.sub_self, Nat.reduceSub, Nat.reduceAdd, Nat.zero_add, eq_self, List.contains_cons, List.contains_nil, Bool.and_true, Bool.true_and, Bool.or_true, Bool.true_or, Bool.or_false, Bool.false_or, Bool.and_false, Bool.false_and, Bool.and_self, beq_self_eq_true, Nat.reduceBEq, if_true, if_false, Bool.false_eq_true, reduceIte, reduceCtorEq, decide_eq_true_eq, Bool.not_true, Bool.not_false]
      simp only [List.map_append, List.map_cons, List.map_nil, List.cons_append, List.nil_append] at r ⊢
      exact r
theorem seven_signed_eq (s : Int) (h : ft 9 s) : m_seven_signed [.fr (.int s)] = .ok (.fr (.tup ((ssev 9 s).map .int))) [.un] := by
  obtain ⟨b, c, d, r⟩ := sg_loop (a := .s false (.fr (.int s))) 9 100000 [] s .un h (by omega) (by simp) (.inl rfl)
  rw [List.nil_append, List.map_nil] at r
  unfold m_seven_signed b_seven_signed
  simp -implicitDefEqProofs only [r, bind_ok, bind_er, bind_bad, thenS_ok, thenS_er, thenS_bad, then_nx, then_rt, then_bk, then_ct, then_er, fin_some, ofO_some, e_sSeq, e_sIf, e_sRt, e_sSet, e_sto, e_sAug, e_sFor, e_sPar, e_sAsg, e_sEx, e_sNx, e_sRaise, e_sItem, e_sAppend, e_sRtN, e_sBk, e_sCt, e_mC, e_mRd, e_mFz, e_frz, e_mMv, e_mVal, e_mAt, e_mOp2, e_mOp1, e_tst, e_cond, e_mT, e_mCh, e_mNil, e_mCons, e_mCallN, e_mDisp, e_stoO, e_stTup, e_mRange, e_lstAt, e_callIt, e_mCallF, e_mNoP, e_mSomeP, e_mSl, e_mWalk, e_mComp, e_mGen, e_mTold, e_sTry, e_capsOk, e_dLt, e_dLe, e_dGt, e_dGe, e_dSub, e_dMax2, e_dMin2, e_mNot, e_mB, e_mJoin, Pv.mFun, Pv.entry, Pv.argS, Pv.finals, Pv.see, Pv.sees, Pv.vals, Pv.takes, Pv.pinOf, Pv.back, Pv.atsOk, Pv.allFr, Pv.ds, Pv.mkT, Pv.mkL, Pv.fz, Pv.kidVs, Pv.stAll, Pv.rangeD1, Pv.rangeD2, Pv.markOf, Pv.g1, Pv.g2, Pv.dLen, Pv.dAbs, Pv.dInt, Pv.dTup, Pv.dList, Pv.dAdd, Pv.dMul, Pv.dNeg, Pv.ints2, DV.d, Pv.modI_p, Pv.divI_p, Pv.idivI_p, Pv.imulI_r, Pv.mulI_p, Pv.powI_p, Pv.dSl, Pv.fzs, Pv.walkD, Pv.dRev, Pv.dOrd, Pv.kids, Pv.kidsL, Pv.kidsT, Pv.items, Pv.dIx, Pv.dEq, Pv.dNe, Pv.dIn, Pv.dNotIn, Pv.eqD_int, Pv.eqD_str, Pv.eqD_bl, Pv.kAny, Pv.kTupG, Pv.anyD, Pv.gSl, sz0, sy0, sz1, sy1, sz2, sy2, sz3, sy3, sz4, sy4, sz5, sy5, sz6, sy6, sz7, sy7, sz8, sy8, sz9, sy9, sz10, sy10, sz11, sy11, sz12, sy12, decide_true, decide_false, decide_not, ite_true, ite_false, not_true_eq_false, not_false_eq_true, List.map_nil, List.map_cons, List.length_nil, List.length_cons, List.replicate_succ, List.replicate_zero, List.nil_append, List.cons_append, List.append_nil, List.getElem?_cons_zero, List.getElem?_cons_succ, List.getElem?_nil, List.set_cons_zero, List.set_cons_succ, List.length_replicate, Option.map_some, Option.map_none, Option.bind_some, Option.bind_none, Nat.sub_self, Nat.reduceSub, Nat.reduceAdd, Nat.zero_add, eq_self, List.contains_cons, List.contains_nil, Bool.and_true, Bool.true_and, Bool.or_true, Bool.true_or, Bool.or_false, Bool.false_or, Bool.and_false, Bool.false_and, Bool.and_self, beq_self_eq_true, Nat.reduceBEq, if_true, if_false, Bool.false_eq_true, reduceIte, reduceCtorEq, decide_eq_true_eq, Bool.not_true, Bool.not_false]
end K01

set_option Elab.async false
set_option linter.all false
set_option maxRecDepth 100000
set_option maxHeartbeats 4000000
namespace K01
open Pv
def lastI : List Int → Int
  | [] => 0
  | [y] => y
  | _ :: z :: ys => lastI (z :: ys)
theorem last_get : ∀ {ys : List Int}, ys ≠ [] → ys[ys.length - 1]? = some (lastI ys)
  | [], h => absurd rfl h
  | [y], _ => rfl
  | y :: z :: ys, _ => by
    have := last_get (ys := z :: ys) (by simp)
    simpa [lastI] using this
theorem worth_step (a b c d : Sl) (i : Nat) (w : Int) : sAug 4 (ints2 imulI) (mC (.int 128)) [a, b, c, d, .s false (.fr (.int w)), .s false (.fr (.int (i : Int)))] = .nx [a, b, c, d, .s false (.fr (.int (w * 128))), tn (i + 1)] := by
  have a5 : small 128 = true := by decide
  simp -implicitDefEqProofs only [a5, tn, bind_ok, bind_er, bind_bad, thenS_ok, thenS_er, thenS_bad, then_nx, then_rt, then_bk, then_ct, then_er, fin_some, ofO_some, e_sSeq, e_sIf, e_sRt, e_sSet, e_sto, e_sAug, e_sFor, e_sPar, e_sAsg, e_sEx, e_sNx, e_sRaise, e_sItem, e_sAppend, e_sRtN, e_sBk, e_sCt, e_mC, e_mRd, e_mFz, e_frz, e_mMv, e_mVal, e_mAt, e_mOp2, e_mOp1, e_tst, e_cond, e_mT, e_mCh, e_mNil, e_mCons, e_mCallN, e_mDisp, e_stoO, e_stTup, e_mRange, e_lstAt, e_callIt, e_mCallF, e_mNoP, e_mSomeP, e_mSl, e_mWalk, e_mComp, e_mGen, e_mTold, e_sTry, e_capsOk, e_dLt, e_dLe, e_dGt, e_dGe, e_dSub, e_dMax2, e_dMin2, e_mNot, e_mB, e_mJoin, Pv.mFun, Pv.entry, Pv.argS, Pv.finals, Pv.see, Pv.sees, Pv.vals, Pv.takes, Pv.pinOf, Pv.back, Pv.atsOk, Pv.allFr, Pv.ds, Pv.mkT, Pv.mkL, Pv.fz, Pv.kidVs, Pv.stAll, Pv.rangeD1, Pv.rangeD2, Pv.markOf, Pv.g1, Pv.g2, Pv.dLen, Pv.dAbs, Pv.dInt, Pv.dTup, Pv.dList, Pv.dAdd, Pv.dMul, Pv.dNeg, Pv.ints2, DV.d, Pv.modI_p, Pv.divI_p, Pv.idivI_p, Pv.imulI_r, Pv.mulI_p, Pv.powI_p, Pv.dSl, Pv.fzs, Pv.walkD, Pv.dRev, Pv.dOrd, Pv.kids, Pv.kidsL, Pv.kidsT, Pv.items, Pv.dIx, Pv.dEq, Pv.dNe, Pv.dIn, Pv.dNotIn, Pv.eqD_int, Pv.eqD_str, Pv.eqD_bl, Pv.kAny, Pv.kTupG, Pv.anyD, Pv.gSl, sz0, sy0, sz1, sy1, sz2, sy2, sz3, sy3, sz4, sy4, sz5, sy5, sz6, sy6, sz7, sy7, sz8, sy8, sz9, sy9, sz10, sy10, sz11, sy11, sz12, sy12, decide_true, decide_false, decide_not, ite_true, ite_false, not_true_eq_false, not_false_eq_true, List.map_nil, List.map_cons, List.length_nil, List.length_cons, List.replicate_succ, List.replicate_zero, List.nil_append, List.cons_append, List.append_nil, List.getElem?_cons_zero, List.getElem?_cons_succ, List.getElem?_nil, List.set_cons_zero, List.set_cons_succ, List.length_replicate, Option.map_some, Option.map_none, Option.bind_some, Option.bind_none, Nat.sub_self, Nat.reduceSub, Nat.reduceAdd, Nat.zero_add, eq_self, List.contains_cons, List.contains_nil, Bool.and_true, Bool.true_and, Bool.or_true, Bool.true_or, Bool.or_false, Bool.false_or, Bool.and_false, Bool.false_and, Bool.and_self, beq_self_eq_true, Nat.reduceBEq, if_true, if_false, Bool.false_eq_true, reduceIte, reduceCtorEq, decide_eq_true_eq, Bool.not_true, Bool.not_false]
theorem read_signed_eq {xs ys rest : List Int} {p : Nat} (hs : Sv ys) (hd : xs.drop p = ys ++ rest) (hl : ys.length ≤ 10) : m_read_seven_signed [.ow (.lst .own (xs.map .int)), .fr (.int p)] =
    .ok (.fr (.tup [.int (if 64 ≤ lastI ys then v7 ys - (128 : Int) ^ ys.length else v7 ys), .int ((p + ys.length : Nat) : Int)])) [.s true (.ow (.lst .own (xs.map .int))), .un] := by
  have r := read_eq hs hd hl
  have hn : ys ≠ [] := fun e => by subst e; exact hs.elim
  have hlen : 1 ≤ ys.length := by
    cases ys with
    | nil => exact absurd rfl hn
    | cons y ys => simp
  have a1 : ((p + ys.length : Nat) : Int) - (p : Int) = ((ys.length : Nat) : Int) := by omega
  have a2 : inR ((ys.length : Nat) : Int) = true := by unfold inR; simp; omega
  have hg : xs[p + ys.length - 1]? = some (lastI ys) := by
    have e : (xs.drop p)[ys.length - 1]? = some (lastI ys) := by
      rw [hd, List.getElem?_append_left (by omega)]
      exact last_get hn
    rw [List.getElem?_drop] at e
    rwa [show p + ys.length - 1 = p + (ys.length - 1) by omega]
  have a3 : ((p + ys.length : Nat) : Int) - 1 = ((p + ys.length - 1 : Nat) : Int) := by omega
  have a4 := at_nat hg
  have a5 : small 128 = true := by decide
  have lp := iterS_inv (s := stoO 5) (body := sAug 4 (ints2 imulI) (mC (.int 128)))
      (fun i => [.s true (.ow (.lst .own (xs.map .int))), .s false (.fr (.int p)), .s false (.fr (.int (v7 ys))), .s false (.fr (.int ((p + ys.length : Nat) : Int))), .s false (.fr (.int ((128 : Int) ^ i))), tn i]) (rgItems 0 ys.length) 0 (fun i x hx => by
        obtain ⟨hi, rfl⟩ := rg_get hx
        have b0 : (0 : Int) + (i : Int) = (i : Int) := by omega
        have b1 : (128 : Int) ^ i * 128 = (128 : Int) ^ (i + 1) := (Int.pow_succ ..).symm
        refine ⟨[.s true (.ow (.lst .own (xs.map .int))), .s false (.fr (.int p)), .s false (.fr (.int (v7 ys))), .s false (.fr (.int ((p + ys.length : Nat) : Int))), .s false (.fr (.int ((128 : Int) ^ i))), .s false (.fr (.int (i : Int)))], ?_, .inl ?_⟩
        · rcases i with _ | i <;> simp -implicitDefEqProofs only [b0, Nat.zero_add, tn, bind_ok, bind_er, bind_bad, thenS_ok, thenS_er, thenS_bad, then_nx, then_rt, then_bk, then_ct, then_er, fin_some, ofO_some, e_sSeq, e_sIf, e_sRt, e_sSet, e_sto, e_sAug, e_sFor, e_sPar, e_sAsg, e_sEx, e_sNx, e_sRaise, e_sItem, e_sAppend, e_sRtN, e_sBk, e_sCt, e_mC, e_mRd, e_mFz, e_frz, e_mMv, e_mVal, e_mAt, e_mOp2, e_mOp1, e_tst, e_cond, e_mT, e_mCh, e_mNil, e_mCons, e_mCallN, e_mDisp, e_stoO, e_stTup, e_mRange, e_lstAt, e_callIt, e_mCallF, e_mNoP, e_mSomeP, e_mSl, e_mWalk, e_mComp, e_mGen, e_mTold, e_sTry, e_capsOk, e_dLt, e_dLe, e_dGt, e_dGe, e_dSub, e_dMax2, e_dMin2, e_mNot, e_mB, e_mJoin, Pv.mFun, Pv.entry, Pv.argS, Pv.finals, Pv.see, Pv.sees, Pv.vals, Pv.takes, Pv.pinOf, Pv.back, Pv.atsOk, Pv.allFr, Pv.ds, Pv.mkT, Pv.mkL, Pv.fz, Pv.kidVs, Pv.stAll, Pv.rangeD1, Pv.rangeD2, Pv.markOf, Pv.g1, Pv.g2, Pv.dLen, Pv.dAbs, Pv.dInt, Pv.dTup, Pv.dList, Pv.dAdd, Pv.dMul, Pv.dNeg, Pv.ints2, DV.d, Pv.modI_p, Pv.divI_p, Pv.idivI_p, Pv.imulI_r, Pv.mulI_p, Pv.powI_p, Pv.dSl, Pv.fzs, Pv.walkD, Pv.dRev, Pv.dOrd, Pv.kids, Pv.kidsL, Pv.kidsT, Pv.items, Pv.dIx, Pv.dEq, Pv.dNe, Pv.dIn, Pv.dNotIn, Pv.eqD_int, Pv.eqD_str, Pv.eqD_bl, Pv.kAny, Pv.kTupG, Pv.anyD, Pv.gSl, sz0, sy0, sz1, sy1, sz2, sy2, sz3, sy3, sz4, sy4, sz5, sy5, sz6, sy6, sz7, sy7, sz8, sy8, sz9, sy9, sz10, sy10, sz11, sy11, sz12, sy12, decide_true, decide_false, decide_not, ite_true, ite_false, not_true_eq_false, not_false_eq_true, List.map_nil, List.map_cons, List.length_nil, List.length_cons, List.replicate_succ, List.replicate_zero, List.nil_append, List.cons_append, List.append_nil, List.getElem?_cons_zero, List.getElem?_cons_succ, List.getElem?_nil, List.set_cons_zero, List.set_cons_succ, List.length_replicate, Option.map_some, Option.map_none, Option.bind_some, Option.bind_none, Nat.sub_self, Nat.reduceSub, Nat.reduceAdd, Nat.zero_add, eq_self, List.contains_cons, List.contains_nil, Bool.and_true, Bool.true_and, Bool.or_true, Bool.true_or, Bool.or_false, Bool.false_or, Bool.and_false, Bool.false_and, Bool.and_self, beq_self_eq_true, Nat.reduceBEq, if_true, if_false, Bool.false_eq_true, reduceIte, reduceCtorEq, decide_eq_true_eq, Bool.not_true, Bool.not_false]
        · rw [worth_step, b1, Nat.zero_add])
  rw [rg_len] at lp
  simp -implicitDefEqProofs only [tn, Int.pow_zero, Nat.zero_add] at lp
  unfold m_read_seven_signed b_read_seven_signed
  by_cases h64 : 64 ≤ lastI ys
  · simp -implicitDefEqProofs only [r, a1, a2, a3, a4, lp, h64, Int.toNat_natCast, List.contains_cons, bind_ok, bind_er, bind_bad, thenS_ok, thenS_er, thenS_bad, then_nx, then_rt, then_bk, then_ct, then_er, fin_some, ofO_some, e_sSeq, e_sIf, e_sRt, e_sSet, e_sto, e_sAug, e_sFor, e_sPar, e_sAsg, e_sEx, e_sNx, e_sRaise, e_sItem, e_sAppend, e_sRtN, e_sBk, e_sCt, e_mC, e_mRd, e_mFz, e_frz, e_mMv, e_mVal, e_mAt, e_mOp2, e_mOp1, e_tst, e_cond, e_mT, e_mCh, e_mNil, e_mCons, e_mCallN, e_mDisp, e_stoO, e_stTup, e_mRange, e_lstAt, e_callIt, e_mCallF, e_mNoP, e_mSomeP, e_mSl, e_mWalk, e_mComp, e_mGen, e_mTold, e_sTry, e_capsOk, e_dLt, e_dLe, e_dGt, e_dGe, e_dSub, e_dMax2, e_dMin2, e_mNot, e_mB, e_mJoin, Pv.mFun, Pv.entry, Pv.argS, Pv.finals, Pv.see, Pv.sees, Pv.vals, Pv.takes, Pv.pinOf, Pv.back, Pv.atsOk, Pv.allFr, Pv.ds, Pv.mkT, Pv.mkL, Pv.fz, Pv.kidVs, Pv.stAll, Pv.rangeD1, Pv.rangeD2, Pv.markOf, Pv.g1, Pv.g2, Pv.dLen, Pv.dAbs, Pv.dInt, Pv.dTup, Pv.dList, Pv.dAdd, Pv.dMul, Pv.dNeg, Pv.ints2, DV.d, Pv.modI_p, Pv.divI_p, Pv.idivI_p, Pv.imulI_r, Pv.mulI_p, Pv.powI_p, Pv.dSl, Pv.fzs, Pv.walkD, Pv.dRev, Pv.dOrd, Pv.kids, Pv.kidsL, Pv.kidsT, Pv.items, Pv.dIx, Pv.dEq, Pv.dNe, Pv.dIn, Pv.dNotIn, Pv.eqD_int, Pv.eqD_str, Pv.eqD_bl, Pv.kAny, Pv.kTupG, Pv.anyD, Pv.gSl, sz0, sy0, sz1, sy1, sz2, sy2, sz3, sy3, sz4, sy4, sz5, sy5, sz6, sy6, sz7, sy7, sz8, sy8, sz9, sy9, sz10, sy10, sz11, sy11, sz12, sy12, decide_true, decide_false, decide_not, ite_true, ite_false, not_true_eq_false, not_false_eq_true, List.map_nil, List.map_cons, List.length_nil, List.length_cons, List.replicate_succ, List.replicate_zero, List.nil_append, List.cons_append, List.append_nil, List.getElem?_cons_zero, List.getElem?_cons_succ, List.getElem?_nil, List.set_cons_zero, List.set_cons_succ, List.length_replicate, Option.map_some, Option.map_none, Option.bind_some, Option.bind_none, Nat.sub_self, Nat.reduceSub, Nat.reduceAdd, Nat.zero_add, eq_self, List.contains_cons, List.contains_nil, Bool.and_true, Bool.true_and, Bool.or_true, Bool.true_or, Bool.or_false, Bool.false_or, Bool.and_false, Bool.false_and, Bool.and_self, beq_self_eq_true, Nat.reduceBEq, if_true, if_false, Bool.false_eq_true, reduceIte, reduceCtorEq, decide_eq_true_eq, Bool.not_true, Bool.not_false]
  · simp -implicitDefEqProofs only [r, a1, a2, a3, a4, lp, h64, Int.toNat_natCast, List.contains_cons, bind_ok, bind_er, bind_bad, thenS_ok, thenS_er, thenS_bad, then_nx, then_rt, then_bk, then_ct, then_er, fin_some, ofO_some, e_sSeq, e_sIf, e_sRt, e_sSet, e_sto, e_sAug, e_sFor, e_sPar, e_sAsg, e_sEx, e_sNx, e_sRaise, e_sItem, e_sAppend, e_sRtN, e_sBk, e_sCt, e_mC, e_mRd, e_mFz, e_frz, e_mMv, e_mVal, e_mAt, e_mOp2, e_mOp1, e_tst, e_cond, e_mT, e_mCh, e_mNil, e_mCons, e_mCallN, e_mDisp, e_stoO, e_stTup, e_mRange, e_lstAt, e_callIt, e_mCallF, e_mNoP, e_mSomeP, e_mSl, e_mWalk, e_mComp, e_mGen, e_mTold, e_sTry, e_capsOk, e_dLt, e_dLe, e_dGt, e_dGe, e_dSub, e_dMax2, e_dMin2, e_mNot, e_mB, e_mJoin, Pv.mFun, Pv.entry, Pv.argS, Pv.finals, Pv.see, Pv.sees, Pv.vals, Pv.takes, Pv.pinOf, Pv.back, Pv.atsOk, Pv.allFr, Pv.ds, Pv.mkT, Pv.mkL, Pv.fz, Pv.kidVs, Pv.stAll, Pv.rangeD1, Pv.rangeD2, Pv.markOf, Pv.g1, Pv.g2, Pv.dLen, Pv.dAbs, Pv.dInt, Pv.dTup, Pv.dList, Pv.dAdd, Pv.dMul, Pv.dNeg, Pv.ints2, DV.d, Pv.modI_p, Pv.divI_p, Pv.idivI_p, Pv.imulI_r, Pv.mulI_p, Pv.powI_p, Pv.dSl, Pv.fzs, Pv.walkD, Pv.dRev, Pv.dOrd, Pv.kids, Pv.kidsL, Pv.kidsT, Pv.items, Pv.dIx, Pv.dEq, Pv.dNe, Pv.dIn, Pv.dNotIn, Pv.eqD_int, Pv.eqD_str, Pv.eqD_bl, Pv.kAny, Pv.kTupG, Pv.anyD, Pv.gSl, sz0, sy0, sz1, sy1, sz2, sy2, sz3, sy3, sz4, sy4, sz5, sy5, sz6, sy6, sz7, sy7, sz8, sy8, sz9, sy9, sz10, sy10, sz11, sy11, sz12, sy12, decide_true, decide_false, decide_not, ite_true, ite_false, not_true_eq_false, not_false_eq_true, List.map_nil, List.map_cons, List.length_nil, List.length_cons, List.replicate_succ, List.replicate_zero, List.nil_append, List.cons_append, List.append_nil, List.getElem?_cons_zero, List.getElem?_cons_succ, List.getElem?_nil, List.set_cons_zero, List.set_cons_succ, List.length_replicate, Option.map_some, Option.map_none, Option.bind_some, Option.bind_none, Nat.sub_self, Nat.reduceSub, Nat.reduceAdd, Nat.zero_add, eq_self, List.contains_cons, List.contains_nil, Bool.and_true, Bool.true_and, Bool.or_true, Bool.true_or, Bool.or_false, Bool.false_or, Bool.and_false, Bool.false_and, Bool.and_self, beq_self_eq_true, Nat.reduceBEq, if_true, if_false, Bool.false_eq_true, reduceIte, reduceCtorEq, decide_eq_true_eq, Bool.not_true, Bool.not_false]
theorem ssev_sv : ∀ (k : Nat) (s : Int), ft k s → Sv (ssev k s) ∧ (if 64 ≤ lastI (ssev k s) then v7 (ssev k s) - (128 : Int) ^ (ssev k s).length else v7 (ssev k s)) = s := by
  have base : ∀ s : Int, dn s → Sv [s % 128] ∧ (if 64 ≤ lastI [s % 128] then v7 [s % 128] - (128 : Int) ^ [s % 128].length else v7 [s % 128]) = s := by
    intro s hd
    have h1 : [s % 128].length = 1 := rfl
    rw [h1, Int.pow_succ, Int.pow_zero]
    have e1 : lastI [s % 128] = s % 128 := rfl
    have e2 : v7 [s % 128] = s % 128 := rfl
    rw [e1, e2]
    unfold dn at hd
    refine ⟨⟨by omega, by omega⟩, ?_⟩
    by_cases h64 : 64 ≤ s % 128
    · rw [if_pos h64]; omega
    · rw [if_neg h64]; omega
  intro k
  induction k with
  | zero => intro s h; exact base s (ft_zero h)
  | succ k ih =>
    intro s h
    by_cases hd : dn s
    · rw [ssev_dn hd]; exact base s hd
    · obtain ⟨i1, i2⟩ := ih (s / 128) (ft_succ h)
      rw [ssev_nd hd]
      cases e : ssev k (s / 128) with
      | nil => rw [e] at i1; exact i1.elim
      | cons z zs =>
        rw [e] at i1 i2
        refine ⟨⟨by omega, by omega, i1⟩, ?_⟩
        rw [List.length_cons, Int.pow_succ, lastI, v7]
        have e2 : (s % 128 + 128) % 128 = s % 128 := by omega
        rw [e2]
        split at i2
        · rename_i hh
          rw [if_pos hh]
          generalize (128 : Int) ^ (z :: zs).length = q at *
          omega
        · rename_i hh
          rw [if_neg hh]
          omega
theorem log2_64 {j : Int} (h0 : 0 ≤ j) (h : j < 2 ^ 64) : j.natAbs.log2 < 9000 := by
  by_cases h1 : j.natAbs = 0
  · rw [h1]; decide
  · exact Nat.lt_trans ((Nat.log2_lt h1).mpr (by omega : j.natAbs < 2 ^ 64)) (by decide)
theorem rounded_eq {n s : Int} (h0 : 0 ≤ n) (h1 : 1 ≤ s) (h2 : s ≤ 40) : m_rounded_up [.fr (.int n), .fr (.int s)] = .ok (.fr (.int ((n + s - 1) / s * s))) [.un, .un] := by
  have a1 : ¬ s < 1 := by omega
  have a2 : ¬ n < 0 := by omega
  have a3 : 0 < s := by omega
  have a4 : s.natAbs.log2 < 9000 := log2_64 (by omega) (by omega)
  have a5 : okMul ((n + s - 1) / s) s = true := okMul_r (by unfold small; simp; omega)
  unfold m_rounded_up b_rounded_up
  simp -implicitDefEqProofs only [a1, a2, a3, a4, a5, and_self, bind_ok, bind_er, bind_bad, thenS_ok, thenS_er, thenS_bad, then_nx, then_rt, then_bk, then_ct, then_er, fin_some, ofO_some, e_sSeq, e_sIf, e_sRt, e_sSet, e_sto, e_sAug, e_sFor, e_sPar, e_sAsg, e_sEx, e_sNx, e_sRaise, e_sItem, e_sAppend, e_sRtN, e_sBk, e_sCt, e_mC, e_mRd, e_mFz, e_frz, e_mMv, e_mVal, e_mAt, e_mOp2, e_mOp1, e_tst, e_cond, e_mT, e_mCh, e_mNil, e_mCons, e_mCallN, e_mDisp, e_stoO, e_stTup, e_mRange, e_lstAt, e_callIt, e_mCallF, e_mNoP, e_mSomeP, e_mSl, e_mWalk, e_mComp, e_mGen, e_mTold, e_sTry, e_capsOk, e_dLt, e_dLe, e_dGt, e_dGe, e_dSub, e_dMax2, e_dMin2, e_mNot, e_mB, e_mJoin, Pv.mFun, Pv.entry, Pv.argS, Pv.finals, Pv.see, Pv.sees, Pv.vals, Pv.takes, Pv.pinOf, Pv.back, Pv.atsOk, Pv.allFr, Pv.ds, Pv.mkT, Pv.mkL, Pv.fz, Pv.kidVs, Pv.stAll, Pv.rangeD1, Pv.rangeD2, Pv.markOf, Pv.g1, Pv.g2, Pv.dLen, Pv.dAbs, Pv.dInt, Pv.dTup, Pv.dList, Pv.dAdd, Pv.dMul, Pv.dNeg, Pv.ints2, DV.d, Pv.modI_p, Pv.divI_p, Pv.idivI_p, Pv.imulI_r, Pv.mulI_p, Pv.powI_p, Pv.dSl, Pv.fzs, Pv.walkD, Pv.dRev, Pv.dOrd, Pv.kids, Pv.kidsL, Pv.kidsT, Pv.items, Pv.dIx, Pv.dEq, Pv.dNe, Pv.dIn, Pv.dNotIn, Pv.eqD_int, Pv.eqD_str, Pv.eqD_bl, Pv.kAny, Pv.kTupG, Pv.anyD, Pv.gSl, sz0, sy0, sz1, sy1, sz2, sy2, sz3, sy3, sz4, sy4, sz5, sy5, sz6, sy6, sz7, sy7, sz8, sy8, sz9, sy9, sz10, sy10, sz11, sy11, sz12, sy12, decide_true, decide_false, decide_not, ite_true, ite_false, not_true_eq_false, not_false_eq_true, List.map_nil, List.map_cons, List.length_nil, List.length_cons, List.replicate_succ, List.replicate_zero, List.nil_append, List.cons_append, List.append_nil, List.getElem?_cons_zero, List.getElem?_cons_succ, List.getElem?_nil, List.set_cons_zero, List.set_cons_succ, List.length_replicate, Option.map_some, Option.map_none, Option.bind_some, Option.bind_none, Nat.sub_self, Nat.reduceSub, Nat.reduceAdd, Nat.zero_add, eq_self, List.contains_cons, List.contains_nil, Bool.and_true, Bool.true_and, Bool.or_true, Bool.true_or, Bool.or_false, Bool.false_or, Bool.and_false, Bool.false_and, Bool.and_self, beq_self_eq_true, Nat.reduceBEq, if_true, if_false, Bool.false_eq_true, reduceIte, reduceCtorEq, decide_eq_true_eq, Bool.not_true, Bool.not_false]
theorem is_power_all : (List.range 41).map (fun n : Nat => m_is_power [.fr (.int n)]) = (List.range 41).map fun n : Nat => .ok (.fr (.bl ([1, 2, 4, 8, 16, 32].contains n))) [.un] := by kernel_rfl
theorem is_power_eq (n : Nat) (h : n ≤ 40) : m_is_power [.fr (.int n)] = .ok (.fr (.bl ([1, 2, 4, 8, 16, 32].contains n))) [.un] := List.map_inj_left.mp is_power_all n (List.mem_range.mpr (by omega))
abbrev hexs : List Nat := [48, 49, 50, 51, 52, 53, 54, 55, 56, 57, 97, 98, 99, 100, 101, 102]
def hx (n : Nat) : Nat → List Nat
  | 0 => []
  | i + 1 => hexs.getD (n / 16 ^ i % 16) 0 :: hx n i
theorem hx_len (n : Nat) : ∀ i, (hx n i).length = i
  | 0 => rfl
  | i + 1 => by rw [hx, List.length_cons, hx_len n i]
theorem hex_all : (List.range 16).map (fun n : Nat => L2.atI hexs (n : Int)) = (List.range 16).map fun n : Nat => some (hexs.getD n 0) := by kernel_rfl
theorem hex_at (d : Nat) (h : d < 16) : L2.atI [48, 49, 50, 51, 52, 53, 54, 55, 56, 57, 97, 98, 99, 100, 101, 102] ((d : Nat) : Int) = some (hexs.getD d 0) := List.map_inj_left.mp hex_all d (List.mem_range.mpr h)
theorem sz16 : (16 ≤ PySem.sizeLine) = True := eq_true (by decide)
theorem hex_step (a b : Sl) (i : Nat) (l : List Nat) (q : Nat) (hl : 1 + l.length ≤ PySem.sizeLine) : (sSeq (sSet 2 (mOp2 dAdd (mVal (mOp2 dIx (mVal (mC (.str [48, 49, 50, 51, 52, 53, 54, 55, 56, 57, 97, 98, 99, 100, 101, 102]))) (mVal (mOp2 (ints2 modI) (mAt 3) (mVal (mC (.int 16))))))) (mAt 2)))
  (sAug 3 (ints2 idivI) (mC (.int 16)))) [a, b, .s false (.fr (.str l)), .s false (.fr (.int (q : Int))), .s false (.fr (.int (i : Int)))] = .nx [a, b, .s false (.fr (.str (hexs.getD (q % 16) 0 :: l))), .s false (.fr (.int ((q / 16 : Nat) : Int))), tn (i + 1)] := by
  have b1 : (q : Int) % 16 = ((q % 16 : Nat) : Int) := by omega
  have b2 : (q : Int) / 16 = ((q / 16 : Nat) : Int) := by omega
  have b3 := hex_at (q % 16) (Nat.mod_lt _ (by omega))
  generalize hexs.getD (q % 16) 0 = g at *
  have b4 : (0 : Int) < 16 := by omega
  have b5 : (16 : Int) < 1073741824 := by omega
  simp -implicitDefEqProofs only [b1, b2, b3, b4, b5, hl, sz16, tn, bind_ok, bind_er, bind_bad, thenS_ok, thenS_er, thenS_bad, then_nx, then_rt, then_bk, then_ct, then_er, fin_some, ofO_some, e_sSeq, e_sIf, e_sRt, e_sSet, e_sto, e_sAug, e_sFor, e_sPar, e_sAsg, e_sEx, e_sNx, e_sRaise, e_sItem, e_sAppend, e_sRtN, e_sBk, e_sCt, e_mC, e_mRd, e_mFz, e_frz, e_mMv, e_mVal, e_mAt, e_mOp2, e_mOp1, e_tst, e_cond, e_mT, e_mCh, e_mNil, e_mCons, e_mCallN, e_mDisp, e_stoO, e_stTup, e_mRange, e_lstAt, e_callIt, e_mCallF, e_mNoP, e_mSomeP, e_mSl, e_mWalk, e_mComp, e_mGen, e_mTold, e_sTry, e_capsOk, e_dLt, e_dLe, e_dGt, e_dGe, e_dSub, e_dMax2, e_dMin2, e_mNot, e_mB, e_mJoin, Pv.mFun, Pv.entry, Pv.argS, Pv.finals, Pv.see, Pv.sees, Pv.vals, Pv.takes, Pv.pinOf, Pv.back, Pv.atsOk, Pv.allFr, Pv.ds, Pv.mkT, Pv.mkL, Pv.fz, Pv.kidVs, Pv.stAll, Pv.rangeD1, Pv.rangeD2, Pv.markOf, Pv.g1, Pv.g2, Pv.dLen, Pv.dAbs, Pv.dInt, Pv.dTup, Pv.dList, Pv.dAdd_str, Pv.dMul, Pv.dNeg, Pv.ints2, DV.d, Pv.modI_p, Pv.divI_p, Pv.idivI_p, Pv.imulI_r, Pv.mulI_p, Pv.powI_p, Pv.dSl, Pv.fzs, Pv.walkD, Pv.dRev, Pv.dOrd, Pv.kids, Pv.kidsL, Pv.kidsT, Pv.items, Pv.dIx, Pv.dEq, Pv.dNe, Pv.dIn, Pv.dNotIn, Pv.eqD_int, Pv.eqD_str, Pv.eqD_bl, Pv.kAny, Pv.kTupG, Pv.anyD, Pv.gSl, sz0, sy0, sz1, sy1, sz2, sy2, sz3, sy3, sz4, sy4, sz5, sy5, sz6, sy6, sz7, sy7, sz8, sy8, sz9, sy9, sz10, sy10, sz11, sy11, sz12, sy12, decide_true, decide_false, decide_not, ite_true, ite_false, not_true_eq_false, not_false_eq_true, List.map_nil, List.map_cons, List.length_nil, List.length_cons, List.replicate_succ, List.replicate_zero, List.nil_append, List.cons_append, List.append_nil, List.getElem?_cons_zero, List.getElem?_cons_succ, List.getElem?_nil, List.set_cons_zero, List.set_cons_succ, List.length_replicate, Option.map_some, Option.map_none, Option.bind_some, Option.bind_none, Nat.sub_self, Nat.reduceSub, Nat.reduceAdd, Nat.zero_add, eq_self, List.contains_cons, List.contains_nil, Bool.and_true, Bool.true_and, Bool.or_true, Bool.true_or, Bool.or_false, Bool.false_or, Bool.and_false, Bool.false_and, Bool.and_self, beq_self_eq_true, Nat.reduceBEq, if_true, if_false, Bool.false_eq_true, reduceIte, reduceCtorEq, decide_eq_true_eq, Bool.not_true, Bool.not_false]
end K01

set_option Elab.async false
set_option linter.all false
set_option maxRecDepth 100000
set_option maxHeartbeats 4000000
namespace K01
open Pv
theorem told_hex_ok (n m : Nat) (h1 : 1 ≤ m) (h16 : m ≤ 16) (h : n < 2 ^ (4 * m)) : m_told_hex [.fr (.int n), .fr (.int m)] = .ok (.fr (.str (hx n m))) [.un, .un] := by
  have a1 : (1 : Int) ≤ m := by omega
  have a2 : (m : Int) ≤ 16 := by omega
  have a3 : okMul 4 m = true := rfl
  have a4 : (4 : Int) * m = ((4 * m : Nat) : Int) := by omega
  have a5 := pow_eq (4 * m) (by omega)
  have a6 : inR m = true := by unfold inR; simp; omega
  have h0 : (0 : Int) ≤ n := by omega
  have hn' : (n : Int) < (2 ^ (4 * m) : Nat) := by omega
  have lp := iterS_inv (s := stoO 4) (body := (sSeq (sSet 2 (mOp2 dAdd (mVal (mOp2 dIx (mVal (mC (.str [48, 49, 50, 51, 52, 53, 54, 55, 56, 57, 97, 98, 99, 100, 101, 102]))) (mVal (mOp2 (ints2 modI) (mAt 3) (mVal (mC (.int 16))))))) (mAt 2)))
  (sAug 3 (ints2 idivI) (mC (.int 16)))))
      (fun i => [.s false (.fr (.int n)), .s false (.fr (.int m)), .s false (.fr (.str (hx n i))), .s false (.fr (.int (n / 16 ^ i : Nat))), tn i]) (rgItems 0 m) 0 (fun i x hx' => by
        obtain ⟨hi, rfl⟩ := rg_get hx'
        have b0 : (0 : Int) + (i : Int) = (i : Int) := by omega
        have b6 : 1 + i ≤ PySem.sizeLine := Nat.le_trans (show 1 + i ≤ 20 by omega) (by decide)
        refine ⟨[.s false (.fr (.int n)), .s false (.fr (.int m)), .s false (.fr (.str (hx n i))), .s false (.fr (.int (n / 16 ^ i : Nat))), .s false (.fr (.int (i : Int)))], ?_, .inl ?_⟩
        · rcases i with _ | i <;> simp -implicitDefEqProofs only [b0, Nat.zero_add, tn, bind_ok, bind_er, bind_bad, thenS_ok, thenS_er, thenS_bad, then_nx, then_rt, then_bk, then_ct, then_er, fin_some, ofO_some, e_sSeq, e_sIf, e_sRt, e_sSet, e_sto, e_sAug, e_sFor, e_sPar, e_sAsg, e_sEx, e_sNx, e_sRaise, e_sItem, e_sAppend, e_sRtN, e_sBk, e_sCt, e_mC, e_mRd, e_mFz, e_frz, e_mMv, e_mVal, e_mAt, e_mOp2, e_mOp1, e_tst, e_cond, e_mT, e_mCh, e_mNil, e_mCons, e_mCallN, e_mDisp, e_stoO, e_stTup, e_mRange, e_lstAt, e_callIt, e_mCallF, e_mNoP, e_mSomeP, e_mSl, e_mWalk, e_mComp, e_mGen, e_mTold, e_sTry, e_capsOk, e_dLt, e_dLe, e_dGt, e_dGe, e_dSub, e_dMax2, e_dMin2, e_mNot, e_mB, e_mJoin, Pv.mFun, Pv.entry, Pv.argS, Pv.finals, Pv.see, Pv.sees, Pv.vals, Pv.takes, Pv.pinOf, Pv.back, Pv.atsOk, Pv.allFr, Pv.ds, Pv.mkT, Pv.mkL, Pv.fz, Pv.kidVs, Pv.stAll, Pv.rangeD1, Pv.rangeD2, Pv.markOf, Pv.g1, Pv.g2, Pv.dLen, Pv.dAbs, Pv.dInt, Pv.dTup, Pv.dList, Pv.dAdd, Pv.dMul, Pv.dNeg, Pv.ints2, DV.d, Pv.modI_p, Pv.divI_p, Pv.idivI_p, Pv.imulI_r, Pv.mulI_p, Pv.powI_p, Pv.dSl, Pv.fzs, Pv.walkD, Pv.dRev, Pv.dOrd, Pv.kids, Pv.kidsL, Pv.kidsT, Pv.items, Pv.dIx, Pv.dEq, Pv.dNe, Pv.dIn, Pv.dNotIn, Pv.eqD_int, Pv.eqD_str, Pv.eqD_bl, Pv.kAny, Pv.kTupG, Pv.anyD, Pv.gSl, sz0, sy0, sz1, sy1, sz2, sy2, sz3, sy3, sz4, sy4, sz5, sy5, sz6, sy6, sz7, sy7, sz8, sy8, sz9, sy9, sz10, sy10, sz11, sy11, sz12, sy12, decide_true, decide_false, decide_not, ite_true, ite_false, not_true_eq_false, not_false_eq_true, List.map_nil, List.map_cons, List.length_nil, List.length_cons, List.replicate_succ, List.replicate_zero, List.nil_append, List.cons_append, List.append_nil, List.getElem?_cons_zero, List.getElem?_cons_succ, List.getElem?_nil, List.set_cons_zero, List.set_cons_succ, List.length_replicate, Option.map_some, Option.map_none, Option.bind_some, Option.bind_none, Nat.sub_self, Nat.reduceSub, Nat.reduceAdd, Nat.zero_add, eq_self, List.contains_cons, List.contains_nil, Bool.and_true, Bool.true_and, Bool.or_true, Bool.true_or, Bool.or_false, Bool.false_or, Bool.and_false, Bool.false_and, Bool.and_self, beq_self_eq_true, Nat.reduceBEq, if_true, if_false, Bool.false_eq_true, reduceIte, reduceCtorEq, decide_eq_true_eq, Bool.not_true, Bool.not_false]
        · have b7 : 1 + (hx n i).length ≤ PySem.sizeLine := by rw [hx_len]; exact b6
          have b8 : n / 16 ^ i / 16 = n / 16 ^ (i + 1) := by rw [Nat.pow_succ, ← Nat.div_div_eq_div_mul]
          rw [hex_step _ _ _ _ _ b7, b8, Nat.zero_add, hx])
  rw [rg_len] at lp
  simp -implicitDefEqProofs only [tn, Nat.pow_zero, Nat.div_one, Nat.zero_add] at lp
  rw [show hx n 0 = [] from rfl] at lp
  unfold m_told_hex b_told_hex
  simp -implicitDefEqProofs only [a1, a2, a3, a4, a5, a6, h0, hn', lp, Int.toNat_natCast, bind_ok, bind_er, bind_bad, thenS_ok, thenS_er, thenS_bad, then_nx, then_rt, then_bk, then_ct, then_er, fin_some, ofO_some, e_sSeq, e_sIf, e_sRt, e_sSet, e_sto, e_sAug, e_sFor, e_sPar, e_sAsg, e_sEx, e_sNx, e_sRaise, e_sItem, e_sAppend, e_sRtN, e_sBk, e_sCt, e_mC, e_mRd, e_mFz, e_frz, e_mMv, e_mVal, e_mAt, e_mOp2, e_mOp1, e_tst, e_cond, e_mT, e_mCh, e_mNil, e_mCons, e_mCallN, e_mDisp, e_stoO, e_stTup, e_mRange, e_lstAt, e_callIt, e_mCallF, e_mNoP, e_mSomeP, e_mSl, e_mWalk, e_mComp, e_mGen, e_mTold, e_sTry, e_capsOk, e_dLt, e_dLe, e_dGt, e_dGe, e_dSub, e_dMax2, e_dMin2, e_mNot, e_mB, e_mJoin, Pv.mFun, Pv.entry, Pv.argS, Pv.finals, Pv.see, Pv.sees, Pv.vals, Pv.takes, Pv.pinOf, Pv.back, Pv.atsOk, Pv.allFr, Pv.ds, Pv.mkT, Pv.mkL, Pv.fz, Pv.kidVs, Pv.stAll, Pv.rangeD1, Pv.rangeD2, Pv.markOf, Pv.g1, Pv.g2, Pv.dLen, Pv.dAbs, Pv.dInt, Pv.dTup, Pv.dList, Pv.dAdd, Pv.dMul, Pv.dNeg, Pv.ints2, DV.d, Pv.modI_p, Pv.divI_p, Pv.idivI_p, Pv.imulI_r, Pv.mulI_p, Pv.powI_p, Pv.dSl, Pv.fzs, Pv.walkD, Pv.dRev, Pv.dOrd, Pv.kids, Pv.kidsL, Pv.kidsT, Pv.items, Pv.dIx, Pv.dEq, Pv.dNe, Pv.dIn, Pv.dNotIn, Pv.eqD_int, Pv.eqD_str, Pv.eqD_bl, Pv.kAny, Pv.kTupG, Pv.anyD, Pv.gSl, sz0, sy0, sz1, sy1, sz2, sy2, sz3, sy3, sz4, sy4, sz5, sy5, sz6, sy6, sz7, sy7, sz8, sy8, sz9, sy9, sz10, sy10, sz11, sy11, sz12, sy12, decide_true, decide_false, decide_not, ite_true, ite_false, not_true_eq_false, not_false_eq_true, List.map_nil, List.map_cons, List.length_nil, List.length_cons, List.replicate_succ, List.replicate_zero, List.nil_append, List.cons_append, List.append_nil, List.getElem?_cons_zero, List.getElem?_cons_succ, List.getElem?_nil, List.set_cons_zero, List.set_cons_succ, List.length_replicate, Option.map_some, Option.map_none, Option.bind_some, Option.bind_none, Nat.sub_self, Nat.reduceSub, Nat.reduceAdd, Nat.zero_add, eq_self, List.contains_cons, List.contains_nil, Bool.and_true, Bool.true_and, Bool.or_true, Bool.true_or, Bool.or_false, Bool.false_or, Bool.and_false, Bool.false_and, Bool.and_self, beq_self_eq_true, Nat.reduceBEq, if_true, if_false, Bool.false_eq_true, reduceIte, reduceCtorEq, decide_eq_true_eq, Bool.not_true, Bool.not_false]
theorem told_hex_eq (n : Nat) (h : n < 2 ^ 48) : m_told_hex [.fr (.int n), .fr (.int 12)] = .ok (.fr (.str (hx n 12))) [.un, .un] := told_hex_ok n 12 (by omega) (by omega) h
end K01

set_option Elab.async false
set_option linter.all false
set_option maxRecDepth 100000
set_option maxHeartbeats 4000000
namespace K01
open Pv
theorem at0 (a b c : D) : L2.atI [a, b, c] (0 : Int) = some a := rfl
theorem at1 (a b c : D) : L2.atI [a, b, c] (1 : Int) = some b := rfl
theorem at2 (a b c : D) : L2.atI [a, b, c] (2 : Int) = some c := rfl
theorem ix0 : L2.ixN 3 (0 : Int) = some 0 := rfl
theorem ix1 : L2.ixN 3 (1 : Int) = some 1 := rfl
theorem ix2 : L2.ixN 3 (2 : Int) = some 2 := rfl
abbrev dice (a b c : Int) : D := .lst .own [.int a, .int b, .int c]
def RollOk (F : List DV → RF) (most : Int) : Prop := ∀ (a b c many : Int), 1 ≤ many → many ≤ most → ∃ r a' b' c', 0 ≤ r ∧ r < many ∧ F [.ow (dice a b c), .fr (.int many)] = .ok (.fr (.int r)) [.s true (.ow (dice a' b' c')), .un]
theorem roll_now (F : List DV → RF) {a b c many : Int} (h1 : 1 ≤ many) (h2 : many ≤ 2 ^ 60) (hc : c = 2 ∨ (c = 1 ∧ 0 < a)) : mFun 3 (b__law_roll F) [.ow (dice a b c), .fr (.int many)] = .ok (.fr (.int (a % many))) [.s true (.ow (dice (a / many) b c)), .un] := by
  have a1 : 0 < many := by omega
  have a2 : many.natAbs.log2 < 9000 := log2_64 (by omega) (by omega)
  clear h2
  unfold b__law_roll dice
  rcases hc with hc | ⟨hc, ha⟩
  · simp -implicitDefEqProofs only [a1, a2, eq_true hc, at0, at1, at2, ix0, ix1, ix2, bind_ok, bind_er, bind_bad, thenS_ok, thenS_er, thenS_bad, then_nx, then_rt, then_bk, then_ct, then_er, fin_some, ofO_some, e_sSeq, e_sIf, e_sRt, e_sSet, e_sto, e_sAug, e_sFor, e_sPar, e_sAsg, e_sEx, e_sNx, e_sRaise, e_sItem, e_sAppend, e_sRtN, e_sBk, e_sCt, e_mC, e_mRd, e_mFz, e_frz, e_mMv, e_mVal, e_mAt, e_mOp2, e_mOp1, e_tst, e_cond, e_mT, e_mCh, e_mNil, e_mCons, e_mCallN, e_mDisp, e_stoO, e_stTup, e_mRange, e_lstAt, e_callIt, e_mCallF, e_mNoP, e_mSomeP, e_mSl, e_mWalk, e_mComp, e_mGen, e_mTold, e_sTry, e_capsOk, e_dLt, e_dLe, e_dGt, e_dGe, e_dSub, e_dMax2, e_dMin2, e_mNot, e_mB, e_mJoin, Pv.mFun, Pv.entry, Pv.argS, Pv.finals, Pv.see, Pv.sees, Pv.vals, Pv.takes, Pv.pinOf, Pv.back, Pv.atsOk, Pv.allFr, Pv.ds, Pv.mkT, Pv.mkL, Pv.fz, Pv.kidVs, Pv.stAll, Pv.rangeD1, Pv.rangeD2, Pv.markOf, Pv.g1, Pv.g2, Pv.dLen, Pv.dAbs, Pv.dInt, Pv.dTup, Pv.dList, Pv.dAdd, Pv.dMul, Pv.dNeg, Pv.ints2, DV.d, Pv.modI_p, Pv.divI_p, Pv.idivI_p, Pv.imulI_r, Pv.mulI_p, Pv.powI_p, Pv.dSl, Pv.fzs, Pv.walkD, Pv.dRev, Pv.dOrd, Pv.kids, Pv.kidsL, Pv.kidsT, Pv.items, Pv.dIx, Pv.dEq, Pv.dNe, Pv.dIn, Pv.dNotIn, Pv.eqD_int, Pv.eqD_str, Pv.eqD_bl, Pv.kAny, Pv.kTupG, Pv.anyD, Pv.gSl, sz0, sy0, sz1, sy1, sz2, sy2, sz3, sy3, sz4, sy4, sz5, sy5, sz6, sy6, sz7, sy7, sz8, sy8, sz9, sy9, sz10, sy10, sz11, sy11, sz12, sy12, decide_true, decide_false, decide_not, ite_true, ite_false, not_true_eq_false, not_false_eq_true, List.map_nil, List.map_cons, List.length_nil, List.length_cons, List.replicate_succ, List.replicate_zero, List.nil_append, List.cons_append, List.append_nil, List.getElem?_cons_zero, List.getElem?_cons_succ, List.getElem?_nil, List.set_cons_zero, List.set_cons_succ, List.length_replicate, Option.map_some, Option.map_none, Option.bind_some, Option.bind_none, Nat.sub_self, Nat.reduceSub, Nat.reduceAdd, Nat.zero_add, eq_self, List.contains_cons, List.contains_nil, Bool.and_true, Bool.true_and, Bool.or_true, Bool.true_or, Bool.or_false, Bool.false_or, Bool.and_false, Bool.false_and, Bool.and_self, beq_self_eq_true, Nat.reduceBEq, if_true, if_false, Bool.false_eq_true, reduceIte, reduceCtorEq, decide_eq_true_eq, Bool.not_true, Bool.not_false]
  · have hc2 : ¬ c = 2 := by omega
    simp -implicitDefEqProofs only [a1, a2, eq_true hc, eq_false hc2, ha, at0, at1, at2, ix0, ix1, ix2, bind_ok, bind_er, bind_bad, thenS_ok, thenS_er, thenS_bad, then_nx, then_rt, then_bk, then_ct, then_er, fin_some, ofO_some, e_sSeq, e_sIf, e_sRt, e_sSet, e_sto, e_sAug, e_sFor, e_sPar, e_sAsg, e_sEx, e_sNx, e_sRaise, e_sItem, e_sAppend, e_sRtN, e_sBk, e_sCt, e_mC, e_mRd, e_mFz, e_frz, e_mMv, e_mVal, e_mAt, e_mOp2, e_mOp1, e_tst, e_cond, e_mT, e_mCh, e_mNil, e_mCons, e_mCallN, e_mDisp, e_stoO, e_stTup, e_mRange, e_lstAt, e_callIt, e_mCallF, e_mNoP, e_mSomeP, e_mSl, e_mWalk, e_mComp, e_mGen, e_mTold, e_sTry, e_capsOk, e_dLt, e_dLe, e_dGt, e_dGe, e_dSub, e_dMax2, e_dMin2, e_mNot, e_mB, e_mJoin, Pv.mFun, Pv.entry, Pv.argS, Pv.finals, Pv.see, Pv.sees, Pv.vals, Pv.takes, Pv.pinOf, Pv.back, Pv.atsOk, Pv.allFr, Pv.ds, Pv.mkT, Pv.mkL, Pv.fz, Pv.kidVs, Pv.stAll, Pv.rangeD1, Pv.rangeD2, Pv.markOf, Pv.g1, Pv.g2, Pv.dLen, Pv.dAbs, Pv.dInt, Pv.dTup, Pv.dList, Pv.dAdd, Pv.dMul, Pv.dNeg, Pv.ints2, DV.d, Pv.modI_p, Pv.divI_p, Pv.idivI_p, Pv.imulI_r, Pv.mulI_p, Pv.powI_p, Pv.dSl, Pv.fzs, Pv.walkD, Pv.dRev, Pv.dOrd, Pv.kids, Pv.kidsL, Pv.kidsT, Pv.items, Pv.dIx, Pv.dEq, Pv.dNe, Pv.dIn, Pv.dNotIn, Pv.eqD_int, Pv.eqD_str, Pv.eqD_bl, Pv.kAny, Pv.kTupG, Pv.anyD, Pv.gSl, sz0, sy0, sz1, sy1, sz2, sy2, sz3, sy3, sz4, sy4, sz5, sy5, sz6, sy6, sz7, sy7, sz8, sy8, sz9, sy9, sz10, sy10, sz11, sy11, sz12, sy12, decide_true, decide_false, decide_not, ite_true, ite_false, not_true_eq_false, not_false_eq_true, List.map_nil, List.map_cons, List.length_nil, List.length_cons, List.replicate_succ, List.replicate_zero, List.nil_append, List.cons_append, List.append_nil, List.getElem?_cons_zero, List.getElem?_cons_succ, List.getElem?_nil, List.set_cons_zero, List.set_cons_succ, List.length_replicate, Option.map_some, Option.map_none, Option.bind_some, Option.bind_none, Nat.sub_self, Nat.reduceSub, Nat.reduceAdd, Nat.zero_add, eq_self, List.contains_cons, List.contains_nil, Bool.and_true, Bool.true_and, Bool.or_true, Bool.true_or, Bool.or_false, Bool.false_or, Bool.and_false, Bool.false_and, Bool.and_self, beq_self_eq_true, Nat.reduceBEq, if_true, if_false, Bool.false_eq_true, reduceIte, reduceCtorEq, decide_eq_true_eq, Bool.not_true, Bool.not_false]
theorem roll_small (F : List DV → RF) {a b c many : Int} (h1 : 1 ≤ many) (h2 : many ≤ 100000000) (hc : ¬ (c = 2 ∨ (c = 1 ∧ 0 < a))) :
    mFun 3 (b__law_roll F) [.ow (dice a b c), .fr (.int many)] = .ok (.fr (.int ((a * 48271 + b * 69621 + 11) % 2147483647 / 7 % many))) [.s true (.ow (dice ((a * 48271 + b * 69621 + 11) % 2147483647) (b + 1) 0)), .un] := by
  have a1 : 0 < many := by omega
  have a2 : ¬ 100000000 < many := by omega
  have a3 : okMul a 48271 = true := okMul_r (by decide)
  have a4 : okMul b 69621 = true := okMul_r (by decide)
  have a5 : (0 : Int) < 2147483647 := by omega
  have a6 : (0 : Int) < 7 := by omega
  have a7 : (7 : Int).natAbs.log2 < 9000 := by decide
  have hc2 : ¬ c = 2 := fun h => hc (.inl h)
  unfold b__law_roll dice
  by_cases h3 : c = 1
  · have h4 : ¬ 0 < a := fun h => hc (.inr ⟨h3, h⟩)
    simp -implicitDefEqProofs only [a1, a2, a3, a4, a5, a6, a7, eq_true h3, eq_false hc2, h4, at0, at1, at2, ix0, ix1, ix2, bind_ok, bind_er, bind_bad, thenS_ok, thenS_er, thenS_bad, then_nx, then_rt, then_bk, then_ct, then_er, fin_some, ofO_some, e_sSeq, e_sIf, e_sRt, e_sSet, e_sto, e_sAug, e_sFor, e_sPar, e_sAsg, e_sEx, e_sNx, e_sRaise, e_sItem, e_sAppend, e_sRtN, e_sBk, e_sCt, e_mC, e_mRd, e_mFz, e_frz, e_mMv, e_mVal, e_mAt, e_mOp2, e_mOp1, e_tst, e_cond, e_mT, e_mCh, e_mNil, e_mCons, e_mCallN, e_mDisp, e_stoO, e_stTup, e_mRange, e_lstAt, e_callIt, e_mCallF, e_mNoP, e_mSomeP, e_mSl, e_mWalk, e_mComp, e_mGen, e_mTold, e_sTry, e_capsOk, e_dLt, e_dLe, e_dGt, e_dGe, e_dSub, e_dMax2, e_dMin2, e_mNot, e_mB, e_mJoin, Pv.mFun, Pv.entry, Pv.argS, Pv.finals, Pv.see, Pv.sees, Pv.vals, Pv.takes, Pv.pinOf, Pv.back, Pv.atsOk, Pv.allFr, Pv.ds, Pv.mkT, Pv.mkL, Pv.fz, Pv.kidVs, Pv.stAll, Pv.rangeD1, Pv.rangeD2, Pv.markOf, Pv.g1, Pv.g2, Pv.dLen, Pv.dAbs, Pv.dInt, Pv.dTup, Pv.dList, Pv.dAdd, Pv.dMul, Pv.dNeg, Pv.ints2, DV.d, Pv.modI_p, Pv.divI_p, Pv.idivI_p, Pv.imulI_r, Pv.mulI_p, Pv.powI_p, Pv.dSl, Pv.fzs, Pv.walkD, Pv.dRev, Pv.dOrd, Pv.kids, Pv.kidsL, Pv.kidsT, Pv.items, Pv.dIx, Pv.dEq, Pv.dNe, Pv.dIn, Pv.dNotIn, Pv.eqD_int, Pv.eqD_str, Pv.eqD_bl, Pv.kAny, Pv.kTupG, Pv.anyD, Pv.gSl, sz0, sy0, sz1, sy1, sz2, sy2, sz3, sy3, sz4, sy4, sz5, sy5, sz6, sy6, sz7, sy7, sz8, sy8, sz9, sy9, sz10, sy10, sz11, sy11, sz12, sy12, decide_true, decide_false, decide_not, ite_true, ite_false, not_true_eq_false, not_false_eq_true, List.map_nil, List.map_cons, List.length_nil, List.length_cons, List.replicate_succ, List.replicate_zero, List.nil_append, List.cons_append, List.append_nil, List.getElem?_cons_zero, List.getElem?_cons_succ, List.getElem?_nil, List.set_cons_zero, List.set_cons_succ, List.length_replicate, Option.map_some, Option.map_none, Option.bind_some, Option.bind_none, Nat.sub_self, Nat.reduceSub, Nat.reduceAdd, Nat.zero_add, eq_self, List.contains_cons, List.contains_nil, Bool.and_true, Bool.true_and, Bool.or_true, Bool.true_or, Bool.or_false, Bool.false_or, Bool.and_false, Bool.false_and, Bool.and_self, beq_self_eq_true, Nat.reduceBEq, if_true, if_false, Bool.false_eq_true, reduceIte, reduceCtorEq, decide_eq_true_eq, Bool.not_true, Bool.not_false]
  · simp -implicitDefEqProofs only [a1, a2, a3, a4, a5, a6, a7, eq_false h3, eq_false hc2, at0, at1, at2, ix0, ix1, ix2, bind_ok, bind_er, bind_bad, thenS_ok, thenS_er, thenS_bad, then_nx, then_rt, then_bk, then_ct, then_er, fin_some, ofO_some, e_sSeq, e_sIf, e_sRt, e_sSet, e_sto, e_sAug, e_sFor, e_sPar, e_sAsg, e_sEx, e_sNx, e_sRaise, e_sItem, e_sAppend, e_sRtN, e_sBk, e_sCt, e_mC, e_mRd, e_mFz, e_frz, e_mMv, e_mVal, e_mAt, e_mOp2, e_mOp1, e_tst, e_cond, e_mT, e_mCh, e_mNil, e_mCons, e_mCallN, e_mDisp, e_stoO, e_stTup, e_mRange, e_lstAt, e_callIt, e_mCallF, e_mNoP, e_mSomeP, e_mSl, e_mWalk, e_mComp, e_mGen, e_mTold, e_sTry, e_capsOk, e_dLt, e_dLe, e_dGt, e_dGe, e_dSub, e_dMax2, e_dMin2, e_mNot, e_mB, e_mJoin, Pv.mFun, Pv.entry, Pv.argS, Pv.finals, Pv.see, Pv.sees, Pv.vals, Pv.takes, Pv.pinOf, Pv.back, Pv.atsOk, Pv.allFr, Pv.ds, Pv.mkT, Pv.mkL, Pv.fz, Pv.kidVs, Pv.stAll, Pv.rangeD1, Pv.rangeD2, Pv.markOf, Pv.g1, Pv.g2, Pv.dLen, Pv.dAbs, Pv.dInt, Pv.dTup, Pv.dList, Pv.dAdd, Pv.dMul, Pv.dNeg, Pv.ints2, DV.d, Pv.modI_p, Pv.divI_p, Pv.idivI_p, Pv.imulI_r, Pv.mulI_p, Pv.powI_p, Pv.dSl, Pv.fzs, Pv.walkD, Pv.dRev, Pv.dOrd, Pv.kids, Pv.kidsL, Pv.kidsT, Pv.items, Pv.dIx, Pv.dEq, Pv.dNe, Pv.dIn, Pv.dNotIn, Pv.eqD_int, Pv.eqD_str, Pv.eqD_bl, Pv.kAny, Pv.kTupG, Pv.anyD, Pv.gSl, sz0, sy0, sz1, sy1, sz2, sy2, sz3, sy3, sz4, sy4, sz5, sy5, sz6, sy6, sz7, sy7, sz8, sy8, sz9, sy9, sz10, sy10, sz11, sy11, sz12, sy12, decide_true, decide_false, decide_not, ite_true, ite_false, not_true_eq_false, not_false_eq_true, List.map_nil, List.map_cons, List.length_nil, List.length_cons, List.replicate_succ, List.replicate_zero, List.nil_append, List.cons_append, List.append_nil, List.getElem?_cons_zero, List.getElem?_cons_succ, List.getElem?_nil, List.set_cons_zero, List.set_cons_succ, List.length_replicate, Option.map_some, Option.map_none, Option.bind_some, Option.bind_none, Nat.sub_self, Nat.reduceSub, Nat.reduceAdd, Nat.zero_add, eq_self, List.contains_cons, List.contains_nil, Bool.and_true, Bool.true_and, Bool.or_true, Bool.true_or, Bool.or_false, Bool.false_or, Bool.and_false, Bool.false_and, Bool.and_self, beq_self_eq_true, Nat.reduceBEq, if_true, if_false, Bool.false_eq_true, reduceIte, reduceCtorEq, decide_eq_true_eq, Bool.not_true, Bool.not_false]
theorem roll_ok1 (F : List DV → RF) : RollOk (mFun 3 (b__law_roll F)) 100000000 := fun a b c many h1 h2 => by
  by_cases hc : c = 2 ∨ (c = 1 ∧ 0 < a)
  · exact ⟨_, _, _, _, Int.emod_nonneg _ (by omega), Int.emod_lt_of_pos _ (by omega), roll_now F h1 (by omega) hc⟩
  · exact ⟨_, _, _, _, Int.emod_nonneg _ (by omega), Int.emod_lt_of_pos _ (by omega), roll_small F h1 h2 hc⟩
theorem roll_ok2 (F : List DV → RF) (hF : RollOk F 100000000) : RollOk (mFun 3 (b__law_roll F)) 1000000000000 := fun a b c many h1 h2 => by
  by_cases hc : c = 2 ∨ (c = 1 ∧ 0 < a)
  · exact ⟨_, _, _, _, Int.emod_nonneg _ (by omega), Int.emod_lt_of_pos _ (by omega), roll_now F h1 (by omega) hc⟩
  · by_cases h3 : many ≤ 100000000
    · exact ⟨_, _, _, _, Int.emod_nonneg _ (by omega), Int.emod_lt_of_pos _ (by omega), roll_small F h1 h3 hc⟩
    · obtain ⟨r1, a1', b1', c1', r10, r11, e1⟩ := hF a b 0 (many / 100000000 + 1) (by omega) (by omega)
      obtain ⟨r2, a2', b2', c2', r20, r21, e2⟩ := hF a1' b1' c1' 100000000 (by omega) (by omega)
      refine ⟨(r1 * 100000000 + r2) % many, a2', b2', c2', Int.emod_nonneg _ (by omega), Int.emod_lt_of_pos _ (by omega), ?_⟩
      have a1 : 0 < many := by omega
      have a2 : 100000000 < many := by omega
      have a3 : okMul r1 100000000 = true := okMul_r (by decide)
      have a5 : (0 : Int) < 100000000 := by omega
      have a7 : (100000000 : Int).natAbs.log2 < 9000 := log2_64 (by omega) (by omega)
      have hc2 : ¬ c = 2 := fun h => hc (.inl h)
      unfold dice at e1 e2 ⊢
      unfold b__law_roll
      by_cases h3 : c = 1
      · have h4 : ¬ 0 < a := fun h => hc (.inr ⟨h3, h⟩)
        simp -implicitDefEqProofs only [a1, a2, a3, a5, a7, e1, e2, eq_true h3, eq_false hc2, h4, at0, at1, at2, ix0, ix1, ix2, bind_ok, bind_er, bind_bad, thenS_ok, thenS_er, thenS_bad, then_nx, then_rt, then_bk, then_ct, then_er, fin_some, ofO_some, e_sSeq, e_sIf, e_sRt, e_sSet, e_sto, e_sAug, e_sFor, e_sPar, e_sAsg, e_sEx, e_sNx, e_sRaise, e_sItem, e_sAppend, e_sRtN, e_sBk, e_sCt, e_mC, e_mRd, e_mFz, e_frz, e_mMv, e_mVal, e_mAt, e_mOp2, e_mOp1, e_tst, e_cond, e_mT, e_mCh, e_mNil, e_mCons, e_mCallN, e_mDisp, e_stoO, e_stTup, e_mRange, e_lstAt, e_callIt, e_mCallF, e_mNoP, e_mSomeP, e_mSl, e_mWalk, e_mComp, e_mGen, e_mTold, e_sTry, e_capsOk, e_dLt, e_dLe, e_dGt, e_dGe, e_dSub, e_dMax2, e_dMin2, e_mNot, e_mB, e_mJoin, Pv.mFun, Pv.entry, Pv.argS, Pv.finals, Pv.see, Pv.sees, Pv.vals, Pv.takes, Pv.pinOf, Pv.back, Pv.atsOk, Pv.allFr, Pv.ds, Pv.mkT, Pv.mkL, Pv.fz, Pv.kidVs, Pv.stAll, Pv.rangeD1, Pv.rangeD2, Pv.markOf, Pv.g1, Pv.g2, Pv.dLen, Pv.dAbs, Pv.dInt, Pv.dTup, Pv.dList, Pv.dAdd, Pv.dMul, Pv.dNeg, Pv.ints2, DV.d, Pv.modI_p, Pv.divI_p, Pv.idivI_p, Pv.imulI_r, Pv.mulI_p, Pv.powI_p, Pv.dSl, Pv.fzs, Pv.walkD, Pv.dRev, Pv.dOrd, Pv.kids, Pv.kidsL, Pv.kidsT, Pv.items, Pv.dIx, Pv.dEq, Pv.dNe, Pv.dIn, Pv.dNotIn, Pv.eqD_int, Pv.eqD_str, Pv.eqD_bl, Pv.kAny, Pv.kTupG, Pv.anyD, Pv.gSl, sz0, sy0, sz1, sy1, sz2, sy2, sz3, sy3, sz4, sy4, sz5, sy5, sz6, sy6, sz7, sy7, sz8, sy8, sz9, sy9, sz10, sy10, sz11, sy11, sz12, sy12, decide_true, decide_false, decide_not, ite_true, ite_false, not_true_eq_false, not_false_eq_true, List.map_nil, List.map_cons, List.length_nil, List.length_cons, List.replicate_succ, List.replicate_zero, List.nil_append, List.cons_append, List.append_nil, List.getElem?_cons_zero, List.getElem?_cons_succ, List.getElem?_nil, List.set_cons_zero, List.set_cons_succ, List.length_replicate, Option.map_some, Option.map_none, Option.bind_some, Option.bind_none, Nat.sub_self, Nat.reduceSub, Nat.reduceAdd, Nat.zero_add, eq_self, List.contains_cons, List.contains_nil, Bool.and_true, Bool.true_and, Bool.or_true, Bool.true_or, Bool.or_false, Bool.false_or, Bool.and_false, Bool.false_and, Bool.and_self, beq_self_eq_true, Nat.reduceBEq, if_true, if_false, Bool.false_eq_true, reduceIte, reduceCtorEq, decide_eq_true_eq, Bool.not_true, Bool.not_false]
      · simp -implicitDefEqProofs only [a1, a2, a3, a5, a7, e1, e2, eq_false h3, eq_false hc2, at0, at1, at2, ix0, ix1, ix2, bind_ok, bind_er, bind_bad, thenS_ok, thenS_er, thenS_bad, then_nx, then_rt, then_bk, then_ct, then_er, fin_some, ofO_some, e_sSeq, e_sIf, e_sRt, e_sSet, e_sto, e_sAug, e_sFor, e_sPar, e_sAsg, e_sEx, e_sNx, e_sRaise, e_sItem, e_sAppend, e_sRtN, e_sBk, e_sCt, e_mC, e_mRd, e_mFz, e_frz, e_mMv, e_mVal, e_mAt, e_mOp2, e_mOp1, e_tst, e_cond, e_mT, e_mCh, e_mNil, e_mCons, e_mCallN, e_mDisp, e_stoO, e_stTup, e_mRange, e_lstAt, e_callIt, e_mCallF, e_mNoP, e_mSomeP, e_mSl, e_mWalk, e_mComp, e_mGen, e_mTold, e_sTry, e_capsOk, e_dLt, e_dLe, e_dGt, e_dGe, e_dSub, e_dMax2, e_dMin2, e_mNot, e_mB, e_mJoin, Pv.mFun, Pv.entry, Pv.argS, Pv.finals, Pv.see, Pv.sees, Pv.vals, Pv.takes, Pv.pinOf, Pv.back, Pv.atsOk, Pv.allFr, Pv.ds, Pv.mkT, Pv.mkL, Pv.fz, Pv.kidVs, Pv.stAll, Pv.rangeD1, Pv.rangeD2, Pv.markOf, Pv.g1, Pv.g2, Pv.dLen, Pv.dAbs, Pv.dInt, Pv.dTup, Pv.dList, Pv.dAdd, Pv.dMul, Pv.dNeg, Pv.ints2, DV.d, Pv.modI_p, Pv.divI_p, Pv.idivI_p, Pv.imulI_r, Pv.mulI_p, Pv.powI_p, Pv.dSl, Pv.fzs, Pv.walkD, Pv.dRev, Pv.dOrd, Pv.kids, Pv.kidsL, Pv.kidsT, Pv.items, Pv.dIx, Pv.dEq, Pv.dNe, Pv.dIn, Pv.dNotIn, Pv.eqD_int, Pv.eqD_str, Pv.eqD_bl, Pv.kAny, Pv.kTupG, Pv.anyD, Pv.gSl, sz0, sy0, sz1, sy1, sz2, sy2, sz3, sy3, sz4, sy4, sz5, sy5, sz6, sy6, sz7, sy7, sz8, sy8, sz9, sy9, sz10, sy10, sz11, sy11, sz12, sy12, decide_true, decide_false, decide_not, ite_true, ite_false, not_true_eq_false, not_false_eq_true, List.map_nil, List.map_cons, List.length_nil, List.length_cons, List.replicate_succ, List.replicate_zero, List.nil_append, List.cons_append, List.append_nil, List.getElem?_cons_zero, List.getElem?_cons_succ, List.getElem?_nil, List.set_cons_zero, List.set_cons_succ, List.length_replicate, Option.map_some, Option.map_none, Option.bind_some, Option.bind_none, Nat.sub_self, Nat.reduceSub, Nat.reduceAdd, Nat.zero_add, eq_self, List.contains_cons, List.contains_nil, Bool.and_true, Bool.true_and, Bool.or_true, Bool.true_or, Bool.or_false, Bool.false_or, Bool.and_false, Bool.false_and, Bool.and_self, beq_self_eq_true, Nat.reduceBEq, if_true, if_false, Bool.false_eq_true, reduceIte, reduceCtorEq, decide_eq_true_eq, Bool.not_true, Bool.not_false]
theorem roll_ok : RollOk m__law_roll 1000000000000 := roll_ok2 _ (roll_ok1 _)
end K01

set_option Elab.async false
set_option linter.all false
set_option maxRecDepth 100000
set_option maxHeartbeats 4000000
namespace K01
open Pv
theorem p12 : powI 10 12 = some (.int 1000000000000) := by unfold powI; rw [if_pos (by decide)]; rfl
theorem sz4' : (4 ≤ PySem.sizeLine) = True := eq_true (by decide)
theorem number_ok (a b c : Int) : ∃ n a' b' c', 0 ≤ n ∧ n < 1000000000000 ∧ m__law_number [.ow (dice a b c)] = .ok (.fr (.int n)) [.s true (.ow (dice a' b' c'))] := by
  obtain ⟨r1, a1, b1, c1, l1, u1, e1⟩ := roll_ok a b c 9 (by omega) (by omega)
  obtain ⟨r2, a2, b2, c2, l2, u2, e2⟩ := roll_ok a1 b1 c1 300 (by omega) (by omega)
  obtain ⟨r3, a3, b3, c3, l3, u3, e3⟩ := roll_ok a2 b2 c2 100000 (by omega) (by omega)
  obtain ⟨r4, a4, b4, c4, l4, u4, e4⟩ := roll_ok a3 b3 c3 1000000000000 (by omega) (by omega)
  obtain ⟨i, a5, b5, c5, l5, u5, e5⟩ := roll_ok a4 b4 c4 4 (by omega) (by omega)
  have key : ∀ x : Int, L2.atI [D.int r1, .int r2, .int r3, .int r4] i = some (.int x) → m__law_number [.ow (dice a b c)] = .ok (.fr (.int x)) [.s true (.ow (dice a5 b5 c5))] := by
    intro x hx
    unfold dice at e1 e2 e3 e4 e5 ⊢
    unfold m__law_number b__law_number
    simp -implicitDefEqProofs only [p12, e1, e2, e3, e4, e5, hx, bind_ok, bind_er, bind_bad, thenS_ok, thenS_er, thenS_bad, then_nx, then_rt, then_bk, then_ct, then_er, fin_some, ofO_some, e_sSeq, e_sIf, e_sRt, e_sSet, e_sto, e_sAug, e_sFor, e_sPar, e_sAsg, e_sEx, e_sNx, e_sRaise, e_sItem, e_sAppend, e_sRtN, e_sBk, e_sCt, e_mC, e_mRd, e_mFz, e_frz, e_mMv, e_mVal, e_mAt, e_mOp2, e_mOp1, e_tst, e_cond, e_mT, e_mCh, e_mNil, e_mCons, e_mCallN, e_mDisp, e_stoO, e_stTup, e_mRange, e_lstAt, e_callIt, e_mCallF, e_mNoP, e_mSomeP, e_mSl, e_mWalk, e_mComp, e_mGen, e_mTold, e_sTry, e_capsOk, e_dLt, e_dLe, e_dGt, e_dGe, e_dSub, e_dMax2, e_dMin2, e_mNot, e_mB, e_mJoin, Pv.mFun, Pv.entry, Pv.argS, Pv.finals, Pv.see, Pv.sees, Pv.vals, Pv.takes, Pv.pinOf, Pv.back, Pv.atsOk, Pv.allFr, Pv.ds, Pv.mkT, Pv.mkL, Pv.fz, Pv.kidVs, Pv.stAll, Pv.rangeD1, Pv.rangeD2, Pv.markOf, Pv.g1, Pv.g2, Pv.dLen, Pv.dAbs, Pv.dInt, Pv.dTup, Pv.dList, Pv.dAdd, Pv.dMul, Pv.dNeg, Pv.ints2, DV.d, Pv.modI_p, Pv.divI_p, Pv.idivI_p, Pv.imulI_r, Pv.mulI_p, Pv.powI_p, Pv.dSl, Pv.fzs, Pv.walkD, Pv.dRev, Pv.dOrd, Pv.kids, Pv.kidsL, Pv.kidsT, Pv.items, Pv.dIx, Pv.dEq, Pv.dNe, Pv.dIn, Pv.dNotIn, Pv.eqD_int, Pv.eqD_str, Pv.eqD_bl, Pv.kAny, Pv.kTupG, Pv.anyD, Pv.gSl, sz0, sy0, sz1, sy1, sz2, sy2, sz3, sy3, sz4, sy4, sz5, sy5, sz6, sy6, sz7, sy7, sz8, sy8, sz9, sy9, sz10, sy10, sz11, sy11, sz12, sy12, decide_true, decide_false, decide_not, ite_true, ite_false, not_true_eq_false, not_false_eq_true, List.map_nil, List.map_cons, List.length_nil, List.length_cons, List.replicate_succ, List.replicate_zero, List.nil_append, List.cons_append, List.append_nil, List.getElem?_cons_zero, List.getElem?_cons_succ, List.getElem?_nil, List.set_cons_zero, List.set_cons_succ, List.length_replicate, Option.map_some, Option.map_none, Option.bind_some, Option.bind_none, Nat.sub_self, Nat.reduceSub, Nat.reduceAdd, Nat.zero_add, eq_self, List.contains_cons, List.contains_nil, Bool.and_true, Bool.true_and, Bool.or_true, Bool.true_or, Bool.or_false, Bool.false_or, Bool.and_false, Bool.false_and, Bool.and_self, beq_self_eq_true, Nat.reduceBEq, if_true, if_false, Bool.false_eq_true, reduceIte, reduceCtorEq, decide_eq_true_eq, Bool.not_true, Bool.not_false]
  have hi : i = 0 ∨ i = 1 ∨ i = 2 ∨ i = 3 := by omega
  rcases hi with rfl | rfl | rfl | rfl
  · exact ⟨r1, a5, b5, c5, l1, by omega, key r1 rfl⟩
  · exact ⟨r2, a5, b5, c5, l2, by omega, key r2 rfl⟩
  · exact ⟨r3, a5, b5, c5, l3, by omega, key r3 rfl⟩
  · exact ⟨r4, a5, b5, c5, l4, by omega, key r4 rfl⟩
end K01

set_option Elab.async false
set_option linter.all false
set_option maxRecDepth 100000
set_option maxHeartbeats 4000000
namespace K01
open Pv
theorem eq_one (x : Int) : eqD (.lst .own [.int x]) (.lst .own []) = some false := by
  simp [eqD, pyd, pyds, PySem.SeqAt.shaped, PySem.PyData.canLay0, PySem.PyData.canLayAll0, PySem.PyData.depth, PySem.PyData.depthAll, PySem.PyData.eqv, PySem.PyData.eqvAll]
theorem eq_nil : eqD (.lst .own []) (.lst .own []) = some true := by
  simp [eqD, pyd, pyds, PySem.SeqAt.shaped, PySem.PyData.canLay0, PySem.PyData.canLayAll0, PySem.PyData.depth, PySem.PyData.depthAll, PySem.PyData.eqv, PySem.PyData.eqvAll]
theorem cut_nil : cut ([] : List D) none (some 1) = [] := rfl
theorem cut_one (d : D) (ds : List D) : cut (d :: ds) none (some 1) = [d] := by
  unfold cut
  rw [show (some (1 : Int)) = some ((1 : Nat) : Int) from rfl, HT.sIx_nat]
  simp [HT.sIx]
theorem p18 : powI 10 18 = some (.int 1000000000000000000) := by unfold powI; rw [if_pos (by decide)]; rfl
theorem dice_ok (x : Int) : ∃ a b c, m__law_dice [.fr (.int x)] = .ok (.ow (dice a b c)) [.un] := by
  have a2 : (0 : Int) < 1009 := by omega
  have a1 : (0 : Int) - 10 = -10 := rfl
  unfold m__law_dice b__law_dice dice
  by_cases h1 : -10 < x
  · by_cases h2 : x < 10
    · exact ⟨if x < 0 then -x else x, 0, 2, by simp -implicitDefEqProofs only [a1, h1, h2, bind_ok, bind_er, bind_bad, thenS_ok, thenS_er, thenS_bad, then_nx, then_rt, then_bk, then_ct, then_er, fin_some, ofO_some, e_sSeq, e_sIf, e_sRt, e_sSet, e_sto, e_sAug, e_sFor, e_sPar, e_sAsg, e_sEx, e_sNx, e_sRaise, e_sItem, e_sAppend, e_sRtN, e_sBk, e_sCt, e_mC, e_mRd, e_mFz, e_frz, e_mMv, e_mVal, e_mAt, e_mOp2, e_mOp1, e_tst, e_cond, e_mT, e_mCh, e_mNil, e_mCons, e_mCallN, e_mDisp, e_stoO, e_stTup, e_mRange, e_lstAt, e_callIt, e_mCallF, e_mNoP, e_mSomeP, e_mSl, e_mWalk, e_mComp, e_mGen, e_mTold, e_sTry, e_capsOk, e_dLt, e_dLe, e_dGt, e_dGe, e_dSub, e_dMax2, e_dMin2, e_mNot, e_mB, e_mJoin, Pv.mFun, Pv.entry, Pv.argS, Pv.finals, Pv.see, Pv.sees, Pv.vals, Pv.takes, Pv.pinOf, Pv.back, Pv.atsOk, Pv.allFr, Pv.ds, Pv.mkT, Pv.mkL, Pv.fz, Pv.kidVs, Pv.stAll, Pv.rangeD1, Pv.rangeD2, Pv.markOf, Pv.g1, Pv.g2, Pv.dLen, Pv.dAbs, Pv.dInt, Pv.dTup, Pv.dList, Pv.dAdd, Pv.dMul, Pv.dNeg, Pv.ints2, DV.d, Pv.modI_p, Pv.divI_p, Pv.idivI_p, Pv.imulI_r, Pv.mulI_p, Pv.powI_p, Pv.dSl, Pv.fzs, Pv.walkD, Pv.dRev, Pv.dOrd, Pv.kids, Pv.kidsL, Pv.kidsT, Pv.items, Pv.dIx, Pv.dEq, Pv.dNe, Pv.dIn, Pv.dNotIn, Pv.eqD_int, Pv.eqD_str, Pv.eqD_bl, Pv.kAny, Pv.kTupG, Pv.anyD, Pv.gSl, sz0, sy0, sz1, sy1, sz2, sy2, sz3, sy3, sz4, sy4, sz5, sy5, sz6, sy6, sz7, sy7, sz8, sy8, sz9, sy9, sz10, sy10, sz11, sy11, sz12, sy12, decide_true, decide_false, decide_not, ite_true, ite_false, not_true_eq_false, not_false_eq_true, List.map_nil, List.map_cons, List.length_nil, List.length_cons, List.replicate_succ, List.replicate_zero, List.nil_append, List.cons_append, List.append_nil, List.getElem?_cons_zero, List.getElem?_cons_succ, List.getElem?_nil, List.set_cons_zero, List.set_cons_succ, List.length_replicate, Option.map_some, Option.map_none, Option.bind_some, Option.bind_none, Nat.sub_self, Nat.reduceSub, Nat.reduceAdd, Nat.zero_add, eq_self, List.contains_cons, List.contains_nil, Bool.and_true, Bool.true_and, Bool.or_true, Bool.true_or, Bool.or_false, Bool.false_or, Bool.and_false, Bool.false_and, Bool.and_self, beq_self_eq_true, Nat.reduceBEq, if_true, if_false, Bool.false_eq_true, reduceIte, reduceCtorEq, decide_eq_true_eq, Bool.not_true, Bool.not_false]⟩
    · refine ⟨x, 1 + x % 1009, if 1000000000000000000 ≤ x then 1 else 0, ?_⟩
      by_cases h3 : (1000000000000000000 : Int) ≤ x <;> simp -implicitDefEqProofs only [p18, a1, a2, h1, h2, h3, bind_ok, bind_er, bind_bad, thenS_ok, thenS_er, thenS_bad, then_nx, then_rt, then_bk, then_ct, then_er, fin_some, ofO_some, e_sSeq, e_sIf, e_sRt, e_sSet, e_sto, e_sAug, e_sFor, e_sPar, e_sAsg, e_sEx, e_sNx, e_sRaise, e_sItem, e_sAppend, e_sRtN, e_sBk, e_sCt, e_mC, e_mRd, e_mFz, e_frz, e_mMv, e_mVal, e_mAt, e_mOp2, e_mOp1, e_tst, e_cond, e_mT, e_mCh, e_mNil, e_mCons, e_mCallN, e_mDisp, e_stoO, e_stTup, e_mRange, e_lstAt, e_callIt, e_mCallF, e_mNoP, e_mSomeP, e_mSl, e_mWalk, e_mComp, e_mGen, e_mTold, e_sTry, e_capsOk, e_dLt, e_dLe, e_dGt, e_dGe, e_dSub, e_dMax2, e_dMin2, e_mNot, e_mB, e_mJoin, Pv.mFun, Pv.entry, Pv.argS, Pv.finals, Pv.see, Pv.sees, Pv.vals, Pv.takes, Pv.pinOf, Pv.back, Pv.atsOk, Pv.allFr, Pv.ds, Pv.mkT, Pv.mkL, Pv.fz, Pv.kidVs, Pv.stAll, Pv.rangeD1, Pv.rangeD2, Pv.markOf, Pv.g1, Pv.g2, Pv.dLen, Pv.dAbs, Pv.dInt, Pv.dTup, Pv.dList, Pv.dAdd, Pv.dMul, Pv.dNeg, Pv.ints2, DV.d, Pv.modI_p, Pv.divI_p, Pv.idivI_p, Pv.imulI_r, Pv.mulI_p, Pv.powI_p, Pv.dSl, Pv.fzs, Pv.walkD, Pv.dRev, Pv.dOrd, Pv.kids, Pv.kidsL, Pv.kidsT, Pv.items, Pv.dIx, Pv.dEq, Pv.dNe, Pv.dIn, Pv.dNotIn, Pv.eqD_int, Pv.eqD_str, Pv.eqD_bl, Pv.kAny, Pv.kTupG, Pv.anyD, Pv.gSl, sz0, sy0, sz1, sy1, sz2, sy2, sz3, sy3, sz4, sy4, sz5, sy5, sz6, sy6, sz7, sy7, sz8, sy8, sz9, sy9, sz10, sy10, sz11, sy11, sz12, sy12, decide_true, decide_false, decide_not, ite_true, ite_false, not_true_eq_false, not_false_eq_true, List.map_nil, List.map_cons, List.length_nil, List.length_cons, List.replicate_succ, List.replicate_zero, List.nil_append, List.cons_append, List.append_nil, List.getElem?_cons_zero, List.getElem?_cons_succ, List.getElem?_nil, List.set_cons_zero, List.set_cons_succ, List.length_replicate, Option.map_some, Option.map_none, Option.bind_some, Option.bind_none, Nat.sub_self, Nat.reduceSub, Nat.reduceAdd, Nat.zero_add, eq_self, List.contains_cons, List.contains_nil, Bool.and_true, Bool.true_and, Bool.or_true, Bool.true_or, Bool.or_false, Bool.false_or, Bool.and_false, Bool.false_and, Bool.and_self, beq_self_eq_true, Nat.reduceBEq, if_true, if_false, Bool.false_eq_true, reduceIte, reduceCtorEq, decide_eq_true_eq, Bool.not_true, Bool.not_false]
  · refine ⟨x, 1 + x % 1009, if 1000000000000000000 ≤ x then 1 else 0, ?_⟩
    by_cases h3 : (1000000000000000000 : Int) ≤ x <;> simp -implicitDefEqProofs only [p18, a1, a2, h1, h3, bind_ok, bind_er, bind_bad, thenS_ok, thenS_er, thenS_bad, then_nx, then_rt, then_bk, then_ct, then_er, fin_some, ofO_some, e_sSeq, e_sIf, e_sRt, e_sSet, e_sto, e_sAug, e_sFor, e_sPar, e_sAsg, e_sEx, e_sNx, e_sRaise, e_sItem, e_sAppend, e_sRtN, e_sBk, e_sCt, e_mC, e_mRd, e_mFz, e_frz, e_mMv, e_mVal, e_mAt, e_mOp2, e_mOp1, e_tst, e_cond, e_mT, e_mCh, e_mNil, e_mCons, e_mCallN, e_mDisp, e_stoO, e_stTup, e_mRange, e_lstAt, e_callIt, e_mCallF, e_mNoP, e_mSomeP, e_mSl, e_mWalk, e_mComp, e_mGen, e_mTold, e_sTry, e_capsOk, e_dLt, e_dLe, e_dGt, e_dGe, e_dSub, e_dMax2, e_dMin2, e_mNot, e_mB, e_mJoin, Pv.mFun, Pv.entry, Pv.argS, Pv.finals, Pv.see, Pv.sees, Pv.vals, Pv.takes, Pv.pinOf, Pv.back, Pv.atsOk, Pv.allFr, Pv.ds, Pv.mkT, Pv.mkL, Pv.fz, Pv.kidVs, Pv.stAll, Pv.rangeD1, Pv.rangeD2, Pv.markOf, Pv.g1, Pv.g2, Pv.dLen, Pv.dAbs, Pv.dInt, Pv.dTup, Pv.dList, Pv.dAdd, Pv.dMul, Pv.dNeg, Pv.ints2, DV.d, Pv.modI_p, Pv.divI_p, Pv.idivI_p, Pv.imulI_r, Pv.mulI_p, Pv.powI_p, Pv.dSl, Pv.fzs, Pv.walkD, Pv.dRev, Pv.dOrd, Pv.kids, Pv.kidsL, Pv.kidsT, Pv.items, Pv.dIx, Pv.dEq, Pv.dNe, Pv.dIn, Pv.dNotIn, Pv.eqD_int, Pv.eqD_str, Pv.eqD_bl, Pv.kAny, Pv.kTupG, Pv.anyD, Pv.gSl, sz0, sy0, sz1, sy1, sz2, sy2, sz3, sy3, sz4, sy4, sz5, sy5, sz6, sy6, sz7, sy7, sz8, sy8, sz9, sy9, sz10, sy10, sz11, sy11, sz12, sy12, decide_true, decide_false, decide_not, ite_true, ite_false, not_true_eq_false, not_false_eq_true, List.map_nil, List.map_cons, List.length_nil, List.length_cons, List.replicate_succ, List.replicate_zero, List.nil_append, List.cons_append, List.append_nil, List.getElem?_cons_zero, List.getElem?_cons_succ, List.getElem?_nil, List.set_cons_zero, List.set_cons_succ, List.length_replicate, Option.map_some, Option.map_none, Option.bind_some, Option.bind_none, Nat.sub_self, Nat.reduceSub, Nat.reduceAdd, Nat.zero_add, eq_self, List.contains_cons, List.contains_nil, Bool.and_true, Bool.true_and, Bool.or_true, Bool.true_or, Bool.or_false, Bool.false_or, Bool.and_false, Bool.false_and, Bool.and_self, beq_self_eq_true, Nat.reduceBEq, if_true, if_false, Bool.false_eq_true, reduceIte, reduceCtorEq, decide_eq_true_eq, Bool.not_true, Bool.not_false]
theorem rounds_ok (ns : List Int) : ∃ a b c, m__law_rounds [.fr (.lst .ex (ns.map .int)), .fr (.int 1)] = .ok (.ow (.lst .deep [dice a b c])) [.un, .un] := by
  cases ns with
  | nil =>
    obtain ⟨a, b, c, e⟩ := dice_ok 0
    refine ⟨a, b, c, ?_⟩
    unfold dice at e ⊢
    unfold m__law_rounds b__law_rounds
    simp -implicitDefEqProofs only [e, eq_nil, cut_nil, compIt, wipeS, okOwn, restore, bind_ok, bind_er, bind_bad, thenS_ok, thenS_er, thenS_bad, then_nx, then_rt, then_bk, then_ct, then_er, fin_some, ofO_some, e_sSeq, e_sIf, e_sRt, e_sSet, e_sto, e_sAug, e_sFor, e_sPar, e_sAsg, e_sEx, e_sNx, e_sRaise, e_sItem, e_sAppend, e_sRtN, e_sBk, e_sCt, e_mC, e_mRd, e_mFz, e_frz, e_mMv, e_mVal, e_mAt, e_mOp2, e_mOp1, e_tst, e_cond, e_mT, e_mCh, e_mNil, e_mCons, e_mCallN, e_mDisp, e_stoO, e_stTup, e_mRange, e_lstAt, e_callIt, e_mCallF, e_mNoP, e_mSomeP, e_mSl, e_mWalk, e_mComp, e_mGen, e_mTold, e_sTry, e_capsOk, e_dLt, e_dLe, e_dGt, e_dGe, e_dSub, e_dMax2, e_dMin2, e_mNot, e_mB, e_mJoin, Pv.mFun, Pv.entry, Pv.argS, Pv.finals, Pv.see, Pv.sees, Pv.vals, Pv.takes, Pv.pinOf, Pv.back, Pv.atsOk, Pv.allFr, Pv.ds, Pv.mkT, Pv.mkL, Pv.fz, Pv.kidVs, Pv.stAll, Pv.rangeD1, Pv.rangeD2, Pv.markOf, Pv.g1, Pv.g2, Pv.dLen, Pv.dAbs, Pv.dInt, Pv.dTup, Pv.dList, Pv.dAdd, Pv.dMul, Pv.dNeg, Pv.ints2, DV.d, Pv.modI_p, Pv.divI_p, Pv.idivI_p, Pv.imulI_r, Pv.mulI_p, Pv.powI_p, Pv.dSl, Pv.fzs, Pv.walkD, Pv.dRev, Pv.dOrd, Pv.kids, Pv.kidsL, Pv.kidsT, Pv.items, Pv.dIx, Pv.dEq, Pv.dNe, Pv.dIn, Pv.dNotIn, Pv.eqD_int, Pv.eqD_str, Pv.eqD_bl, Pv.kAny, Pv.kTupG, Pv.anyD, Pv.gSl, sz0, sy0, sz1, sy1, sz2, sy2, sz3, sy3, sz4, sy4, sz5, sy5, sz6, sy6, sz7, sy7, sz8, sy8, sz9, sy9, sz10, sy10, sz11, sy11, sz12, sy12, decide_true, decide_false, decide_not, ite_true, ite_false, not_true_eq_false, not_false_eq_true, List.map_nil, List.map_cons, List.length_nil, List.length_cons, List.replicate_succ, List.replicate_zero, List.nil_append, List.cons_append, List.append_nil, List.getElem?_cons_zero, List.getElem?_cons_succ, List.getElem?_nil, List.set_cons_zero, List.set_cons_succ, List.length_replicate, Option.map_some, Option.map_none, Option.bind_some, Option.bind_none, Nat.sub_self, Nat.reduceSub, Nat.reduceAdd, Nat.zero_add, eq_self, List.contains_cons, List.contains_nil, Bool.and_true, Bool.true_and, Bool.or_true, Bool.true_or, Bool.or_false, Bool.false_or, Bool.and_false, Bool.false_and, Bool.and_self, beq_self_eq_true, Nat.reduceBEq, if_true, if_false, Bool.false_eq_true, reduceIte, reduceCtorEq, decide_eq_true_eq, Bool.not_true, Bool.not_false]
  | cons x xs =>
    obtain ⟨a, b, c, e⟩ := dice_ok x
    refine ⟨a, b, c, ?_⟩
    unfold dice at e ⊢
    unfold m__law_rounds b__law_rounds
    simp -implicitDefEqProofs only [e, eq_one, cut_one, compIt, wipeS, okOwn, restore, bind_ok, bind_er, bind_bad, thenS_ok, thenS_er, thenS_bad, then_nx, then_rt, then_bk, then_ct, then_er, fin_some, ofO_some, e_sSeq, e_sIf, e_sRt, e_sSet, e_sto, e_sAug, e_sFor, e_sPar, e_sAsg, e_sEx, e_sNx, e_sRaise, e_sItem, e_sAppend, e_sRtN, e_sBk, e_sCt, e_mC, e_mRd, e_mFz, e_frz, e_mMv, e_mVal, e_mAt, e_mOp2, e_mOp1, e_tst, e_cond, e_mT, e_mCh, e_mNil, e_mCons, e_mCallN, e_mDisp, e_stoO, e_stTup, e_mRange, e_lstAt, e_callIt, e_mCallF, e_mNoP, e_mSomeP, e_mSl, e_mWalk, e_mComp, e_mGen, e_mTold, e_sTry, e_capsOk, e_dLt, e_dLe, e_dGt, e_dGe, e_dSub, e_dMax2, e_dMin2, e_mNot, e_mB, e_mJoin, Pv.mFun, Pv.entry, Pv.argS, Pv.finals, Pv.see, Pv.sees, Pv.vals, Pv.takes, Pv.pinOf, Pv.back, Pv.atsOk, Pv.allFr, Pv.ds, Pv.mkT, Pv.mkL, Pv.fz, Pv.kidVs, Pv.stAll, Pv.rangeD1, Pv.rangeD2, Pv.markOf, Pv.g1, Pv.g2, Pv.dLen, Pv.dAbs, Pv.dInt, Pv.dTup, Pv.dList, Pv.dAdd, Pv.dMul, Pv.dNeg, Pv.ints2, DV.d, Pv.modI_p, Pv.divI_p, Pv.idivI_p, Pv.imulI_r, Pv.mulI_p, Pv.powI_p, Pv.dSl, Pv.fzs, Pv.walkD, Pv.dRev, Pv.dOrd, Pv.kids, Pv.kidsL, Pv.kidsT, Pv.items, Pv.dIx, Pv.dEq, Pv.dNe, Pv.dIn, Pv.dNotIn, Pv.eqD_int, Pv.eqD_str, Pv.eqD_bl, Pv.kAny, Pv.kTupG, Pv.anyD, Pv.gSl, sz0, sy0, sz1, sy1, sz2, sy2, sz3, sy3, sz4, sy4, sz5, sy5, sz6, sy6, sz7, sy7, sz8, sy8, sz9, sy9, sz10, sy10, sz11, sy11, sz12, sy12, decide_true, decide_false, decide_not, ite_true, ite_false, not_true_eq_false, not_false_eq_true, List.map_nil, List.map_cons, List.length_nil, List.length_cons, List.replicate_succ, List.replicate_zero, List.nil_append, List.cons_append, List.append_nil, List.getElem?_cons_zero, List.getElem?_cons_succ, List.getElem?_nil, List.set_cons_zero, List.set_cons_succ, List.length_replicate, Option.map_some, Option.map_none, Option.bind_some, Option.bind_none, Nat.sub_self, Nat.reduceSub, Nat.reduceAdd, Nat.zero_add, eq_self, List.contains_cons, List.contains_nil, Bool.and_true, Bool.true_and, Bool.or_true, Bool.true_or, Bool.or_false, Bool.false_or, Bool.and_false, Bool.false_and, Bool.and_self, beq_self_eq_true, Nat.reduceBEq, if_true, if_false, Bool.false_eq_true, reduceIte, reduceCtorEq, decide_eq_true_eq, Bool.not_true, Bool.not_false]
end K01

set_option Elab.async false
set_option linter.all false
set_option maxRecDepth 100000
set_option maxHeartbeats 4000000
namespace K01
open Pv
theorem plain_ok : m__law_plain [] = .ok (.fr (.bl true)) [] := by kernel_rfl
theorem bytes_gen {ys : List Int} (h : bytes ys) : bytes ys := h
theorem print_loop {a b : Sl} : ∀ (ys : List Int) (one two : Int) (t : Sl), (∀ x, t ≠ .s true x) → ∃ t', iterS (stoO 3) (sSeq (sSet 1 (mOp2 (ints2 modI) (mVal (mOp2 dAdd (mAt 1) (mAt 3))) (mVal (mC (.int 65521)))))
  (sSet 2 (mOp2 (ints2 modI) (mVal (mOp2 dAdd (mAt 2) (mAt 1))) (mVal (mC (.int 65521)))))) (ys.map fun y => .fr (.int y)) [a, .s false (.fr (.int one)), .s false (.fr (.int two)), t] =
    .nx [a, .s false (.fr (.int ((ys.foldl (fun (q : Int × Int) y => ((q.1 + y) % 65521, (q.2 + (q.1 + y) % 65521) % 65521)) (one, two)).1))), .s false (.fr (.int ((ys.foldl (fun (q : Int × Int) y => ((q.1 + y) % 65521, (q.2 + (q.1 + y) % 65521) % 65521)) (one, two)).2))), t']
  | [], one, two, t, ht => ⟨t, rfl⟩
  | y :: ys, one, two, t, ht => by
    obtain ⟨t', h2⟩ := print_loop (a := a) (b := b) ys ((one + y) % 65521) ((two + (one + y) % 65521) % 65521) (.s false (.fr (.int y))) (fun _ h => by cases h)
    refine ⟨t', ?_⟩
    rw [List.map_cons, iter_cons (δ1 := [a, .s false (.fr (.int one)), .s false (.fr (.int two)), .s false (.fr (.int y))])]
    · have e : (0 : Int) < 65521 := by omega
      simp -implicitDefEqProofs only [e, bind_ok, bind_er, bind_bad, thenS_ok, thenS_er, thenS_bad, then_nx, then_rt, then_bk, then_ct, then_er, fin_some, ofO_some, e_sSeq, e_sIf, e_sRt, e_sSet, e_sto, e_sAug, e_sFor, e_sPar, e_sAsg, e_sEx, e_sNx, e_sRaise, e_sItem, e_sAppend, e_sRtN, e_sBk, e_sCt, e_mC, e_mRd, e_mFz, e_frz, e_mMv, e_mVal, e_mAt, e_mOp2, e_mOp1, e_tst, e_cond, e_mT, e_mCh, e_mNil, e_mCons, e_mCallN, e_mDisp, e_stoO, e_stTup, e_mRange, e_lstAt, e_callIt, e_mCallF, e_mNoP, e_mSomeP, e_mSl, e_mWalk, e_mComp, e_mGen, e_mTold, e_sTry, e_capsOk, e_dLt, e_dLe, e_dGt, e_dGe, e_dSub, e_dMax2, e_dMin2, e_mNot, e_mB, e_mJoin, Pv.mFun, Pv.entry, Pv.argS, Pv.finals, Pv.see, Pv.sees, Pv.vals, Pv.takes, Pv.pinOf, Pv.back, Pv.atsOk, Pv.allFr, Pv.ds, Pv.mkT, Pv.mkL, Pv.fz, Pv.kidVs, Pv.stAll, Pv.rangeD1, Pv.rangeD2, Pv.markOf, Pv.g1, Pv.g2, Pv.dLen, Pv.dAbs, Pv.dInt, Pv.dTup, Pv.dList, Pv.dAdd, Pv.dMul, Pv.dNeg, Pv.ints2, DV.d, Pv.modI_p, Pv.divI_p, Pv.idivI_p, Pv.imulI_r, Pv.mulI_p, Pv.powI_p, Pv.dSl, Pv.fzs, Pv.walkD, Pv.dRev, Pv.dOrd, Pv.kids, Pv.kidsL, Pv.kidsT, Pv.items, Pv.dIx, Pv.dEq, Pv.dNe, Pv.dIn, Pv.dNotIn, Pv.eqD_int, Pv.eqD_str, Pv.eqD_bl, Pv.kAny, Pv.kTupG, Pv.anyD, Pv.gSl, sz0, sy0, sz1, sy1, sz2, sy2, sz3, sy3, sz4, sy4, sz5, sy5, sz6, sy6, sz7, sy7, sz8, sy8, sz9, sy9, sz10, sy10, sz11, sy11, sz12, sy12, decide_true, decide_false, decide_not, ite_true, ite_false, not_true_eq_false, not_false_eq_true, List.map_nil, List.map_cons, List.length_nil, List.length_cons, List.replicate_succ, List.replicate_zero, List.nil_append, List.cons_append, List.append_nil, List.getElem?_cons_zero, List.getElem?_cons_succ, List.getElem?_nil, List.set_cons_zero, List.set_cons_succ, List.length_replicate, Option.map_some, Option.map_none, Option.bind_some, Option.bind_none, Nat.sub_self, Nat.reduceSub, Nat.reduceAdd, Nat.zero_add, eq_self, List.contains_cons, List.contains_nil, Bool.and_true, Bool.true_and, Bool.or_true, Bool.true_or, Bool.or_false, Bool.false_or, Bool.and_false, Bool.false_and, Bool.and_self, beq_self_eq_true, Nat.reduceBEq, if_true, if_false, Bool.false_eq_true, reduceIte, reduceCtorEq, decide_eq_true_eq, Bool.not_true, Bool.not_false]
      exact h2
    · cases t with
      | un => rfl
      | s p x => cases p with
        | true => exact absurd rfl (ht x)
        | false => rfl
      | lm is => rfl
end K01

set_option Elab.async false
set_option linter.all false
set_option maxRecDepth 100000
set_option maxHeartbeats 4000000
namespace K01
open Pv
theorem bytes_print_fr {ys : List Int} (h : bytes ys) : ∃ q : Int × Int, q = ys.foldl (fun (q : Int × Int) y => ((q.1 + y) % 65521, (q.2 + (q.1 + y) % 65521) % 65521)) (1, 0) ∧ m_bytes_print [.fr (.tup (ys.map .int))] = .ok (.fr (.int (q.2 * 65536 + q.1))) [.un] := by
  obtain ⟨t', e⟩ := print_loop (a := .s false (.fr (.tup (ys.map .int)))) (b := .un) ys 1 0 .un (fun _ h => by cases h)
  refine ⟨_, rfl, ?_⟩
  have a1 := check_fr h
  generalize ys.foldl (fun (q : Int × Int) y => ((q.1 + y) % 65521, (q.2 + (q.1 + y) % 65521) % 65521)) (1, 0) = q at *
  have a2 : okMul q.2 65536 = true := okMul_r (by decide)
  unfold m_bytes_print b_bytes_print
  simp -implicitDefEqProofs only [a1, a2, e, frs, List.all_nil, List.all_cons, bind_ok, bind_er, bind_bad, thenS_ok, thenS_er, thenS_bad, then_nx, then_rt, then_bk, then_ct, then_er, fin_some, ofO_some, e_sSeq, e_sIf, e_sRt, e_sSet, e_sto, e_sAug, e_sFor, e_sPar, e_sAsg, e_sEx, e_sNx, e_sRaise, e_sItem, e_sAppend, e_sRtN, e_sBk, e_sCt, e_mC, e_mRd, e_mFz, e_frz, e_mMv, e_mVal, e_mAt, e_mOp2, e_mOp1, e_tst, e_cond, e_mT, e_mCh, e_mNil, e_mCons, e_mCallN, e_mDisp, e_stoO, e_stTup, e_mRange, e_lstAt, e_callIt, e_mCallF, e_mNoP, e_mSomeP, e_mSl, e_mWalk, e_mComp, e_mGen, e_mTold, e_sTry, e_capsOk, e_dLt, e_dLe, e_dGt, e_dGe, e_dSub, e_dMax2, e_dMin2, e_mNot, e_mB, e_mJoin, Pv.mFun, Pv.entry, Pv.argS, Pv.finals, Pv.see, Pv.sees, Pv.vals, Pv.takes, Pv.pinOf, Pv.back, Pv.atsOk, Pv.allFr, Pv.ds, Pv.mkT, Pv.mkL, Pv.fz, Pv.kidVs, Pv.stAll, Pv.rangeD1, Pv.rangeD2, Pv.markOf, Pv.g1, Pv.g2, Pv.dLen, Pv.dAbs, Pv.dInt, Pv.dTup, Pv.dList, Pv.dAdd, Pv.dMul, Pv.dNeg, Pv.ints2, DV.d, Pv.modI_p, Pv.divI_p, Pv.idivI_p, Pv.imulI_r, Pv.mulI_p, Pv.powI_p, Pv.dSl, Pv.fzs, Pv.walkD, Pv.dRev, Pv.dOrd, Pv.kids, Pv.kidsL, Pv.kidsT, Pv.items, Pv.dIx, Pv.dEq, Pv.dNe, Pv.dIn, Pv.dNotIn, Pv.eqD_int, Pv.eqD_str, Pv.eqD_bl, Pv.kAny, Pv.kTupG, Pv.anyD, Pv.gSl, sz0, sy0, sz1, sy1, sz2, sy2, sz3, sy3, sz4, sy4, sz5, sy5, sz6, sy6, sz7, sy7, sz8, sy8, sz9, sy9, sz10, sy10, sz11, sy11, sz12, sy12, decide_true, decide_false, decide_not, ite_true, ite_false, not_true_eq_false, not_false_eq_true, List.map_nil, List.map_cons, List.length_nil, List.length_cons, List.replicate_succ, List.replicate_zero, List.nil_append, List.cons_append, List.append_nil, List.getElem?_cons_zero, List.getElem?_cons_succ, List.getElem?_nil, List.set_cons_zero, List.set_cons_succ, List.length_replicate, Option.map_some, Option.map_none, Option.bind_some, Option.bind_none, Nat.sub_self, Nat.reduceSub, Nat.reduceAdd, Nat.zero_add, eq_self, List.contains_cons, List.contains_nil, Bool.and_true, Bool.true_and, Bool.or_true, Bool.true_or, Bool.or_false, Bool.false_or, Bool.and_false, Bool.false_and, Bool.and_self, beq_self_eq_true, Nat.reduceBEq, if_true, if_false, Bool.false_eq_true, reduceIte, reduceCtorEq, decide_eq_true_eq, Bool.not_true, Bool.not_false]
end K01

set_option Elab.async false
set_option linter.all false
set_option maxRecDepth 100000
set_option maxHeartbeats 4000000
namespace K01
open Pv
def sg : List Nat := (match mSIGNS [] with
  | .ok (.fr (.str s)) _ => s
  | _ => [])
theorem sg_eq : mSIGNS = mC (.str sg) := rfl
def signs (cs : List Nat) : Prop := ∀ c ∈ cs, c ∈ sg
theorem inD_c (c : Nat) (s : List Nat) : inD (.str [c]) (.str s) = some (decide (c ∈ s)) := rfl
theorem signs_gen {cs : List Nat} (h : signs cs) : genIt (stoO 0) (mT true) (mOp2 dNotIn (mAt 0) (mVal (mSIGNS))) (cs.map fun c => .fr (.str [c])) [.un] = ((cs.map fun c => DV.fr (D.str [c])).map fun _ => D.bl false, true) := by
  rw [sg_eq]
  refine genIt_all (P := fun δ => ∃ z, δ = [z] ∧ ∀ x, z ≠ .s true x) (fun x hx δ hp => ?_) ⟨.un, rfl, fun _ h => by cases h⟩
  obtain ⟨z, rfl, hz⟩ := hp
  obtain ⟨c, hc, rfl⟩ := List.mem_map.mp hx
  have h0 := h c hc
  refine ⟨[.s false (.fr (.str [c]))], [.s false (.fr (.str [c]))], [.s false (.fr (.str [c]))], .fr (.bl false), ?_, rfl, ?_, rfl, _, rfl, fun _ h => by cases h⟩
  · cases z with
    | un => rfl
    | s p x => cases p with
      | true => exact absurd rfl (hz x)
      | false => rfl
    | lm is => rfl
  · generalize sg = s at *
    simp -implicitDefEqProofs only [h0, inD_c, bind_ok, bind_er, bind_bad, thenS_ok, thenS_er, thenS_bad, then_nx, then_rt, then_bk, then_ct, then_er, fin_some, ofO_some, e_sSeq, e_sIf, e_sRt, e_sSet, e_sto, e_sAug, e_sFor, e_sPar, e_sAsg, e_sEx, e_sNx, e_sRaise, e_sItem, e_sAppend, e_sRtN, e_sBk, e_sCt, e_mC, e_mRd, e_mFz, e_frz, e_mMv, e_mVal, e_mAt, e_mOp2, e_mOp1, e_tst, e_cond, e_mT, e_mCh, e_mNil, e_mCons, e_mCallN, e_mDisp, e_stoO, e_stTup, e_mRange, e_lstAt, e_callIt, e_mCallF, e_mNoP, e_mSomeP, e_mSl, e_mWalk, e_mComp, e_mGen, e_mTold, e_sTry, e_capsOk, e_dLt, e_dLe, e_dGt, e_dGe, e_dSub, e_dMax2, e_dMin2, e_mNot, e_mB, e_mJoin, Pv.mFun, Pv.entry, Pv.argS, Pv.finals, Pv.see, Pv.sees, Pv.vals, Pv.takes, Pv.pinOf, Pv.back, Pv.atsOk, Pv.allFr, Pv.ds, Pv.mkT, Pv.mkL, Pv.fz, Pv.kidVs, Pv.stAll, Pv.rangeD1, Pv.rangeD2, Pv.markOf, Pv.g1, Pv.g2, Pv.dLen, Pv.dAbs, Pv.dInt, Pv.dTup, Pv.dList, Pv.dAdd, Pv.dMul, Pv.dNeg, Pv.ints2, DV.d, Pv.modI_p, Pv.divI_p, Pv.idivI_p, Pv.imulI_r, Pv.mulI_p, Pv.powI_p, Pv.dSl, Pv.fzs, Pv.walkD, Pv.dRev, Pv.dOrd, Pv.kids, Pv.kidsL, Pv.kidsT, Pv.items, Pv.dIx, Pv.dEq, Pv.dNe, Pv.dIn, Pv.dNotIn, Pv.eqD_int, Pv.eqD_str, Pv.eqD_bl, Pv.kAny, Pv.kTupG, Pv.anyD, Pv.gSl, sz0, sy0, sz1, sy1, sz2, sy2, sz3, sy3, sz4, sy4, sz5, sy5, sz6, sy6, sz7, sy7, sz8, sy8, sz9, sy9, sz10, sy10, sz11, sy11, sz12, sy12, decide_true, decide_false, decide_not, ite_true, ite_false, not_true_eq_false, not_false_eq_true, List.map_nil, List.map_cons, List.length_nil, List.length_cons, List.replicate_succ, List.replicate_zero, List.nil_append, List.cons_append, List.append_nil, List.getElem?_cons_zero, List.getElem?_cons_succ, List.getElem?_nil, List.set_cons_zero, List.set_cons_succ, List.length_replicate, Option.map_some, Option.map_none, Option.bind_some, Option.bind_none, Nat.sub_self, Nat.reduceSub, Nat.reduceAdd, Nat.zero_add, eq_self, List.contains_cons, List.contains_nil, Bool.and_true, Bool.true_and, Bool.or_true, Bool.true_or, Bool.or_false, Bool.false_or, Bool.and_false, Bool.false_and, Bool.and_self, beq_self_eq_true, Nat.reduceBEq, if_true, if_false, Bool.false_eq_true, reduceIte, reduceCtorEq, decide_eq_true_eq, Bool.not_true, Bool.not_false]
theorem ord_gen (cs : List Nat) : genIt (stoO 0) (mT true) (mCallN (g1 dOrd) (mCons (mAt 0) (mNil))) (cs.map fun c => .fr (.str [c])) [.un] = ((cs.map fun c => DV.fr (D.str [c])).map fun x => match x with
    | .fr (.str [c]) => D.int c
    | _ => .non, true) := by
  refine genIt_all (P := fun δ => ∃ z, δ = [z] ∧ ∀ x, z ≠ .s true x) (fun x hx δ hp => ?_) ⟨.un, rfl, fun _ h => by cases h⟩
  obtain ⟨z, rfl, hz⟩ := hp
  obtain ⟨c, hc, rfl⟩ := List.mem_map.mp hx
  refine ⟨[.s false (.fr (.str [c]))], [.s false (.fr (.str [c]))], [.s false (.fr (.str [c]))], .fr (.int c), ?_, rfl, rfl, rfl, _, rfl, fun _ h => by cases h⟩
  cases z with
  | un => rfl
  | s p x => cases p with
    | true => exact absurd rfl (hz x)
    | false => rfl
  | lm is => rfl
theorem any_no2 (cs : List Nat) : Pv.anyD ((cs.map fun c => DV.fr (D.str [c])).map fun _ => D.bl false) true = some false := anyD_no fun d hd => by
  obtain ⟨_, _, rfl⟩ := List.mem_map.mp hd
  rfl
theorem ord_map (cs : List Nat) : ((cs.map fun c => DV.fr (D.str [c])).map fun x => match x with
    | .fr (.str [c]) => D.int c
    | _ => .non) = (cs.map fun c : Nat => (c : Int)).map D.int := by
  rw [List.map_map, List.map_map]
  rfl
theorem text_bytes_eq {cs : List Nat} (h : signs cs) (hl : cs.length ≤ PySem.sizeLine) : m_text_bytes [.fr (.str cs)] = .ok (.fr (.tup ((cs.map fun c : Nat => (c : Int)).map .int))) [.un] := by
  have e1 := signs_gen h
  have e2 := any_no2 cs
  have e3 := ord_gen cs
  rw [ord_map] at e3
  have a1 : ((cs.map fun c : Nat => (c : Int)).map D.int).length ≤ PySem.sizeLine := by simpa using hl
  unfold m_text_bytes b_text_bytes
  generalize (cs.map fun c : Nat => (c : Int)).map D.int = L at *
  simp -implicitDefEqProofs only [e1, e2, e3, a1, List.all_nil, and_self, bind_ok, bind_er, bind_bad, thenS_ok, thenS_er, thenS_bad, then_nx, then_rt, then_bk, then_ct, then_er, fin_some, ofO_some, e_sSeq, e_sIf, e_sRt, e_sSet, e_sto, e_sAug, e_sFor, e_sPar, e_sAsg, e_sEx, e_sNx, e_sRaise, e_sItem, e_sAppend, e_sRtN, e_sBk, e_sCt, e_mC, e_mRd, e_mFz, e_frz, e_mMv, e_mVal, e_mAt, e_mOp2, e_mOp1, e_tst, e_cond, e_mT, e_mCh, e_mNil, e_mCons, e_mCallN, e_mDisp, e_stoO, e_stTup, e_mRange, e_lstAt, e_callIt, e_mCallF, e_mNoP, e_mSomeP, e_mSl, e_mWalk, e_mComp, e_mGen, e_mTold, e_sTry, e_capsOk, e_dLt, e_dLe, e_dGt, e_dGe, e_dSub, e_dMax2, e_dMin2, e_mNot, e_mB, e_mJoin, Pv.mFun, Pv.entry, Pv.argS, Pv.finals, Pv.see, Pv.sees, Pv.vals, Pv.takes, Pv.pinOf, Pv.back, Pv.atsOk, Pv.allFr, Pv.ds, Pv.mkT, Pv.mkL, Pv.fz, Pv.kidVs, Pv.stAll, Pv.rangeD1, Pv.rangeD2, Pv.markOf, Pv.g1, Pv.g2, Pv.dLen, Pv.dAbs, Pv.dInt, Pv.dTup, Pv.dList, Pv.dAdd, Pv.dMul, Pv.dNeg, Pv.ints2, DV.d, Pv.modI_p, Pv.divI_p, Pv.idivI_p, Pv.imulI_r, Pv.mulI_p, Pv.powI_p, Pv.dSl, Pv.fzs, Pv.walkD, Pv.dRev, Pv.dOrd, Pv.kids, Pv.kidsL, Pv.kidsT, Pv.items, Pv.dIx, Pv.dEq, Pv.dNe, Pv.dIn, Pv.dNotIn, Pv.eqD_int, Pv.eqD_str, Pv.eqD_bl, Pv.kAny, Pv.kTupG, Pv.anyD, Pv.gSl, sz0, sy0, sz1, sy1, sz2, sy2, sz3, sy3, sz4, sy4, sz5, sy5, sz6, sy6, sz7, sy7, sz8, sy8, sz9, sy9, sz10, sy10, sz11, sy11, sz12, sy12, decide_true, decide_false, decide_not, ite_true, ite_false, not_true_eq_false, not_false_eq_true, List.map_nil, List.map_cons, List.length_nil, List.length_cons, List.replicate_succ, List.replicate_zero, List.nil_append, List.cons_append, List.append_nil, List.getElem?_cons_zero, List.getElem?_cons_succ, List.getElem?_nil, List.set_cons_zero, List.set_cons_succ, List.length_replicate, Option.map_some, Option.map_none, Option.bind_some, Option.bind_none, Nat.sub_self, Nat.reduceSub, Nat.reduceAdd, Nat.zero_add, eq_self, List.contains_cons, List.contains_nil, Bool.and_true, Bool.true_and, Bool.or_true, Bool.true_or, Bool.or_false, Bool.false_or, Bool.and_false, Bool.false_and, Bool.and_self, beq_self_eq_true, Nat.reduceBEq, if_true, if_false, Bool.false_eq_true, reduceIte, reduceCtorEq, decide_eq_true_eq, Bool.not_true, Bool.not_false]
end K01

set_option Elab.async false
set_option linter.all false
set_option maxRecDepth 100000
set_option maxHeartbeats 4000000
namespace K01
open Pv
theorem tprint_loop {a : Sl} : ∀ (ys : List Int) (v : Int) (t : Sl), (∀ x, t ≠ .s true x) → ∃ t', iterS (stoO 2) (sSet 1 (mOp2 (ints2 modI) (mVal (mOp2 dAdd (mVal (mOp2 dMul (mAt 1) (mVal (mC (.int 33))))) (mAt 2))) (mVal (mC (.int 4294967296))))) (ys.map fun y => .fr (.int y)) [a, .s false (.fr (.int v)), t] =
    .nx [a, .s false (.fr (.int (ys.foldl (fun v y => (v * 33 + y) % 4294967296) v))), t']
  | [], v, t, ht => ⟨t, rfl⟩
  | y :: ys, v, t, ht => by
    obtain ⟨t', h2⟩ := tprint_loop (a := a) ys ((v * 33 + y) % 4294967296) (.s false (.fr (.int y))) (fun _ h => by cases h)
    refine ⟨t', ?_⟩
    rw [List.map_cons, iter_cons (δ1 := [a, .s false (.fr (.int v)), .s false (.fr (.int y))])]
    · have e : (0 : Int) < 4294967296 := by omega
      have e2 : okMul v 33 = true := okMul_r (by decide)
      simp -implicitDefEqProofs only [e, e2, bind_ok, bind_er, bind_bad, thenS_ok, thenS_er, thenS_bad, then_nx, then_rt, then_bk, then_ct, then_er, fin_some, ofO_some, e_sSeq, e_sIf, e_sRt, e_sSet, e_sto, e_sAug, e_sFor, e_sPar, e_sAsg, e_sEx, e_sNx, e_sRaise, e_sItem, e_sAppend, e_sRtN, e_sBk, e_sCt, e_mC, e_mRd, e_mFz, e_frz, e_mMv, e_mVal, e_mAt, e_mOp2, e_mOp1, e_tst, e_cond, e_mT, e_mCh, e_mNil, e_mCons, e_mCallN, e_mDisp, e_stoO, e_stTup, e_mRange, e_lstAt, e_callIt, e_mCallF, e_mNoP, e_mSomeP, e_mSl, e_mWalk, e_mComp, e_mGen, e_mTold, e_sTry, e_capsOk, e_dLt, e_dLe, e_dGt, e_dGe, e_dSub, e_dMax2, e_dMin2, e_mNot, e_mB, e_mJoin, Pv.mFun, Pv.entry, Pv.argS, Pv.finals, Pv.see, Pv.sees, Pv.vals, Pv.takes, Pv.pinOf, Pv.back, Pv.atsOk, Pv.allFr, Pv.ds, Pv.mkT, Pv.mkL, Pv.fz, Pv.kidVs, Pv.stAll, Pv.rangeD1, Pv.rangeD2, Pv.markOf, Pv.g1, Pv.g2, Pv.dLen, Pv.dAbs, Pv.dInt, Pv.dTup, Pv.dList, Pv.dAdd, Pv.dMul, Pv.dNeg, Pv.ints2, DV.d, Pv.modI_p, Pv.divI_p, Pv.idivI_p, Pv.imulI_r, Pv.mulI_p, Pv.powI_p, Pv.dSl, Pv.fzs, Pv.walkD, Pv.dRev, Pv.dOrd, Pv.kids, Pv.kidsL, Pv.kidsT, Pv.items, Pv.dIx, Pv.dEq, Pv.dNe, Pv.dIn, Pv.dNotIn, Pv.eqD_int, Pv.eqD_str, Pv.eqD_bl, Pv.kAny, Pv.kTupG, Pv.anyD, Pv.gSl, sz0, sy0, sz1, sy1, sz2, sy2, sz3, sy3, sz4, sy4, sz5, sy5, sz6, sy6, sz7, sy7, sz8, sy8, sz9, sy9, sz10, sy10, sz11, sy11, sz12, sy12, decide_true, decide_false, decide_not, ite_true, ite_false, not_true_eq_false, not_false_eq_true, List.map_nil, List.map_cons, List.length_nil, List.length_cons, List.replicate_succ, List.replicate_zero, List.nil_append, List.cons_append, List.append_nil, List.getElem?_cons_zero, List.getElem?_cons_succ, List.getElem?_nil, List.set_cons_zero, List.set_cons_succ, List.length_replicate, Option.map_some, Option.map_none, Option.bind_some, Option.bind_none, Nat.sub_self, Nat.reduceSub, Nat.reduceAdd, Nat.zero_add, eq_self, List.contains_cons, List.contains_nil, Bool.and_true, Bool.true_and, Bool.or_true, Bool.true_or, Bool.or_false, Bool.false_or, Bool.and_false, Bool.false_and, Bool.and_self, beq_self_eq_true, Nat.reduceBEq, if_true, if_false, Bool.false_eq_true, reduceIte, reduceCtorEq, decide_eq_true_eq, Bool.not_true, Bool.not_false]
      exact h2
    · cases t with
      | un => rfl
      | s p x => cases p with
        | true => exact absurd rfl (ht x)
        | false => rfl
      | lm is => rfl
theorem text_print_eq {cs : List Nat} (h : signs cs) (hl : cs.length ≤ PySem.sizeLine) : m_text_print [.fr (.str cs)] = .ok (.fr (.int ((cs.map fun c : Nat => (c : Int)).foldl (fun v y => (v * 33 + y) % 4294967296) 5381))) [.un] := by
  have e1 := text_bytes_eq h hl
  obtain ⟨t', e2⟩ := tprint_loop (a := .s false (.fr (.str cs))) (cs.map fun c : Nat => (c : Int)) 5381 .un (fun _ h => by cases h)
  unfold m_text_print b_text_print
  generalize (cs.map fun c : Nat => (c : Int)) = ys at *
  simp -implicitDefEqProofs only [e1, e2, frs, bind_ok, bind_er, bind_bad, thenS_ok, thenS_er, thenS_bad, then_nx, then_rt, then_bk, then_ct, then_er, fin_some, ofO_some, e_sSeq, e_sIf, e_sRt, e_sSet, e_sto, e_sAug, e_sFor, e_sPar, e_sAsg, e_sEx, e_sNx, e_sRaise, e_sItem, e_sAppend, e_sRtN, e_sBk, e_sCt, e_mC, e_mRd, e_mFz, e_frz, e_mMv, e_mVal, e_mAt, e_mOp2, e_mOp1, e_tst, e_cond, e_mT, e_mCh, e_mNil, e_mCons, e_mCallN, e_mDisp, e_stoO, e_stTup, e_mRange, e_lstAt, e_callIt, e_mCallF, e_mNoP, e_mSomeP, e_mSl, e_mWalk, e_mComp, e_mGen, e_mTold, e_sTry, e_capsOk, e_dLt, e_dLe, e_dGt, e_dGe, e_dSub, e_dMax2, e_dMin2, e_mNot, e_mB, e_mJoin, Pv.mFun, Pv.entry, Pv.argS, Pv.finals, Pv.see, Pv.sees, Pv.vals, Pv.takes, Pv.pinOf, Pv.back, Pv.atsOk, Pv.allFr, Pv.ds, Pv.mkT, Pv.mkL, Pv.fz, Pv.kidVs, Pv.stAll, Pv.rangeD1, Pv.rangeD2, Pv.markOf, Pv.g1, Pv.g2, Pv.dLen, Pv.dAbs, Pv.dInt, Pv.dTup, Pv.dList, Pv.dAdd, Pv.dMul, Pv.dNeg, Pv.ints2, DV.d, Pv.modI_p, Pv.divI_p, Pv.idivI_p, Pv.imulI_r, Pv.mulI_p, Pv.powI_p, Pv.dSl, Pv.fzs, Pv.walkD, Pv.dRev, Pv.dOrd, Pv.kids, Pv.kidsL, Pv.kidsT, Pv.items, Pv.dIx, Pv.dEq, Pv.dNe, Pv.dIn, Pv.dNotIn, Pv.eqD_int, Pv.eqD_str, Pv.eqD_bl, Pv.kAny, Pv.kTupG, Pv.anyD, Pv.gSl, sz0, sy0, sz1, sy1, sz2, sy2, sz3, sy3, sz4, sy4, sz5, sy5, sz6, sy6, sz7, sy7, sz8, sy8, sz9, sy9, sz10, sy10, sz11, sy11, sz12, sy12, decide_true, decide_false, decide_not, ite_true, ite_false, not_true_eq_false, not_false_eq_true, List.map_nil, List.map_cons, List.length_nil, List.length_cons, List.replicate_succ, List.replicate_zero, List.nil_append, List.cons_append, List.append_nil, List.getElem?_cons_zero, List.getElem?_cons_succ, List.getElem?_nil, List.set_cons_zero, List.set_cons_succ, List.length_replicate, Option.map_some, Option.map_none, Option.bind_some, Option.bind_none, Nat.sub_self, Nat.reduceSub, Nat.reduceAdd, Nat.zero_add, eq_self, List.contains_cons, List.contains_nil, Bool.and_true, Bool.true_and, Bool.or_true, Bool.true_or, Bool.or_false, Bool.false_or, Bool.and_false, Bool.false_and, Bool.and_self, beq_self_eq_true, Nat.reduceBEq, if_true, if_false, Bool.false_eq_true, reduceIte, reduceCtorEq, decide_eq_true_eq, Bool.not_true, Bool.not_false]
end K01

set_option Elab.async false
set_option linter.all false
set_option maxRecDepth 100000
set_option maxHeartbeats 4000000
namespace K01
open Pv
theorem sign_all : sg.map (fun c : Nat => m_sign_of [.fr (.int c)]) = sg.map fun c : Nat => .ok (.fr (.str [c])) [.un] := by kernel_rfl
theorem sign_of_eq (c : Nat) (h : c ∈ sg) : m_sign_of [.fr (.int c)] = .ok (.fr (.str [c])) [.un] := List.map_inj_left.mp sign_all c h
end K01

set_option Elab.async false
set_option linter.all false
set_option maxRecDepth 100000
set_option maxHeartbeats 4000000
namespace K01
open Pv
theorem join_one : ∀ cs : List Nat, TL.joinL [] (cs.map fun c => [c]) = cs
  | [] => rfl
  | [c] => rfl
  | c :: d :: cs => by
    have := join_one (d :: cs)
    simp only [List.map_cons] at this ⊢
    rw [TL.joinL, this]; rfl
theorem strs_one : ∀ cs : List Nat, strsD (cs.map fun c => D.str [c]) = some (cs.map fun c => [c])
  | [] => rfl
  | c :: cs => by
    rw [List.map_cons, strsD, strs_one cs]; rfl
theorem flat_one : ∀ cs : List Nat, flatDs (cs.map fun c => D.str [c]) = some (cs.map fun c => L2.V.str (strV [c]))
  | [] => rfl
  | c :: cs => by
    rw [List.map_cons, flatDs, flat_one cs]; rfl
theorem inV_one (cs : List Nat) : L2.inV (.str (strV [])) (cs.map fun c => L2.V.str (strV [c])) = false := by
  unfold L2.inV
  rw [List.any_eq_false]
  intro v hv
  obtain ⟨c, _, rfl⟩ := List.mem_map.mp hv
  simp [L2.eqV, strV]
theorem no_empty (o : Ow) (cs : List Nat) : inD (.str []) (.lst o (cs.map fun c => D.str [c])) = some false := by
  simp only [inD, items, flatD, flat_one, inV_one, Option.bind_some, Option.map_some]
theorem join_eq (o : Ow) {cs : List Nat} (hl : cs.length ≤ 1000000) : dJoin [] (.ow (.lst o (cs.map fun c => D.str [c]))) = some (.fr (.str cs)) := by
  unfold dJoin
  simp only [DV.d, items, strs_one, Option.bind_some, join_one]
  rw [if_pos]
  have : ((cs.map fun c => [c]).map (·.length)).sum = cs.length := by
    induction cs with
    | nil => rfl
    | cons c cs ih => simp at hl ih ⊢; have := ih (by omega); omega
  rw [this]
  simp; omega
end K01

set_option Elab.async false
set_option linter.all false
set_option maxRecDepth 100000
set_option maxHeartbeats 4000000
namespace K01
open Pv
theorem signs_comp {A : Sl} {cs : List Nat} (h : signs cs) (hl : cs.length ≤ 1000) : compIt (stoO 2) (mT true) (mCallF [2] 1 m_sign_of (mCons (mAt 2) (mNil))) [2] ((cs.map fun c : Nat => (c : Int)).map fun y => .fr (.int y)) [A, .un, .un] [] = .ok ((cs.map fun c => D.str [c]).map .fr) [A, .un, .un] := by
  have r := compIt_all (s := stoO 2) (ft := mT true) (fe := mCallF [2] 1 m_sign_of (mCons (mAt 2) (mNil))) (vs := [2]) (P := fun δ => δ = [A, .un, .un]) (g := fun x => match x with
    | .fr (.int y) => .fr (.str [y.toNat])
    | _ => .fr .non) (xs := (cs.map fun c : Nat => (c : Int)).map fun y => .fr (.int y)) (δ := [A, .un, .un]) (acc := []) (fun x hx δ hp => by
      subst hp
      obtain ⟨y, hy, rfl⟩ := List.mem_map.mp hx
      obtain ⟨c, hc, rfl⟩ := List.mem_map.mp hy
      have e := sign_of_eq c (h c hc)
      refine ⟨[A, .un, .s false (.fr (.int (c : Int)))], [A, .un, .s false (.fr (.int (c : Int)))], [A, .un, .s false (.fr (.int (c : Int)))], rfl, rfl, ?_, rfl⟩
      simp -implicitDefEqProofs only [e, bind_ok, bind_er, bind_bad, thenS_ok, thenS_er, thenS_bad, then_nx, then_rt, then_bk, then_ct, then_er, fin_some, ofO_some, e_sSeq, e_sIf, e_sRt, e_sSet, e_sto, e_sAug, e_sFor, e_sPar, e_sAsg, e_sEx, e_sNx, e_sRaise, e_sItem, e_sAppend, e_sRtN, e_sBk, e_sCt, e_mC, e_mRd, e_mFz, e_frz, e_mMv, e_mVal, e_mAt, e_mOp2, e_mOp1, e_tst, e_cond, e_mT, e_mCh, e_mNil, e_mCons, e_mCallN, e_mDisp, e_stoO, e_stTup, e_mRange, e_lstAt, e_callIt, e_mCallF, e_mNoP, e_mSomeP, e_mSl, e_mWalk, e_mComp, e_mGen, e_mTold, e_sTry, e_capsOk, e_dLt, e_dLe, e_dGt, e_dGe, e_dSub, e_dMax2, e_dMin2, e_mNot, e_mB, e_mJoin, Pv.mFun, Pv.entry, Pv.argS, Pv.finals, Pv.see, Pv.sees, Pv.vals, Pv.takes, Pv.pinOf, Pv.back, Pv.atsOk, Pv.allFr, Pv.ds, Pv.mkT, Pv.mkL, Pv.fz, Pv.kidVs, Pv.stAll, Pv.rangeD1, Pv.rangeD2, Pv.markOf, Pv.g1, Pv.g2, Pv.dLen, Pv.dAbs, Pv.dInt, Pv.dTup, Pv.dList, Pv.dAdd, Pv.dMul, Pv.dNeg, Pv.ints2, DV.d, Pv.modI_p, Pv.divI_p, Pv.idivI_p, Pv.imulI_r, Pv.mulI_p, Pv.powI_p, Pv.dSl, Pv.fzs, Pv.walkD, Pv.dRev, Pv.dOrd, Pv.kids, Pv.kidsL, Pv.kidsT, Pv.items, Pv.dIx, Pv.dEq, Pv.dNe, Pv.dIn, Pv.dNotIn, Pv.eqD_int, Pv.eqD_str, Pv.eqD_bl, Pv.kAny, Pv.kTupG, Pv.anyD, Pv.gSl, sz0, sy0, sz1, sy1, sz2, sy2, sz3, sy3, sz4, sy4, sz5, sy5, sz6, sy6, sz7, sy7, sz8, sy8, sz9, sy9, sz10, sy10, sz11, sy11, sz12, sy12, decide_true, decide_false, decide_not, ite_true, ite_false, not_true_eq_false, not_false_eq_true, List.map_nil, List.map_cons, List.length_nil, List.length_cons, List.replicate_succ, List.replicate_zero, List.nil_append, List.cons_append, List.append_nil, List.getElem?_cons_zero, List.getElem?_cons_succ, List.getElem?_nil, List.set_cons_zero, List.set_cons_succ, List.length_replicate, Option.map_some, Option.map_none, Option.bind_some, Option.bind_none, Nat.sub_self, Nat.reduceSub, Nat.reduceAdd, Nat.zero_add, eq_self, List.contains_cons, List.contains_nil, Bool.and_true, Bool.true_and, Bool.or_true, Bool.true_or, Bool.or_false, Bool.false_or, Bool.and_false, Bool.false_and, Bool.and_self, beq_self_eq_true, Nat.reduceBEq, if_true, if_false, Bool.false_eq_true, reduceIte, reduceCtorEq, decide_eq_true_eq, Bool.not_true, Bool.not_false]
      rfl) rfl (by simp; exact Nat.le_trans hl (by decide))
  obtain ⟨δ', rfl, e⟩ := r
  rw [e, List.nil_append, List.map_map, List.map_map, List.map_map]
  rfl
theorem allFr_map (ds : List D) : allFr (ds.map .fr) = true := by
  induction ds with
  | nil => rfl
  | cons d ds ih => simp only [List.map_cons, allFr]; exact ih
theorem ds_map (xs : List D) : ds (xs.map .fr) = xs := by
  unfold ds
  rw [List.map_map]
  exact List.map_id _
theorem bytes_text_eq {cs : List Nat} (h : signs cs) (hl : cs.length ≤ 1000) : m_bytes_text [.ow (.lst .own ((cs.map fun c : Nat => (c : Int)).map .int))] = .ok (.fr (.str cs)) [.s true (.fr (.lst .fz ((cs.map fun c : Nat => (c : Int)).map .int)))] := by
  have e1 := signs_comp (A := .s true (.fr (.lst .fz ((cs.map fun c : Nat => (c : Int)).map .int)))) h hl
  have e2 := allFr_map (cs.map fun c => D.str [c])
  have e3 := ds_map (cs.map fun c => D.str [c])
  have e4 := no_empty .own cs
  have e5 := join_eq .own (cs := cs) (by omega)
  unfold m_bytes_text b_bytes_text
  generalize (cs.map fun c => D.str [c]) = L at *
  generalize (cs.map fun c : Nat => (c : Int)) = ys at *
  generalize hM : L.map DV.fr = M at *
  have e6 : M.map DV.d = L := e3
  simp -implicitDefEqProofs only [frs, fzs_ints, e1, mkL, e2, e6, e4, e5, wipeS, okOwn, restore, bind_ok, bind_er, bind_bad, thenS_ok, thenS_er, thenS_bad, then_nx, then_rt, then_bk, then_ct, then_er, fin_some, ofO_some, e_sSeq, e_sIf, e_sRt, e_sSet, e_sto, e_sAug, e_sFor, e_sPar, e_sAsg, e_sEx, e_sNx, e_sRaise, e_sItem, e_sAppend, e_sRtN, e_sBk, e_sCt, e_mC, e_mRd, e_mFz, e_frz, e_mMv, e_mVal, e_mAt, e_mOp2, e_mOp1, e_tst, e_cond, e_mT, e_mCh, e_mNil, e_mCons, e_mCallN, e_mDisp, e_stoO, e_stTup, e_mRange, e_lstAt, e_callIt, e_mCallF, e_mNoP, e_mSomeP, e_mSl, e_mWalk, e_mComp, e_mGen, e_mTold, e_sTry, e_capsOk, e_dLt, e_dLe, e_dGt, e_dGe, e_dSub, e_dMax2, e_dMin2, e_mNot, e_mB, e_mJoin, Pv.mFun, Pv.entry, Pv.argS, Pv.finals, Pv.see, Pv.sees, Pv.vals, Pv.takes, Pv.pinOf, Pv.back, Pv.atsOk, Pv.allFr, Pv.ds, Pv.mkT, Pv.mkL, Pv.fz, Pv.kidVs, Pv.stAll, Pv.rangeD1, Pv.rangeD2, Pv.markOf, Pv.g1, Pv.g2, Pv.dLen, Pv.dAbs, Pv.dInt, Pv.dTup, Pv.dList, Pv.dAdd, Pv.dMul, Pv.dNeg, Pv.ints2, DV.d, Pv.modI_p, Pv.divI_p, Pv.idivI_p, Pv.imulI_r, Pv.mulI_p, Pv.powI_p, Pv.dSl, Pv.fzs, Pv.walkD, Pv.dRev, Pv.dOrd, Pv.kids, Pv.kidsL, Pv.kidsT, Pv.items, Pv.dIx, Pv.dEq, Pv.dNe, Pv.dIn, Pv.dNotIn, Pv.eqD_int, Pv.eqD_str, Pv.eqD_bl, Pv.kAny, Pv.kTupG, Pv.anyD, Pv.gSl, sz0, sy0, sz1, sy1, sz2, sy2, sz3, sy3, sz4, sy4, sz5, sy5, sz6, sy6, sz7, sy7, sz8, sy8, sz9, sy9, sz10, sy10, sz11, sy11, sz12, sy12, decide_true, decide_false, decide_not, ite_true, ite_false, not_true_eq_false, not_false_eq_true, List.map_nil, List.map_cons, List.length_nil, List.length_cons, List.replicate_succ, List.replicate_zero, List.nil_append, List.cons_append, List.append_nil, List.getElem?_cons_zero, List.getElem?_cons_succ, List.getElem?_nil, List.set_cons_zero, List.set_cons_succ, List.length_replicate, Option.map_some, Option.map_none, Option.bind_some, Option.bind_none, Nat.sub_self, Nat.reduceSub, Nat.reduceAdd, Nat.zero_add, eq_self, List.contains_cons, List.contains_nil, Bool.and_true, Bool.true_and, Bool.or_true, Bool.true_or, Bool.or_false, Bool.false_or, Bool.and_false, Bool.false_and, Bool.and_self, beq_self_eq_true, Nat.reduceBEq, if_true, if_false, Bool.false_eq_true, reduceIte, reduceCtorEq, decide_eq_true_eq, Bool.not_true, Bool.not_false]
end K01

set_option Elab.async false
set_option linter.all false
set_option maxRecDepth 100000
set_option maxHeartbeats 4000000
namespace K01
open Pv
theorem seq_nx {f g : Sls → RS} {δ δ' : Sls} (h : f δ = .nx δ') : sSeq f g δ = g δ' := by
  unfold sSeq
  rw [h]; rfl
theorem dice_eq (a b c : Int) : D.lst .own [.int a, .int b, .int c] = dice a b c := rfl
theorem q0 {z0 z5 z6 z7 z8 z9 z10 z11 z12 z13 z14 z15 z16 z17 z18 z19 : Sl} (a b c : Int) : ∃ (n m p : Nat) (a' b' c' : Int), n < 10 ^ 12 ∧ 1 ≤ m ∧ m ≤ 8 ∧ p < 3 ∧ (sAsg (stTup [stoO 2, stoO 3, stoO 4]) (mDisp mkT (mCons (mVal (mCallF [1] 1 m__law_number (mCons (mAt 1) (mNil)))) (mCons (mVal (mOp2 dAdd (mVal (mC (.int 1))) (mVal (mCallF [1] 2 m__law_roll (mCons (mAt 1) (mCons (mVal (mC (.int 8))) (mNil))))))) (mCons (mVal (mCallF [1] 2 m__law_roll (mCons (mAt 1) (mCons (mVal (mC (.int 3))) (mNil))))) (mNil)))))) [z0, .s false (.ow (dice a b c)), .un, .un, .un, z5, z6, z7, z8, z9, z10, z11, z12, z13, z14, z15, z16, z17, z18, z19] = .nx [z0, .s false (.ow (dice a' b' c')), .s false (.fr (.int (n : Nat))), .s false (.fr (.int (m : Nat))), .s false (.fr (.int (p : Nat))), z5, z6, z7, z8, z9, z10, z11, z12, z13, z14, z15, z16, z17, z18, z19] := by
  obtain ⟨n, a1, b1, c1, l1, u1, e1⟩ := number_ok a b c
  obtain ⟨r, a2, b2, c2, l2, u2, e2⟩ := roll_ok a1 b1 c1 8 (by omega) (by omega)
  obtain ⟨p, a3, b3, c3, l3, u3, e3⟩ := roll_ok a2 b2 c2 3 (by omega) (by omega)
  obtain ⟨n, rfl⟩ := Int.eq_ofNat_of_zero_le l1
  obtain ⟨p, rfl⟩ := Int.eq_ofNat_of_zero_le l3
  obtain ⟨m, hm⟩ := Int.eq_ofNat_of_zero_le (show 0 ≤ 1 + r by omega)
  refine ⟨n, m, p, a3, b3, c3, by omega, by omega, by omega, by omega, ?_⟩
  unfold dice at *
  simp -implicitDefEqProofs only [e1, e2, e3, hm, List.all_cons, List.all_nil, bind_ok, bind_er, bind_bad, thenS_ok, thenS_er, thenS_bad, then_nx, then_rt, then_bk, then_ct, then_er, fin_some, ofO_some, e_sSeq, e_sIf, e_sRt, e_sSet, e_sto, e_sAug, e_sFor, e_sPar, e_sAsg, e_sEx, e_sNx, e_sRaise, e_sItem, e_sAppend, e_sRtN, e_sBk, e_sCt, e_mC, e_mRd, e_mFz, e_frz, e_mMv, e_mVal, e_mAt, e_mOp2, e_mOp1, e_tst, e_cond, e_mT, e_mCh, e_mNil, e_mCons, e_mCallN, e_mDisp, e_stoO, e_stTup, e_mRange, e_lstAt, e_callIt, e_mCallF, e_mNoP, e_mSomeP, e_mSl, e_mWalk, e_mComp, e_mGen, e_mTold, e_sTry, e_capsOk, e_dLt, e_dLe, e_dGt, e_dGe, e_dSub, e_dMax2, e_dMin2, e_mNot, e_mB, e_mJoin, Pv.mFun, Pv.entry, Pv.argS, Pv.finals, Pv.see, Pv.sees, Pv.vals, Pv.takes, Pv.pinOf, Pv.back, Pv.atsOk, Pv.allFr, Pv.ds, Pv.mkT, Pv.mkL, Pv.fz, Pv.kidVs, Pv.stAll, Pv.rangeD1, Pv.rangeD2, Pv.markOf, Pv.g1, Pv.g2, Pv.dLen, Pv.dAbs, Pv.dInt, Pv.dTup, Pv.dList, Pv.dAdd, Pv.dMul, Pv.dNeg, Pv.ints2, DV.d, Pv.modI_p, Pv.divI_p, Pv.idivI_p, Pv.imulI_r, Pv.mulI_p, Pv.powI_p, Pv.dSl, Pv.fzs, Pv.walkD, Pv.dRev, Pv.dOrd, Pv.kids, Pv.kidsL, Pv.kidsT, Pv.items, Pv.dIx, Pv.dEq, Pv.dNe, Pv.dIn, Pv.dNotIn, Pv.eqD_int, Pv.eqD_str, Pv.eqD_bl, Pv.kAny, Pv.kTupG, Pv.anyD, Pv.gSl, sz0, sy0, sz1, sy1, sz2, sy2, sz3, sy3, sz4, sy4, sz5, sy5, sz6, sy6, sz7, sy7, sz8, sy8, sz9, sy9, sz10, sy10, sz11, sy11, sz12, sy12, decide_true, decide_false, decide_not, ite_true, ite_false, not_true_eq_false, not_false_eq_true, List.map_nil, List.map_cons, List.length_nil, List.length_cons, List.replicate_succ, List.replicate_zero, List.nil_append, List.cons_append, List.append_nil, List.getElem?_cons_zero, List.getElem?_cons_succ, List.getElem?_nil, List.set_cons_zero, List.set_cons_succ, List.length_replicate, Option.map_some, Option.map_none, Option.bind_some, Option.bind_none, Nat.sub_self, Nat.reduceSub, Nat.reduceAdd, Nat.zero_add, eq_self, List.contains_cons, List.contains_nil, Bool.and_true, Bool.true_and, Bool.or_true, Bool.true_or, Bool.or_false, Bool.false_or, Bool.and_false, Bool.false_and, Bool.and_self, beq_self_eq_true, Nat.reduceBEq, if_true, if_false, Bool.false_eq_true, reduceIte, reduceCtorEq, decide_eq_true_eq, Bool.not_true, Bool.not_false]
theorem q1 {z0 z1 z3 z4 z8 z9 z10 z11 z12 z13 z14 z15 z16 z17 z18 z19 : Sl} (n : Int) : (sPar [stoO 5, stoO 6, stoO 7] (mCons (mVal (mDisp mkL (mNil))) (mCons (mVal (mC (.int 1))) (mCons (mVal (mFz 2)) (mNil))))) [z0, z1, .s false (.fr (.int (n))), z3, z4, .un, .un, .un, z8, z9, z10, z11, z12, z13, z14, z15, z16, z17, z18, z19] = .nx [z0, z1, .s false (.fr (.int (n))), z3, z4, .s false (.ow (.lst .own [])), .s false (.fr (.int (1))), .s false (.fr (.int (n))), z8, z9, z10, z11, z12, z13, z14, z15, z16, z17, z18, z19] := by
  simp -implicitDefEqProofs only [bind_ok, bind_er, bind_bad, thenS_ok, thenS_er, thenS_bad, then_nx, then_rt, then_bk, then_ct, then_er, fin_some, ofO_some, e_sSeq, e_sIf, e_sRt, e_sSet, e_sto, e_sAug, e_sFor, e_sPar, e_sAsg, e_sEx, e_sNx, e_sRaise, e_sItem, e_sAppend, e_sRtN, e_sBk, e_sCt, e_mC, e_mRd, e_mFz, e_frz, e_mMv, e_mVal, e_mAt, e_mOp2, e_mOp1, e_tst, e_cond, e_mT, e_mCh, e_mNil, e_mCons, e_mCallN, e_mDisp, e_stoO, e_stTup, e_mRange, e_lstAt, e_callIt, e_mCallF, e_mNoP, e_mSomeP, e_mSl, e_mWalk, e_mComp, e_mGen, e_mTold, e_sTry, e_capsOk, e_dLt, e_dLe, e_dGt, e_dGe, e_dSub, e_dMax2, e_dMin2, e_mNot, e_mB, e_mJoin, Pv.mFun, Pv.entry, Pv.argS, Pv.finals, Pv.see, Pv.sees, Pv.vals, Pv.takes, Pv.pinOf, Pv.back, Pv.atsOk, Pv.allFr, Pv.ds, Pv.mkT, Pv.mkL, Pv.fz, Pv.kidVs, Pv.stAll, Pv.rangeD1, Pv.rangeD2, Pv.markOf, Pv.g1, Pv.g2, Pv.dLen, Pv.dAbs, Pv.dInt, Pv.dTup, Pv.dList, Pv.dAdd, Pv.dMul, Pv.dNeg, Pv.ints2, DV.d, Pv.modI_p, Pv.divI_p, Pv.idivI_p, Pv.imulI_r, Pv.mulI_p, Pv.powI_p, Pv.dSl, Pv.fzs, Pv.walkD, Pv.dRev, Pv.dOrd, Pv.kids, Pv.kidsL, Pv.kidsT, Pv.items, Pv.dIx, Pv.dEq, Pv.dNe, Pv.dIn, Pv.dNotIn, Pv.eqD_int, Pv.eqD_str, Pv.eqD_bl, Pv.kAny, Pv.kTupG, Pv.anyD, Pv.gSl, sz0, sy0, sz1, sy1, sz2, sy2, sz3, sy3, sz4, sy4, sz5, sy5, sz6, sy6, sz7, sy7, sz8, sy8, sz9, sy9, sz10, sy10, sz11, sy11, sz12, sy12, decide_true, decide_false, decide_not, ite_true, ite_false, not_true_eq_false, not_false_eq_true, List.map_nil, List.map_cons, List.length_nil, List.length_cons, List.replicate_succ, List.replicate_zero, List.nil_append, List.cons_append, List.append_nil, List.getElem?_cons_zero, List.getElem?_cons_succ, List.getElem?_nil, List.set_cons_zero, List.set_cons_succ, List.length_replicate, Option.map_some, Option.map_none, Option.bind_some, Option.bind_none, Nat.sub_self, Nat.reduceSub, Nat.reduceAdd, Nat.zero_add, eq_self, List.contains_cons, List.contains_nil, Bool.and_true, Bool.true_and, Bool.or_true, Bool.true_or, Bool.or_false, Bool.false_or, Bool.and_false, Bool.false_and, Bool.and_self, beq_self_eq_true, Nat.reduceBEq, if_true, if_false, Bool.false_eq_true, reduceIte, reduceCtorEq, decide_eq_true_eq, Bool.not_true, Bool.not_false]
theorem q2s {z0 z1 z2 z3 z4 z8 z9 z10 z11 z12 z13 z14 z15 z16 z17 z18 z19 : Sl} (n i x h : Nat) (hh : h = 256 ^ i) (hx : x = n / 256 ^ i) (hi : i < 1000) : (sPar [stoO 5, stoO 7, stoO 6] (mCons (mVal (mOp2 dAdd (mAt 5) (mVal (mDisp mkL (mCons (mVal (mOp2 (ints2 modI) (mAt 7) (mVal (mC (.int 256))))) (mNil)))))) (mCons (mVal (mOp2 (ints2 divI) (mAt 7) (mVal (mC (.int 256))))) (mCons (mVal (mOp2 dMul (mAt 6) (mVal (mC (.int 256))))) (mNil))))) [z0, z1, z2, z3, z4, .s false (.ow (.lst .own (rowd i n))), .s false (.fr (.int (h : Nat))), .s false (.fr (.int (x : Nat))), z8, z9, z10, z11, z12, z13, z14, z15, z16, z17, z18, z19] = .nx [z0, z1, z2, z3, z4, .s false (.ow (.lst .own (rowd (i + 1) n))), .s false (.fr (.int ((h * 256 : Nat)))), .s false (.fr (.int ((x / 256 : Nat)))), z8, z9, z10, z11, z12, z13, z14, z15, z16, z17, z18, z19] := by
  have b1 : (0 : Int) < 256 := by omega
  have b2 : (x : Int) % 256 = ((x % 256 : Nat) : Int) := by omega
  have b3 : (256 : Int).natAbs.log2 < 9000 := by decide
  have b4 : (x : Int) / 256 = ((x / 256 : Nat) : Int) := by omega
  have b5 : okMul (h : Int) 256 = true := okMul_r (by decide)
  have b6 : (h : Int) * 256 = ((h * 256 : Nat) : Int) := by omega
  have b7 : (rowd i n).length + 1 ≤ PySem.sizeLine := by rw [rowd_len]; exact Nat.le_trans (show i + 1 ≤ 1001 by omega) (by decide)
  have b8 : rowd (i + 1) n = rowd i n ++ [.int ((x % 256 : Nat) : Int)] := by rw [rowd_succ, hx]
  rw [b8]
  generalize rowd i n = L at *
  clear hh hx
  simp -implicitDefEqProofs only [b1, b2, b3, b4, b5, b6, b7, bind_ok, bind_er, bind_bad, thenS_ok, thenS_er, thenS_bad, then_nx, then_rt, then_bk, then_ct, then_er, fin_some, ofO_some, e_sSeq, e_sIf, e_sRt, e_sSet, e_sto, e_sAug, e_sFor, e_sPar, e_sAsg, e_sEx, e_sNx, e_sRaise, e_sItem, e_sAppend, e_sRtN, e_sBk, e_sCt, e_mC, e_mRd, e_mFz, e_frz, e_mMv, e_mVal, e_mAt, e_mOp2, e_mOp1, e_tst, e_cond, e_mT, e_mCh, e_mNil, e_mCons, e_mCallN, e_mDisp, e_stoO, e_stTup, e_mRange, e_lstAt, e_callIt, e_mCallF, e_mNoP, e_mSomeP, e_mSl, e_mWalk, e_mComp, e_mGen, e_mTold, e_sTry, e_capsOk, e_dLt, e_dLe, e_dGt, e_dGe, e_dSub, e_dMax2, e_dMin2, e_mNot, e_mB, e_mJoin, Pv.mFun, Pv.entry, Pv.argS, Pv.finals, Pv.see, Pv.sees, Pv.vals, Pv.takes, Pv.pinOf, Pv.back, Pv.atsOk, Pv.allFr, Pv.ds, Pv.mkT, Pv.mkL, Pv.fz, Pv.kidVs, Pv.stAll, Pv.rangeD1, Pv.rangeD2, Pv.markOf, Pv.g1, Pv.g2, Pv.dLen, Pv.dAbs, Pv.dInt, Pv.dTup, Pv.dList, Pv.dAdd, Pv.dMul, Pv.dNeg, Pv.ints2, DV.d, Pv.modI_p, Pv.divI_p, Pv.idivI_p, Pv.imulI_r, Pv.mulI_p, Pv.powI_p, Pv.dSl, Pv.fzs, Pv.walkD, Pv.dRev, Pv.dOrd, Pv.kids, Pv.kidsL, Pv.kidsT, Pv.items, Pv.dIx, Pv.dEq, Pv.dNe, Pv.dIn, Pv.dNotIn, Pv.eqD_int, Pv.eqD_str, Pv.eqD_bl, Pv.kAny, Pv.kTupG, Pv.anyD, Pv.gSl, sz0, sy0, sz1, sy1, sz2, sy2, sz3, sy3, sz4, sy4, sz5, sy5, sz6, sy6, sz7, sy7, sz8, sy8, sz9, sy9, sz10, sy10, sz11, sy11, sz12, sy12, decide_true, decide_false, decide_not, ite_true, ite_false, not_true_eq_false, not_false_eq_true, List.map_nil, List.map_cons, List.length_nil, List.length_cons, List.replicate_succ, List.replicate_zero, List.nil_append, List.cons_append, List.append_nil, List.getElem?_cons_zero, List.getElem?_cons_succ, List.getElem?_nil, List.set_cons_zero, List.set_cons_succ, List.length_replicate, Option.map_some, Option.map_none, Option.bind_some, Option.bind_none, Nat.sub_self, Nat.reduceSub, Nat.reduceAdd, Nat.zero_add, eq_self, List.contains_cons, List.contains_nil, Bool.and_true, Bool.true_and, Bool.or_true, Bool.true_or, Bool.or_false, Bool.false_or, Bool.and_false, Bool.false_and, Bool.and_self, beq_self_eq_true, Nat.reduceBEq, if_true, if_false, Bool.false_eq_true, reduceIte, reduceCtorEq, decide_eq_true_eq, Bool.not_true, Bool.not_false]
theorem q2 {z0 z1 z2 z4 z9 z10 z11 z12 z13 z14 z15 z16 z17 z18 z19 : Sl} (n m : Nat) (h8 : m ≤ 8) : (sFor (stoO 8) (mRange rangeD1 (mCons (mAt 3) (mNil)))
  (sPar [stoO 5, stoO 7, stoO 6] (mCons (mVal (mOp2 dAdd (mAt 5) (mVal (mDisp mkL (mCons (mVal (mOp2 (ints2 modI) (mAt 7) (mVal (mC (.int 256))))) (mNil)))))) (mCons (mVal (mOp2 (ints2 divI) (mAt 7) (mVal (mC (.int 256))))) (mCons (mVal (mOp2 dMul (mAt 6) (mVal (mC (.int 256))))) (mNil)))))) [z0, z1, z2, .s false (.fr (.int (m : Nat))), z4, .s false (.ow (.lst .own [])), .s false (.fr (.int ((1 : Nat)))), .s false (.fr (.int (n : Nat))), .un, z9, z10, z11, z12, z13, z14, z15, z16, z17, z18, z19] = .nx [z0, z1, z2, .s false (.fr (.int (m : Nat))), z4, .s false (.ow (.lst .own (rowd m n))), .s false (.fr (.int ((256 ^ m : Nat)))), .s false (.fr (.int ((n / 256 ^ m : Nat)))), tn m, z9, z10, z11, z12, z13, z14, z15, z16, z17, z18, z19] := by
  have a6 : inR m = true := by unfold inR; simp; omega
  have lp := iterS_inv (s := stoO 8) (body := sPar [stoO 5, stoO 7, stoO 6] (mCons (mVal (mOp2 dAdd (mAt 5) (mVal (mDisp mkL (mCons (mVal (mOp2 (ints2 modI) (mAt 7) (mVal (mC (.int 256))))) (mNil)))))) (mCons (mVal (mOp2 (ints2 divI) (mAt 7) (mVal (mC (.int 256))))) (mCons (mVal (mOp2 dMul (mAt 6) (mVal (mC (.int 256))))) (mNil))))) (fun i => [z0, z1, z2, .s false (.fr (.int (m : Nat))), z4, .s false (.ow (.lst .own (rowd i n))), .s false (.fr (.int ((256 ^ i : Nat)))), .s false (.fr (.int ((n / 256 ^ i : Nat)))), tn i, z9, z10, z11, z12, z13, z14, z15, z16, z17, z18, z19]) (rgItems 0 m) 0 (fun i x hx => by
    obtain ⟨hi, rfl⟩ := rg_get hx
    have b0 : (0 : Int) + (i : Int) = (i : Int) := by omega
    refine ⟨[z0, z1, z2, .s false (.fr (.int (m : Nat))), z4, .s false (.ow (.lst .own (rowd (0 + i) n))), .s false (.fr (.int ((256 ^ (0 + i) : Nat)))), .s false (.fr (.int ((n / 256 ^ (0 + i) : Nat)))), .s false (.fr (.int (i : Nat))), z9, z10, z11, z12, z13, z14, z15, z16, z17, z18, z19], ?_, .inl ?_⟩
    · generalize n / 256 ^ (0 + i) = q
      generalize 256 ^ (0 + i) = h
      generalize rowd (0 + i) n = L
      rcases i with _ | i <;> simp -implicitDefEqProofs only [b0, Nat.zero_add, tn, bind_ok, bind_er, bind_bad, thenS_ok, thenS_er, thenS_bad, then_nx, then_rt, then_bk, then_ct, then_er, fin_some, ofO_some, e_sSeq, e_sIf, e_sRt, e_sSet, e_sto, e_sAug, e_sFor, e_sPar, e_sAsg, e_sEx, e_sNx, e_sRaise, e_sItem, e_sAppend, e_sRtN, e_sBk, e_sCt, e_mC, e_mRd, e_mFz, e_frz, e_mMv, e_mVal, e_mAt, e_mOp2, e_mOp1, e_tst, e_cond, e_mT, e_mCh, e_mNil, e_mCons, e_mCallN, e_mDisp, e_stoO, e_stTup, e_mRange, e_lstAt, e_callIt, e_mCallF, e_mNoP, e_mSomeP, e_mSl, e_mWalk, e_mComp, e_mGen, e_mTold, e_sTry, e_capsOk, e_dLt, e_dLe, e_dGt, e_dGe, e_dSub, e_dMax2, e_dMin2, e_mNot, e_mB, e_mJoin, Pv.mFun, Pv.entry, Pv.argS, Pv.finals, Pv.see, Pv.sees, Pv.vals, Pv.takes, Pv.pinOf, Pv.back, Pv.atsOk, Pv.allFr, Pv.ds, Pv.mkT, Pv.mkL, Pv.fz, Pv.kidVs, Pv.stAll, Pv.rangeD1, Pv.rangeD2, Pv.markOf, Pv.g1, Pv.g2, Pv.dLen, Pv.dAbs, Pv.dInt, Pv.dTup, Pv.dList, Pv.dAdd, Pv.dMul, Pv.dNeg, Pv.ints2, DV.d, Pv.modI_p, Pv.divI_p, Pv.idivI_p, Pv.imulI_r, Pv.mulI_p, Pv.powI_p, Pv.dSl, Pv.fzs, Pv.walkD, Pv.dRev, Pv.dOrd, Pv.kids, Pv.kidsL, Pv.kidsT, Pv.items, Pv.dIx, Pv.dEq, Pv.dNe, Pv.dIn, Pv.dNotIn, Pv.eqD_int, Pv.eqD_str, Pv.eqD_bl, Pv.kAny, Pv.kTupG, Pv.anyD, Pv.gSl, sz0, sy0, sz1, sy1, sz2, sy2, sz3, sy3, sz4, sy4, sz5, sy5, sz6, sy6, sz7, sy7, sz8, sy8, sz9, sy9, sz10, sy10, sz11, sy11, sz12, sy12, decide_true, decide_false, decide_not, ite_true, ite_false, not_true_eq_false, not_false_eq_true, List.map_nil, List.map_cons, List.length_nil, List.length_cons, List.replicate_succ, List.replicate_zero, List.nil_append, List.cons_append, List.append_nil, List.getElem?_cons_zero, List.getElem?_cons_succ, List.getElem?_nil, List.set_cons_zero, List.set_cons_succ, List.length_replicate, Option.map_some, Option.map_none, Option.bind_some, Option.bind_none, Nat.sub_self, Nat.reduceSub, Nat.reduceAdd, Nat.zero_add, eq_self, List.contains_cons, List.contains_nil, Bool.and_true, Bool.true_and, Bool.or_true, Bool.true_or, Bool.or_false, Bool.false_or, Bool.and_false, Bool.false_and, Bool.and_self, beq_self_eq_true, Nat.reduceBEq, if_true, if_false, Bool.false_eq_true, reduceIte, reduceCtorEq, decide_eq_true_eq, Bool.not_true, Bool.not_false]
    · rw [q2s n (0 + i) (n / 256 ^ (0 + i)) (256 ^ (0 + i)) rfl rfl (by omega)]
      rw [div_succ, Nat.zero_add, tn, ← Nat.pow_succ])
  rw [rg_len, Nat.zero_add] at lp
  simp -implicitDefEqProofs only [Nat.pow_zero, Nat.div_one, tn] at lp
  rw [show rowd 0 n = [] from rfl] at lp
  generalize n / 256 ^ m = q at *
  generalize 256 ^ m = h at *
  generalize rowd m n = L at *
  simp -implicitDefEqProofs only [a6, Int.toNat_natCast, bind_ok, bind_er, bind_bad, thenS_ok, thenS_er, thenS_bad, then_nx, then_rt, then_bk, then_ct, then_er, fin_some, ofO_some, e_sSeq, e_sIf, e_sRt, e_sSet, e_sto, e_sAug, e_sFor, e_sPar, e_sAsg, e_sEx, e_sNx, e_sRaise, e_sItem, e_sAppend, e_sRtN, e_sBk, e_sCt, e_mC, e_mRd, e_mFz, e_frz, e_mMv, e_mVal, e_mAt, e_mOp2, e_mOp1, e_tst, e_cond, e_mT, e_mCh, e_mNil, e_mCons, e_mCallN, e_mDisp, e_stoO, e_stTup, e_mRange, e_lstAt, e_callIt, e_mCallF, e_mNoP, e_mSomeP, e_mSl, e_mWalk, e_mComp, e_mGen, e_mTold, e_sTry, e_capsOk, e_dLt, e_dLe, e_dGt, e_dGe, e_dSub, e_dMax2, e_dMin2, e_mNot, e_mB, e_mJoin, Pv.mFun, Pv.entry, Pv.argS, Pv.finals, Pv.see, Pv.sees, Pv.vals, Pv.takes, Pv.pinOf, Pv.back, Pv.atsOk, Pv.allFr, Pv.ds, Pv.mkT, Pv.mkL, Pv.fz, Pv.kidVs, Pv.stAll, Pv.rangeD1, Pv.rangeD2, Pv.markOf, Pv.g1, Pv.g2, Pv.dLen, Pv.dAbs, Pv.dInt, Pv.dTup, Pv.dList, Pv.dAdd, Pv.dMul, Pv.dNeg, Pv.ints2, DV.d, Pv.modI_p, Pv.divI_p, Pv.idivI_p, Pv.imulI_r, Pv.mulI_p, Pv.powI_p, Pv.dSl, Pv.fzs, Pv.walkD, Pv.dRev, Pv.dOrd, Pv.kids, Pv.kidsL, Pv.kidsT, Pv.items, Pv.dIx, Pv.dEq, Pv.dNe, Pv.dIn, Pv.dNotIn, Pv.eqD_int, Pv.eqD_str, Pv.eqD_bl, Pv.kAny, Pv.kTupG, Pv.anyD, Pv.gSl, sz0, sy0, sz1, sy1, sz2, sy2, sz3, sy3, sz4, sy4, sz5, sy5, sz6, sy6, sz7, sy7, sz8, sy8, sz9, sy9, sz10, sy10, sz11, sy11, sz12, sy12, decide_true, decide_false, decide_not, ite_true, ite_false, not_true_eq_false, not_false_eq_true, List.map_nil, List.map_cons, List.length_nil, List.length_cons, List.replicate_succ, List.replicate_zero, List.nil_append, List.cons_append, List.append_nil, List.getElem?_cons_zero, List.getElem?_cons_succ, List.getElem?_nil, List.set_cons_zero, List.set_cons_succ, List.length_replicate, Option.map_some, Option.map_none, Option.bind_some, Option.bind_none, Nat.sub_self, Nat.reduceSub, Nat.reduceAdd, Nat.zero_add, eq_self, List.contains_cons, List.contains_nil, Bool.and_true, Bool.true_and, Bool.or_true, Bool.true_or, Bool.or_false, Bool.false_or, Bool.and_false, Bool.false_and, Bool.and_self, beq_self_eq_true, Nat.reduceBEq, if_true, if_false, Bool.false_eq_true, reduceIte, reduceCtorEq, decide_eq_true_eq, Bool.not_true, Bool.not_false]
  exact lp
end K01

set_option Elab.async false
set_option linter.all false
set_option maxRecDepth 100000
set_option maxHeartbeats 4000000
namespace K01
open Pv
theorem rep_flat (p : Nat) (x : Int) : (List.replicate (p : Int).toNat [D.int x]).flatten = (List.replicate p x).map .int := by
  rw [Int.toNat_natCast]
  induction p with
  | zero => rfl
  | succ p ih => rw [List.replicate_succ, List.flatten_cons, ih, List.replicate_succ]; rfl
theorem rep_ok (p : Nat) (hp : p ≤ 1000) : (-2 ^ 63 ≤ (p : Int) ∧ (p : Int) < 2 ^ 63 ∧ 1 * (p : Int).toNat ≤ PySem.sizeLine) = True := by
  refine eq_true ⟨by omega, by omega, ?_⟩
  rw [Int.toNat_natCast, Nat.one_mul]
  exact Nat.le_trans hp (by decide)
theorem len_small {n : Nat} (h : n ≤ 1000) : (n ≤ PySem.sizeLine) = True := eq_true (Nat.le_trans h (by decide))
theorem drop_mid (p : Nat) (x : Int) (ys zs : List Int) : (List.replicate p x ++ (ys ++ zs)).drop p = ys ++ zs := by
  rw [List.drop_append_of_le_length (by simp)]; simp
theorem take_mid (p : Nat) (x : Int) (ys zs : List Int) : ((List.replicate p x ++ (ys ++ zs)).drop p).take ys.length = ys := by
  rw [drop_mid, List.take_left]

theorem q3 {z0 z1 z2 z3 z4 z5 z7 z8 z9 z10 z11 z12 z13 z14 z15 z16 z17 z18 z19 : Sl} (h : Nat) : (sSet 6 (mOp2 (ints2 divI) (mAt 6) (mVal (mC (.int 2))))) [z0, z1, z2, z3, z4, z5, .s false (.fr (.int (h : Nat))), z7, z8, z9, z10, z11, z12, z13, z14, z15, z16, z17, z18, z19] = .nx [z0, z1, z2, z3, z4, z5, .s false (.fr (.int ((h / 2 : Nat)))), z7, z8, z9, z10, z11, z12, z13, z14, z15, z16, z17, z18, z19] := by
  have b1 : (0 : Int) < 2 := by omega
  have b3 : (2 : Int).natAbs.log2 < 9000 := by decide
  have b4 : (h : Int) / 2 = ((h / 2 : Nat) : Int) := by omega
  simp -implicitDefEqProofs only [b1, b3, b4, bind_ok, bind_er, bind_bad, thenS_ok, thenS_er, thenS_bad, then_nx, then_rt, then_bk, then_ct, then_er, fin_some, ofO_some, e_sSeq, e_sIf, e_sRt, e_sSet, e_sto, e_sAug, e_sFor, e_sPar, e_sAsg, e_sEx, e_sNx, e_sRaise, e_sItem, e_sAppend, e_sRtN, e_sBk, e_sCt, e_mC, e_mRd, e_mFz, e_frz, e_mMv, e_mVal, e_mAt, e_mOp2, e_mOp1, e_tst, e_cond, e_mT, e_mCh, e_mNil, e_mCons, e_mCallN, e_mDisp, e_stoO, e_stTup, e_mRange, e_lstAt, e_callIt, e_mCallF, e_mNoP, e_mSomeP, e_mSl, e_mWalk, e_mComp, e_mGen, e_mTold, e_sTry, e_capsOk, e_dLt, e_dLe, e_dGt, e_dGe, e_dSub, e_dMax2, e_dMin2, e_mNot, e_mB, e_mJoin, Pv.mFun, Pv.entry, Pv.argS, Pv.finals, Pv.see, Pv.sees, Pv.vals, Pv.takes, Pv.pinOf, Pv.back, Pv.atsOk, Pv.allFr, Pv.ds, Pv.mkT, Pv.mkL, Pv.fz, Pv.kidVs, Pv.stAll, Pv.rangeD1, Pv.rangeD2, Pv.markOf, Pv.g1, Pv.g2, Pv.dLen, Pv.dAbs, Pv.dInt, Pv.dTup, Pv.dList, Pv.dAdd, Pv.dMul, Pv.dNeg, Pv.ints2, DV.d, Pv.modI_p, Pv.divI_p, Pv.idivI_p, Pv.imulI_r, Pv.mulI_p, Pv.powI_p, Pv.dSl, Pv.fzs, Pv.walkD, Pv.dRev, Pv.dOrd, Pv.kids, Pv.kidsL, Pv.kidsT, Pv.items, Pv.dIx, Pv.dEq, Pv.dNe, Pv.dIn, Pv.dNotIn, Pv.eqD_int, Pv.eqD_str, Pv.eqD_bl, Pv.kAny, Pv.kTupG, Pv.anyD, Pv.gSl, sz0, sy0, sz1, sy1, sz2, sy2, sz3, sy3, sz4, sy4, sz5, sy5, sz6, sy6, sz7, sy7, sz8, sy8, sz9, sy9, sz10, sy10, sz11, sy11, sz12, sy12, decide_true, decide_false, decide_not, ite_true, ite_false, not_true_eq_false, not_false_eq_true, List.map_nil, List.map_cons, List.length_nil, List.length_cons, List.replicate_succ, List.replicate_zero, List.nil_append, List.cons_append, List.append_nil, List.getElem?_cons_zero, List.getElem?_cons_succ, List.getElem?_nil, List.set_cons_zero, List.set_cons_succ, List.length_replicate, Option.map_some, Option.map_none, Option.bind_some, Option.bind_none, Nat.sub_self, Nat.reduceSub, Nat.reduceAdd, Nat.zero_add, eq_self, List.contains_cons, List.contains_nil, Bool.and_true, Bool.true_and, Bool.or_true, Bool.true_or, Bool.or_false, Bool.false_or, Bool.and_false, Bool.false_and, Bool.and_self, beq_self_eq_true, Nat.reduceBEq, if_true, if_false, Bool.false_eq_true, reduceIte, reduceCtorEq, decide_eq_true_eq, Bool.not_true, Bool.not_false]

theorem q4 {z0 z1 z3 z4 z5 z7 z8 z10 z11 z12 z13 z14 z15 z16 z17 z18 z19 : Sl} (n h : Nat) : (sSet 9 (mOp2 dLt (mAt 2) (mVal (mOp2 dMul (mVal (mC (.int 2))) (mAt 6))))) [z0, z1, .s false (.fr (.int (n : Nat))), z3, z4, z5, .s false (.fr (.int (h : Nat))), z7, z8, .un, z10, z11, z12, z13, z14, z15, z16, z17, z18, z19] = .nx [z0, z1, .s false (.fr (.int (n : Nat))), z3, z4, z5, .s false (.fr (.int (h : Nat))), z7, z8, .s false (.fr (.bl (decide (n < 2 * h)))), z10, z11, z12, z13, z14, z15, z16, z17, z18, z19] := by
  have b1 : okMul 2 (h : Int) = true := okMul_l (by decide)
  have b2 : ((n : Int) < 2 * (h : Int)) = (n < 2 * h) := by apply propext; omega
  simp -implicitDefEqProofs only [b1, b2, bind_ok, bind_er, bind_bad, thenS_ok, thenS_er, thenS_bad, then_nx, then_rt, then_bk, then_ct, then_er, fin_some, ofO_some, e_sSeq, e_sIf, e_sRt, e_sSet, e_sto, e_sAug, e_sFor, e_sPar, e_sAsg, e_sEx, e_sNx, e_sRaise, e_sItem, e_sAppend, e_sRtN, e_sBk, e_sCt, e_mC, e_mRd, e_mFz, e_frz, e_mMv, e_mVal, e_mAt, e_mOp2, e_mOp1, e_tst, e_cond, e_mT, e_mCh, e_mNil, e_mCons, e_mCallN, e_mDisp, e_stoO, e_stTup, e_mRange, e_lstAt, e_callIt, e_mCallF, e_mNoP, e_mSomeP, e_mSl, e_mWalk, e_mComp, e_mGen, e_mTold, e_sTry, e_capsOk, e_dLt, e_dLe, e_dGt, e_dGe, e_dSub, e_dMax2, e_dMin2, e_mNot, e_mB, e_mJoin, Pv.mFun, Pv.entry, Pv.argS, Pv.finals, Pv.see, Pv.sees, Pv.vals, Pv.takes, Pv.pinOf, Pv.back, Pv.atsOk, Pv.allFr, Pv.ds, Pv.mkT, Pv.mkL, Pv.fz, Pv.kidVs, Pv.stAll, Pv.rangeD1, Pv.rangeD2, Pv.markOf, Pv.g1, Pv.g2, Pv.dLen, Pv.dAbs, Pv.dInt, Pv.dTup, Pv.dList, Pv.dAdd, Pv.dMul, Pv.dNeg, Pv.ints2, DV.d, Pv.modI_p, Pv.divI_p, Pv.idivI_p, Pv.imulI_r, Pv.mulI_p, Pv.powI_p, Pv.dSl, Pv.fzs, Pv.walkD, Pv.dRev, Pv.dOrd, Pv.kids, Pv.kidsL, Pv.kidsT, Pv.items, Pv.dIx, Pv.dEq, Pv.dNe, Pv.dIn, Pv.dNotIn, Pv.eqD_int, Pv.eqD_str, Pv.eqD_bl, Pv.kAny, Pv.kTupG, Pv.anyD, Pv.gSl, sz0, sy0, sz1, sy1, sz2, sy2, sz3, sy3, sz4, sy4, sz5, sy5, sz6, sy6, sz7, sy7, sz8, sy8, sz9, sy9, sz10, sy10, sz11, sy11, sz12, sy12, decide_true, decide_false, decide_not, ite_true, ite_false, not_true_eq_false, not_false_eq_true, List.map_nil, List.map_cons, List.length_nil, List.length_cons, List.replicate_succ, List.replicate_zero, List.nil_append, List.cons_append, List.append_nil, List.getElem?_cons_zero, List.getElem?_cons_succ, List.getElem?_nil, List.set_cons_zero, List.set_cons_succ, List.length_replicate, Option.map_some, Option.map_none, Option.bind_some, Option.bind_none, Nat.sub_self, Nat.reduceSub, Nat.reduceAdd, Nat.zero_add, eq_self, List.contains_cons, List.contains_nil, Bool.and_true, Bool.true_and, Bool.or_true, Bool.true_or, Bool.or_false, Bool.false_or, Bool.and_false, Bool.false_and, Bool.and_self, beq_self_eq_true, Nat.reduceBEq, if_true, if_false, Bool.false_eq_true, reduceIte, reduceCtorEq, decide_eq_true_eq, Bool.not_true, Bool.not_false]

theorem q5 {z0 z1 z4 z6 z7 z8 z10 z11 z12 z13 z14 z15 z16 z17 z18 z19 : Sl} (n m : Nat) (h1 : 1 ≤ m) (h8 : m ≤ 8) : (sIf (tst (mOp2 dNe (mVal (mTold nEx sub_WordError [87, 111, 114, 100, 69, 114, 114, 111, 114] (mCallF [2, 3] 2 m_packed (mCons (mAt 2) (mCons (mAt 3) (mNil)))))) (mVal (cond (tst (mRd 9)) (mCallN (g1 dTup) (mCons (mAt 5) (mNil))) (mC (.str [87, 111, 114, 100, 69, 114, 114, 111, 114]))))))
  (sRt (mC (.bl false)))
  (sNx)) [z0, z1, .s false (.fr (.int (n : Nat))), .s false (.fr (.int (m : Nat))), z4, .s false (.ow (.lst .own (rowd m n))), z6, z7, z8, .s false (.fr (.bl (decide (n < 2 ^ (8 * m))))), z10, z11, z12, z13, z14, z15, z16, z17, z18, z19] = .nx [z0, z1, .s false (.fr (.int (n : Nat))), .s false (.fr (.int (m : Nat))), z4, .s false (.ow (.lst .own (rowd m n))), z6, z7, z8, .s false (.fr (.bl (decide (n < 2 ^ (8 * m))))), z10, z11, z12, z13, z14, z15, z16, z17, z18, z19] := by
  by_cases hn : n < 2 ^ (8 * m)
  · have e1 := packed_ok n m h1 h8 hn
    have e2 : eqD (.tup (rowd m n)) (.tup (rowd m n)) = some true := eqD_tup _
    have e3 : ((rowd m n).length ≤ PySem.sizeLine) = True := by rw [rowd_len]; exact len_small (by omega)
    rw [decide_eq_true hn]
    clear hn
    generalize rowd m n = L at *
    simp -implicitDefEqProofs only [e1, e2, e3, bind_ok, bind_er, bind_bad, thenS_ok, thenS_er, thenS_bad, then_nx, then_rt, then_bk, then_ct, then_er, fin_some, ofO_some, e_sSeq, e_sIf, e_sRt, e_sSet, e_sto, e_sAug, e_sFor, e_sPar, e_sAsg, e_sEx, e_sNx, e_sRaise, e_sItem, e_sAppend, e_sRtN, e_sBk, e_sCt, e_mC, e_mRd, e_mFz, e_frz, e_mMv, e_mVal, e_mAt, e_mOp2, e_mOp1, e_tst, e_cond, e_mT, e_mCh, e_mNil, e_mCons, e_mCallN, e_mDisp, e_stoO, e_stTup, e_mRange, e_lstAt, e_callIt, e_mCallF, e_mNoP, e_mSomeP, e_mSl, e_mWalk, e_mComp, e_mGen, e_mTold, e_sTry, e_capsOk, e_dLt, e_dLe, e_dGt, e_dGe, e_dSub, e_dMax2, e_dMin2, e_mNot, e_mB, e_mJoin, Pv.mFun, Pv.entry, Pv.argS, Pv.finals, Pv.see, Pv.sees, Pv.vals, Pv.takes, Pv.pinOf, Pv.back, Pv.atsOk, Pv.allFr, Pv.ds, Pv.mkT, Pv.mkL, Pv.fz, Pv.kidVs, Pv.stAll, Pv.rangeD1, Pv.rangeD2, Pv.markOf, Pv.g1, Pv.g2, Pv.dLen, Pv.dAbs, Pv.dInt, Pv.dTup, Pv.dList, Pv.dAdd, Pv.dMul, Pv.dNeg, Pv.ints2, DV.d, Pv.modI_p, Pv.divI_p, Pv.idivI_p, Pv.imulI_r, Pv.mulI_p, Pv.powI_p, Pv.dSl, Pv.fzs, Pv.walkD, Pv.dRev, Pv.dOrd, Pv.kids, Pv.kidsL, Pv.kidsT, Pv.items, Pv.dIx, Pv.dEq, Pv.dNe, Pv.dIn, Pv.dNotIn, Pv.eqD_int, Pv.eqD_str, Pv.eqD_bl, Pv.kAny, Pv.kTupG, Pv.anyD, Pv.gSl, sz0, sy0, sz1, sy1, sz2, sy2, sz3, sy3, sz4, sy4, sz5, sy5, sz6, sy6, sz7, sy7, sz8, sy8, sz9, sy9, sz10, sy10, sz11, sy11, sz12, sy12, decide_true, decide_false, decide_not, ite_true, ite_false, not_true_eq_false, not_false_eq_true, List.map_nil, List.map_cons, List.length_nil, List.length_cons, List.replicate_succ, List.replicate_zero, List.nil_append, List.cons_append, List.append_nil, List.getElem?_cons_zero, List.getElem?_cons_succ, List.getElem?_nil, List.set_cons_zero, List.set_cons_succ, List.length_replicate, Option.map_some, Option.map_none, Option.bind_some, Option.bind_none, Nat.sub_self, Nat.reduceSub, Nat.reduceAdd, Nat.zero_add, eq_self, List.contains_cons, List.contains_nil, Bool.and_true, Bool.true_and, Bool.or_true, Bool.true_or, Bool.or_false, Bool.false_or, Bool.and_false, Bool.false_and, Bool.and_self, beq_self_eq_true, Nat.reduceBEq, if_true, if_false, Bool.false_eq_true, reduceIte, reduceCtorEq, decide_eq_true_eq, Bool.not_true, Bool.not_false]
  · have e1 := packed_no n m h1 h8 hn
    rw [decide_eq_false hn]
    clear hn
    generalize rowd m n = L at *
    simp -implicitDefEqProofs only [e1, sub_WordError, nEx, Nat.zero_lt_succ, List.getD_cons_zero, and_self, bind_ok, bind_er, bind_bad, thenS_ok, thenS_er, thenS_bad, then_nx, then_rt, then_bk, then_ct, then_er, fin_some, ofO_some, e_sSeq, e_sIf, e_sRt, e_sSet, e_sto, e_sAug, e_sFor, e_sPar, e_sAsg, e_sEx, e_sNx, e_sRaise, e_sItem, e_sAppend, e_sRtN, e_sBk, e_sCt, e_mC, e_mRd, e_mFz, e_frz, e_mMv, e_mVal, e_mAt, e_mOp2, e_mOp1, e_tst, e_cond, e_mT, e_mCh, e_mNil, e_mCons, e_mCallN, e_mDisp, e_stoO, e_stTup, e_mRange, e_lstAt, e_callIt, e_mCallF, e_mNoP, e_mSomeP, e_mSl, e_mWalk, e_mComp, e_mGen, e_mTold, e_sTry, e_capsOk, e_dLt, e_dLe, e_dGt, e_dGe, e_dSub, e_dMax2, e_dMin2, e_mNot, e_mB, e_mJoin, Pv.mFun, Pv.entry, Pv.argS, Pv.finals, Pv.see, Pv.sees, Pv.vals, Pv.takes, Pv.pinOf, Pv.back, Pv.atsOk, Pv.allFr, Pv.ds, Pv.mkT, Pv.mkL, Pv.fz, Pv.kidVs, Pv.stAll, Pv.rangeD1, Pv.rangeD2, Pv.markOf, Pv.g1, Pv.g2, Pv.dLen, Pv.dAbs, Pv.dInt, Pv.dTup, Pv.dList, Pv.dAdd, Pv.dMul, Pv.dNeg, Pv.ints2, DV.d, Pv.modI_p, Pv.divI_p, Pv.idivI_p, Pv.imulI_r, Pv.mulI_p, Pv.powI_p, Pv.dSl, Pv.fzs, Pv.walkD, Pv.dRev, Pv.dOrd, Pv.kids, Pv.kidsL, Pv.kidsT, Pv.items, Pv.dIx, Pv.dEq, Pv.dNe, Pv.dIn, Pv.dNotIn, Pv.eqD_int, Pv.eqD_str, Pv.eqD_bl, Pv.kAny, Pv.kTupG, Pv.anyD, Pv.gSl, sz0, sy0, sz1, sy1, sz2, sy2, sz3, sy3, sz4, sy4, sz5, sy5, sz6, sy6, sz7, sy7, sz8, sy8, sz9, sy9, sz10, sy10, sz11, sy11, sz12, sy12, decide_true, decide_false, decide_not, ite_true, ite_false, not_true_eq_false, not_false_eq_true, List.map_nil, List.map_cons, List.length_nil, List.length_cons, List.replicate_succ, List.replicate_zero, List.nil_append, List.cons_append, List.append_nil, List.getElem?_cons_zero, List.getElem?_cons_succ, List.getElem?_nil, List.set_cons_zero, List.set_cons_succ, List.length_replicate, Option.map_some, Option.map_none, Option.bind_some, Option.bind_none, Nat.sub_self, Nat.reduceSub, Nat.reduceAdd, Nat.zero_add, eq_self, List.contains_cons, List.contains_nil, Bool.and_true, Bool.true_and, Bool.or_true, Bool.true_or, Bool.or_false, Bool.false_or, Bool.and_false, Bool.false_and, Bool.and_self, beq_self_eq_true, Nat.reduceBEq, if_true, if_false, Bool.false_eq_true, reduceIte, reduceCtorEq, decide_eq_true_eq, Bool.not_true, Bool.not_false]

theorem q6 {z0 z1 z6 z7 z8 z10 z11 z12 z13 z14 z15 z16 z17 z18 z19 : Sl} (n m p : Nat) (h1 : 1 ≤ m) (h8 : m ≤ 8) (hp : p < 3) : (sIf (cond (tst (mRd 9)) (tst (mOp2 dNe (mVal (mCallF [4, 3] 3 m_unpacked (mCons (mVal (mOp2 dAdd (mVal (mOp2 dAdd (mVal (mOp2 dMul (mVal (mDisp mkL (mCons (mVal (mC (.int 7))) (mNil)))) (mAt 4))) (mAt 5))) (mVal (mDisp mkL (mCons (mVal (mC (.int 9))) (mNil)))))) (mCons (mAt 4) (mCons (mAt 3) (mNil)))))) (mAt 2))) (mT false))
  (sRt (mC (.bl false)))
  (sNx)) [z0, z1, .s false (.fr (.int (n : Nat))), .s false (.fr (.int (m : Nat))), .s false (.fr (.int (p : Nat))), .s false (.ow (.lst .own (rowd m n))), z6, z7, z8, .s false (.fr (.bl (decide (n < 2 ^ (8 * m))))), z10, z11, z12, z13, z14, z15, z16, z17, z18, z19] = .nx [z0, z1, .s false (.fr (.int (n : Nat))), .s false (.fr (.int (m : Nat))), .s false (.fr (.int (p : Nat))), .s false (.ow (.lst .own (rowd m n))), z6, z7, z8, .s false (.fr (.bl (decide (n < 2 ^ (8 * m))))), z10, z11, z12, z13, z14, z15, z16, z17, z18, z19] := by
  by_cases hn : n < 2 ^ (8 * m)
  · have a1 : ((List.replicate p (7 : Int) ++ (rowi m n ++ [9])).drop p).take m = rowi m n := by
      have := take_mid p 7 (rowi m n) [9]
      rwa [rowi_len] at this
    have e1 := unpacked_ok (xs := List.replicate p 7 ++ (rowi m n ++ [9])) (p := p) (m := m) h1 h8 (by simp [rowi_len]) (by rw [a1]; exact rowi_bytes m n)
    rw [a1, val_rowi m n (by rw [pow_256]; exact hn)] at e1
    have e2 := rep_ok p (by omega)
    have e2' := rep_flat p 7
    have e3 : ((List.replicate p (7 : Int)).map D.int ++ (rowi m n).map D.int).length + 1 ≤ PySem.sizeLine := Nat.le_trans (show _ ≤ 20 by simp [rowi_len]; omega) (by decide)
    have e4 : ((List.replicate p (7 : Int)).map D.int).length + ((rowi m n).map D.int).length ≤ PySem.sizeLine := Nat.le_trans (show _ ≤ 20 by simp [rowi_len]; omega) (by decide)
    have e5 : (List.replicate p (7 : Int)).map D.int ++ (rowi m n).map D.int ++ [.int 9] = (List.replicate p 7 ++ (rowi m n ++ [9])).map D.int := by simp
    rw [decide_eq_true hn]
    clear hn a1
    unfold rowd
    rw [← e5] at e1
    clear e5
    generalize (rowi m n).map D.int = L at *
    generalize (List.replicate p (7 : Int)).map D.int = M at *
    simp -implicitDefEqProofs only [e1, e2, e2', e3, e4, bind_ok, bind_er, bind_bad, thenS_ok, thenS_er, thenS_bad, then_nx, then_rt, then_bk, then_ct, then_er, fin_some, ofO_some, e_sSeq, e_sIf, e_sRt, e_sSet, e_sto, e_sAug, e_sFor, e_sPar, e_sAsg, e_sEx, e_sNx, e_sRaise, e_sItem, e_sAppend, e_sRtN, e_sBk, e_sCt, e_mC, e_mRd, e_mFz, e_frz, e_mMv, e_mVal, e_mAt, e_mOp2, e_mOp1, e_tst, e_cond, e_mT, e_mCh, e_mNil, e_mCons, e_mCallN, e_mDisp, e_stoO, e_stTup, e_mRange, e_lstAt, e_callIt, e_mCallF, e_mNoP, e_mSomeP, e_mSl, e_mWalk, e_mComp, e_mGen, e_mTold, e_sTry, e_capsOk, e_dLt, e_dLe, e_dGt, e_dGe, e_dSub, e_dMax2, e_dMin2, e_mNot, e_mB, e_mJoin, Pv.mFun, Pv.entry, Pv.argS, Pv.finals, Pv.see, Pv.sees, Pv.vals, Pv.takes, Pv.pinOf, Pv.back, Pv.atsOk, Pv.allFr, Pv.ds, Pv.mkT, Pv.mkL, Pv.fz, Pv.kidVs, Pv.stAll, Pv.rangeD1, Pv.rangeD2, Pv.markOf, Pv.g1, Pv.g2, Pv.dLen, Pv.dAbs, Pv.dInt, Pv.dTup, Pv.dList, Pv.dAdd, Pv.dMul, Pv.dNeg, Pv.ints2, DV.d, Pv.modI_p, Pv.divI_p, Pv.idivI_p, Pv.imulI_r, Pv.mulI_p, Pv.powI_p, Pv.dSl, Pv.fzs, Pv.walkD, Pv.dRev, Pv.dOrd, Pv.kids, Pv.kidsL, Pv.kidsT, Pv.items, Pv.dIx, Pv.dEq, Pv.dNe, Pv.dIn, Pv.dNotIn, Pv.eqD_int, Pv.eqD_str, Pv.eqD_bl, Pv.kAny, Pv.kTupG, Pv.anyD, Pv.gSl, sz0, sy0, sz1, sy1, sz2, sy2, sz3, sy3, sz4, sy4, sz5, sy5, sz6, sy6, sz7, sy7, sz8, sy8, sz9, sy9, sz10, sy10, sz11, sy11, sz12, sy12, decide_true, decide_false, decide_not, ite_true, ite_false, not_true_eq_false, not_false_eq_true, List.map_nil, List.map_cons, List.length_nil, List.length_cons, List.replicate_succ, List.replicate_zero, List.nil_append, List.cons_append, List.append_nil, List.getElem?_cons_zero, List.getElem?_cons_succ, List.getElem?_nil, List.set_cons_zero, List.set_cons_succ, List.length_replicate, Option.map_some, Option.map_none, Option.bind_some, Option.bind_none, Nat.sub_self, Nat.reduceSub, Nat.reduceAdd, Nat.zero_add, eq_self, List.contains_cons, List.contains_nil, Bool.and_true, Bool.true_and, Bool.or_true, Bool.true_or, Bool.or_false, Bool.false_or, Bool.and_false, Bool.false_and, Bool.and_self, beq_self_eq_true, Nat.reduceBEq, if_true, if_false, Bool.false_eq_true, reduceIte, reduceCtorEq, decide_eq_true_eq, Bool.not_true, Bool.not_false]
  · rw [decide_eq_false hn]
    clear hn
    generalize rowd m n = L at *
    simp -implicitDefEqProofs only [bind_ok, bind_er, bind_bad, thenS_ok, thenS_er, thenS_bad, then_nx, then_rt, then_bk, then_ct, then_er, fin_some, ofO_some, e_sSeq, e_sIf, e_sRt, e_sSet, e_sto, e_sAug, e_sFor, e_sPar, e_sAsg, e_sEx, e_sNx, e_sRaise, e_sItem, e_sAppend, e_sRtN, e_sBk, e_sCt, e_mC, e_mRd, e_mFz, e_frz, e_mMv, e_mVal, e_mAt, e_mOp2, e_mOp1, e_tst, e_cond, e_mT, e_mCh, e_mNil, e_mCons, e_mCallN, e_mDisp, e_stoO, e_stTup, e_mRange, e_lstAt, e_callIt, e_mCallF, e_mNoP, e_mSomeP, e_mSl, e_mWalk, e_mComp, e_mGen, e_mTold, e_sTry, e_capsOk, e_dLt, e_dLe, e_dGt, e_dGe, e_dSub, e_dMax2, e_dMin2, e_mNot, e_mB, e_mJoin, Pv.mFun, Pv.entry, Pv.argS, Pv.finals, Pv.see, Pv.sees, Pv.vals, Pv.takes, Pv.pinOf, Pv.back, Pv.atsOk, Pv.allFr, Pv.ds, Pv.mkT, Pv.mkL, Pv.fz, Pv.kidVs, Pv.stAll, Pv.rangeD1, Pv.rangeD2, Pv.markOf, Pv.g1, Pv.g2, Pv.dLen, Pv.dAbs, Pv.dInt, Pv.dTup, Pv.dList, Pv.dAdd, Pv.dMul, Pv.dNeg, Pv.ints2, DV.d, Pv.modI_p, Pv.divI_p, Pv.idivI_p, Pv.imulI_r, Pv.mulI_p, Pv.powI_p, Pv.dSl, Pv.fzs, Pv.walkD, Pv.dRev, Pv.dOrd, Pv.kids, Pv.kidsL, Pv.kidsT, Pv.items, Pv.dIx, Pv.dEq, Pv.dNe, Pv.dIn, Pv.dNotIn, Pv.eqD_int, Pv.eqD_str, Pv.eqD_bl, Pv.kAny, Pv.kTupG, Pv.anyD, Pv.gSl, sz0, sy0, sz1, sy1, sz2, sy2, sz3, sy3, sz4, sy4, sz5, sy5, sz6, sy6, sz7, sy7, sz8, sy8, sz9, sy9, sz10, sy10, sz11, sy11, sz12, sy12, decide_true, decide_false, decide_not, ite_true, ite_false, not_true_eq_false, not_false_eq_true, List.map_nil, List.map_cons, List.length_nil, List.length_cons, List.replicate_succ, List.replicate_zero, List.nil_append, List.cons_append, List.append_nil, List.getElem?_cons_zero, List.getElem?_cons_succ, List.getElem?_nil, List.set_cons_zero, List.set_cons_succ, List.length_replicate, Option.map_some, Option.map_none, Option.bind_some, Option.bind_none, Nat.sub_self, Nat.reduceSub, Nat.reduceAdd, Nat.zero_add, eq_self, List.contains_cons, List.contains_nil, Bool.and_true, Bool.true_and, Bool.or_true, Bool.true_or, Bool.or_false, Bool.false_or, Bool.and_false, Bool.false_and, Bool.and_self, beq_self_eq_true, Nat.reduceBEq, if_true, if_false, Bool.false_eq_true, reduceIte, reduceCtorEq, decide_eq_true_eq, Bool.not_true, Bool.not_false]
end K01

set_option Elab.async false
set_option linter.all false
set_option maxRecDepth 100000
set_option maxHeartbeats 4000000
namespace K01
open Pv
theorem eqD_tup_str (xs : List Int) (z : List Nat) (hz : PySem.PyData.strOk (strV z) = true) : eqD (.tup (xs.map .int)) (.str z) = some false := by
  have h1 : pyd (.tup (xs.map .int)) = some (.tuple (xs.map PySem.PyData.int)) := by simp [pyd, pyds_ints]
  have h2 : PySem.SeqAt.shaped (PySem.PyData.tuple (xs.map PySem.PyData.int)) = true := by
    have := depth_ints xs
    simp [PySem.SeqAt.shaped, PySem.PyData.canLay0, lay_ints, PySem.PyData.depth]; omega
  have h3 : PySem.SeqAt.shaped (PySem.PyData.str (strV z)) = true := by simp [PySem.SeqAt.shaped, PySem.PyData.canLay0, PySem.PyData.depth, hz]
  have h4 : PySem.PyData.eqv (PySem.PyData.tuple (xs.map PySem.PyData.int)) (PySem.PyData.str (strV z)) = false := by first | rfl | simp [PySem.PyData.eqv]
  simp only [eqD]
  rw [h1]
  simp only [Option.bind_some, pyd, h2, h3, h4, Bool.and_self, if_true]
theorem bft : (false == true) = false := rfl
theorem btt : (true == true) = true := rfl
theorem btf : (true == false) = false := rfl
theorem bff : (false == false) = true := rfl
theorem one_at (r : Int) (h0 : 0 ≤ r) (h1 : r < 2) : ∃ e : Int, (e = 1 ∨ e = -1) ∧ L2.atI [D.int 1, .int (-1)] r = some (.int e) := by
  have : r = 0 ∨ r = 1 := by omega
  rcases this with rfl | rfl
  · exact ⟨1, .inl rfl, rfl⟩
  · exact ⟨-1, .inr rfl, rfl⟩

theorem q7 {z0 z3 z4 z5 z6 z7 z8 z9 z11 z12 z13 z14 z15 z16 z17 z18 z19 : Sl} (n : Nat) (a b c : Int) (hn : n < 10 ^ 12) : ∃ (s a' b' c' : Int), (s = n ∨ s = -n) ∧ (sSet 10 (mOp2 dMul (mAt 2) (mVal (mOp2 dIx (mVal (mDisp mkL (mCons (mVal (mC (.int 1))) (mCons (mVal (mOp1 dNeg (mVal (mC (.int 1))))) (mNil))))) (mVal (mCallF [1] 2 m__law_roll (mCons (mAt 1) (mCons (mVal (mC (.int 2))) (mNil))))))))) [z0, .s false (.ow (dice a b c)), .s false (.fr (.int (n : Nat))), z3, z4, z5, z6, z7, z8, z9, .un, z11, z12, z13, z14, z15, z16, z17, z18, z19] = .nx [z0, .s false (.ow (dice a' b' c')), .s false (.fr (.int (n : Nat))), z3, z4, z5, z6, z7, z8, z9, .s false (.fr (.int (s))), z11, z12, z13, z14, z15, z16, z17, z18, z19] := by
  obtain ⟨r, a', b', c', l0, l1, e1⟩ := roll_ok a b c 2 (by omega) (by omega)
  obtain ⟨e, he, e2⟩ := one_at r l0 l1
  refine ⟨n * e, a', b', c', by rcases he with rfl | rfl <;> omega, ?_⟩
  have b1 : okMul (n : Int) e = true := okMul_r (by rcases he with rfl | rfl <;> decide)
  clear hn
  unfold dice at *
  simp -implicitDefEqProofs only [e1, e2, b1, List.all_cons, List.all_nil, bind_ok, bind_er, bind_bad, thenS_ok, thenS_er, thenS_bad, then_nx, then_rt, then_bk, then_ct, then_er, fin_some, ofO_some, e_sSeq, e_sIf, e_sRt, e_sSet, e_sto, e_sAug, e_sFor, e_sPar, e_sAsg, e_sEx, e_sNx, e_sRaise, e_sItem, e_sAppend, e_sRtN, e_sBk, e_sCt, e_mC, e_mRd, e_mFz, e_frz, e_mMv, e_mVal, e_mAt, e_mOp2, e_mOp1, e_tst, e_cond, e_mT, e_mCh, e_mNil, e_mCons, e_mCallN, e_mDisp, e_stoO, e_stTup, e_mRange, e_lstAt, e_callIt, e_mCallF, e_mNoP, e_mSomeP, e_mSl, e_mWalk, e_mComp, e_mGen, e_mTold, e_sTry, e_capsOk, e_dLt, e_dLe, e_dGt, e_dGe, e_dSub, e_dMax2, e_dMin2, e_mNot, e_mB, e_mJoin, Pv.mFun, Pv.entry, Pv.argS, Pv.finals, Pv.see, Pv.sees, Pv.vals, Pv.takes, Pv.pinOf, Pv.back, Pv.atsOk, Pv.allFr, Pv.ds, Pv.mkT, Pv.mkL, Pv.fz, Pv.kidVs, Pv.stAll, Pv.rangeD1, Pv.rangeD2, Pv.markOf, Pv.g1, Pv.g2, Pv.dLen, Pv.dAbs, Pv.dInt, Pv.dTup, Pv.dList, Pv.dAdd, Pv.dMul, Pv.dNeg, Pv.ints2, DV.d, Pv.modI_p, Pv.divI_p, Pv.idivI_p, Pv.imulI_r, Pv.mulI_p, Pv.powI_p, Pv.dSl, Pv.fzs, Pv.walkD, Pv.dRev, Pv.dOrd, Pv.kids, Pv.kidsL, Pv.kidsT, Pv.items, Pv.dIx, Pv.dEq, Pv.dNe, Pv.dIn, Pv.dNotIn, Pv.eqD_int, Pv.eqD_str, Pv.eqD_bl, Pv.kAny, Pv.kTupG, Pv.anyD, Pv.gSl, sz0, sy0, sz1, sy1, sz2, sy2, sz3, sy3, sz4, sy4, sz5, sy5, sz6, sy6, sz7, sy7, sz8, sy8, sz9, sy9, sz10, sy10, sz11, sy11, sz12, sy12, decide_true, decide_false, decide_not, ite_true, ite_false, not_true_eq_false, not_false_eq_true, List.map_nil, List.map_cons, List.length_nil, List.length_cons, List.replicate_succ, List.replicate_zero, List.nil_append, List.cons_append, List.append_nil, List.getElem?_cons_zero, List.getElem?_cons_succ, List.getElem?_nil, List.set_cons_zero, List.set_cons_succ, List.length_replicate, Option.map_some, Option.map_none, Option.bind_some, Option.bind_none, Nat.sub_self, Nat.reduceSub, Nat.reduceAdd, Nat.zero_add, eq_self, List.contains_cons, List.contains_nil, Bool.and_true, Bool.true_and, Bool.or_true, Bool.true_or, Bool.or_false, Bool.false_or, Bool.and_false, Bool.false_and, Bool.and_self, beq_self_eq_true, Nat.reduceBEq, if_true, if_false, Bool.false_eq_true, reduceIte, reduceCtorEq, decide_eq_true_eq, Bool.not_true, Bool.not_false]

theorem q8 {z0 z1 z2 z3 z4 z5 z7 z8 z9 z12 z13 z14 z15 z16 z17 z18 z19 : Sl} (s : Int) (h : Nat) : (sSet 11 (mCh dLe dLt (mVal (mOp1 dNeg (mAt 6))) (mAt 10) (mAt 6))) [z0, z1, z2, z3, z4, z5, .s false (.fr (.int (h : Nat))), z7, z8, z9, .s false (.fr (.int (s))), .un, z12, z13, z14, z15, z16, z17, z18, z19] = .nx [z0, z1, z2, z3, z4, z5, .s false (.fr (.int (h : Nat))), z7, z8, z9, .s false (.fr (.int (s))), .s false (.fr (.bl (decide (-(h : Int) ≤ s ∧ s < (h : Int))))), z12, z13, z14, z15, z16, z17, z18, z19] := by
  by_cases h1 : -(h : Int) ≤ s
  · simp -implicitDefEqProofs only [h1, true_and, bind_ok, bind_er, bind_bad, thenS_ok, thenS_er, thenS_bad, then_nx, then_rt, then_bk, then_ct, then_er, fin_some, ofO_some, e_sSeq, e_sIf, e_sRt, e_sSet, e_sto, e_sAug, e_sFor, e_sPar, e_sAsg, e_sEx, e_sNx, e_sRaise, e_sItem, e_sAppend, e_sRtN, e_sBk, e_sCt, e_mC, e_mRd, e_mFz, e_frz, e_mMv, e_mVal, e_mAt, e_mOp2, e_mOp1, e_tst, e_cond, e_mT, e_mCh, e_mNil, e_mCons, e_mCallN, e_mDisp, e_stoO, e_stTup, e_mRange, e_lstAt, e_callIt, e_mCallF, e_mNoP, e_mSomeP, e_mSl, e_mWalk, e_mComp, e_mGen, e_mTold, e_sTry, e_capsOk, e_dLt, e_dLe, e_dGt, e_dGe, e_dSub, e_dMax2, e_dMin2, e_mNot, e_mB, e_mJoin, Pv.mFun, Pv.entry, Pv.argS, Pv.finals, Pv.see, Pv.sees, Pv.vals, Pv.takes, Pv.pinOf, Pv.back, Pv.atsOk, Pv.allFr, Pv.ds, Pv.mkT, Pv.mkL, Pv.fz, Pv.kidVs, Pv.stAll, Pv.rangeD1, Pv.rangeD2, Pv.markOf, Pv.g1, Pv.g2, Pv.dLen, Pv.dAbs, Pv.dInt, Pv.dTup, Pv.dList, Pv.dAdd, Pv.dMul, Pv.dNeg, Pv.ints2, DV.d, Pv.modI_p, Pv.divI_p, Pv.idivI_p, Pv.imulI_r, Pv.mulI_p, Pv.powI_p, Pv.dSl, Pv.fzs, Pv.walkD, Pv.dRev, Pv.dOrd, Pv.kids, Pv.kidsL, Pv.kidsT, Pv.items, Pv.dIx, Pv.dEq, Pv.dNe, Pv.dIn, Pv.dNotIn, Pv.eqD_int, Pv.eqD_str, Pv.eqD_bl, Pv.kAny, Pv.kTupG, Pv.anyD, Pv.gSl, sz0, sy0, sz1, sy1, sz2, sy2, sz3, sy3, sz4, sy4, sz5, sy5, sz6, sy6, sz7, sy7, sz8, sy8, sz9, sy9, sz10, sy10, sz11, sy11, sz12, sy12, decide_true, decide_false, decide_not, ite_true, ite_false, not_true_eq_false, not_false_eq_true, List.map_nil, List.map_cons, List.length_nil, List.length_cons, List.replicate_succ, List.replicate_zero, List.nil_append, List.cons_append, List.append_nil, List.getElem?_cons_zero, List.getElem?_cons_succ, List.getElem?_nil, List.set_cons_zero, List.set_cons_succ, List.length_replicate, Option.map_some, Option.map_none, Option.bind_some, Option.bind_none, Nat.sub_self, Nat.reduceSub, Nat.reduceAdd, Nat.zero_add, eq_self, List.contains_cons, List.contains_nil, Bool.and_true, Bool.true_and, Bool.or_true, Bool.true_or, Bool.or_false, Bool.false_or, Bool.and_false, Bool.false_and, Bool.and_self, beq_self_eq_true, Nat.reduceBEq, if_true, if_false, Bool.false_eq_true, reduceIte, reduceCtorEq, decide_eq_true_eq, Bool.not_true, Bool.not_false]
  · simp -implicitDefEqProofs only [h1, false_and, bind_ok, bind_er, bind_bad, thenS_ok, thenS_er, thenS_bad, then_nx, then_rt, then_bk, then_ct, then_er, fin_some, ofO_some, e_sSeq, e_sIf, e_sRt, e_sSet, e_sto, e_sAug, e_sFor, e_sPar, e_sAsg, e_sEx, e_sNx, e_sRaise, e_sItem, e_sAppend, e_sRtN, e_sBk, e_sCt, e_mC, e_mRd, e_mFz, e_frz, e_mMv, e_mVal, e_mAt, e_mOp2, e_mOp1, e_tst, e_cond, e_mT, e_mCh, e_mNil, e_mCons, e_mCallN, e_mDisp, e_stoO, e_stTup, e_mRange, e_lstAt, e_callIt, e_mCallF, e_mNoP, e_mSomeP, e_mSl, e_mWalk, e_mComp, e_mGen, e_mTold, e_sTry, e_capsOk, e_dLt, e_dLe, e_dGt, e_dGe, e_dSub, e_dMax2, e_dMin2, e_mNot, e_mB, e_mJoin, Pv.mFun, Pv.entry, Pv.argS, Pv.finals, Pv.see, Pv.sees, Pv.vals, Pv.takes, Pv.pinOf, Pv.back, Pv.atsOk, Pv.allFr, Pv.ds, Pv.mkT, Pv.mkL, Pv.fz, Pv.kidVs, Pv.stAll, Pv.rangeD1, Pv.rangeD2, Pv.markOf, Pv.g1, Pv.g2, Pv.dLen, Pv.dAbs, Pv.dInt, Pv.dTup, Pv.dList, Pv.dAdd, Pv.dMul, Pv.dNeg, Pv.ints2, DV.d, Pv.modI_p, Pv.divI_p, Pv.idivI_p, Pv.imulI_r, Pv.mulI_p, Pv.powI_p, Pv.dSl, Pv.fzs, Pv.walkD, Pv.dRev, Pv.dOrd, Pv.kids, Pv.kidsL, Pv.kidsT, Pv.items, Pv.dIx, Pv.dEq, Pv.dNe, Pv.dIn, Pv.dNotIn, Pv.eqD_int, Pv.eqD_str, Pv.eqD_bl, Pv.kAny, Pv.kTupG, Pv.anyD, Pv.gSl, sz0, sy0, sz1, sy1, sz2, sy2, sz3, sy3, sz4, sy4, sz5, sy5, sz6, sy6, sz7, sy7, sz8, sy8, sz9, sy9, sz10, sy10, sz11, sy11, sz12, sy12, decide_true, decide_false, decide_not, ite_true, ite_false, not_true_eq_false, not_false_eq_true, List.map_nil, List.map_cons, List.length_nil, List.length_cons, List.replicate_succ, List.replicate_zero, List.nil_append, List.cons_append, List.append_nil, List.getElem?_cons_zero, List.getElem?_cons_succ, List.getElem?_nil, List.set_cons_zero, List.set_cons_succ, List.length_replicate, Option.map_some, Option.map_none, Option.bind_some, Option.bind_none, Nat.sub_self, Nat.reduceSub, Nat.reduceAdd, Nat.zero_add, eq_self, List.contains_cons, List.contains_nil, Bool.and_true, Bool.true_and, Bool.or_true, Bool.true_or, Bool.or_false, Bool.false_or, Bool.and_false, Bool.false_and, Bool.and_self, beq_self_eq_true, Nat.reduceBEq, if_true, if_false, Bool.false_eq_true, reduceIte, reduceCtorEq, decide_eq_true_eq, Bool.not_true, Bool.not_false]

theorem q9 {z0 z1 z2 z4 z5 z6 z7 z8 z9 z12 z13 z14 z15 z16 z17 z18 z19 : Sl} (s : Int) (m : Nat) (h1 : 1 ≤ m) (h8 : m ≤ 8) : (sIf (cond (tst (mOp2 dNe (mVal (mCallF [10, 3] 2 m_fits_signed (mCons (mAt 10) (mCons (mAt 3) (mNil))))) (mAt 11))) (mT true) (tst (mOp2 dEq (mVal (mOp2 dEq (mVal (mTold nEx sub_WordError [87, 111, 114, 100, 69, 114, 114, 111, 114] (mCallF [10, 3] 2 m_packed_signed (mCons (mAt 10) (mCons (mAt 3) (mNil)))))) (mVal (mC (.str [87, 111, 114, 100, 69, 114, 114, 111, 114]))))) (mAt 11))))
  (sRt (mC (.bl false)))
  (sNx)) [z0, z1, z2, .s false (.fr (.int (m : Nat))), z4, z5, z6, z7, z8, z9, .s false (.fr (.int (s))), .s false (.fr (.bl (decide (-((2 ^ (8 * m - 1) : Nat) : Int) ≤ s ∧ s < ((2 ^ (8 * m - 1) : Nat) : Int))))), z12, z13, z14, z15, z16, z17, z18, z19] = .nx [z0, z1, z2, .s false (.fr (.int (m : Nat))), z4, z5, z6, z7, z8, z9, .s false (.fr (.int (s))), .s false (.fr (.bl (decide (-((2 ^ (8 * m - 1) : Nat) : Int) ≤ s ∧ s < ((2 ^ (8 * m - 1) : Nat) : Int))))), z12, z13, z14, z15, z16, z17, z18, z19] := by
  have e0 := fits_eq s m h1 h8
  by_cases hn : -((2 ^ (8 * m - 1) : Nat) : Int) ≤ s ∧ s < ((2 ^ (8 * m - 1) : Nat) : Int)
  · have e1 := packed_signed_ok s m h1 h8 hn.1 hn.2
    have e2 : eqD (.tup (rowd m (twos s m))) (.str [87, 111, 114, 100, 69, 114, 114, 111, 114]) = some false := eqD_tup_str _ _ (by kernel_rfl)
    rw [decide_eq_true hn] at *
    clear hn
    generalize rowd m (twos s m) = L at *
    simp -implicitDefEqProofs only [e0, e1, e2, bft, btt, bff, btf, bind_ok, bind_er, bind_bad, thenS_ok, thenS_er, thenS_bad, then_nx, then_rt, then_bk, then_ct, then_er, fin_some, ofO_some, e_sSeq, e_sIf, e_sRt, e_sSet, e_sto, e_sAug, e_sFor, e_sPar, e_sAsg, e_sEx, e_sNx, e_sRaise, e_sItem, e_sAppend, e_sRtN, e_sBk, e_sCt, e_mC, e_mRd, e_mFz, e_frz, e_mMv, e_mVal, e_mAt, e_mOp2, e_mOp1, e_tst, e_cond, e_mT, e_mCh, e_mNil, e_mCons, e_mCallN, e_mDisp, e_stoO, e_stTup, e_mRange, e_lstAt, e_callIt, e_mCallF, e_mNoP, e_mSomeP, e_mSl, e_mWalk, e_mComp, e_mGen, e_mTold, e_sTry, e_capsOk, e_dLt, e_dLe, e_dGt, e_dGe, e_dSub, e_dMax2, e_dMin2, e_mNot, e_mB, e_mJoin, Pv.mFun, Pv.entry, Pv.argS, Pv.finals, Pv.see, Pv.sees, Pv.vals, Pv.takes, Pv.pinOf, Pv.back, Pv.atsOk, Pv.allFr, Pv.ds, Pv.mkT, Pv.mkL, Pv.fz, Pv.kidVs, Pv.stAll, Pv.rangeD1, Pv.rangeD2, Pv.markOf, Pv.g1, Pv.g2, Pv.dLen, Pv.dAbs, Pv.dInt, Pv.dTup, Pv.dList, Pv.dAdd, Pv.dMul, Pv.dNeg, Pv.ints2, DV.d, Pv.modI_p, Pv.divI_p, Pv.idivI_p, Pv.imulI_r, Pv.mulI_p, Pv.powI_p, Pv.dSl, Pv.fzs, Pv.walkD, Pv.dRev, Pv.dOrd, Pv.kids, Pv.kidsL, Pv.kidsT, Pv.items, Pv.dIx, Pv.dEq, Pv.dNe, Pv.dIn, Pv.dNotIn, Pv.eqD_int, Pv.eqD_str, Pv.eqD_bl, Pv.kAny, Pv.kTupG, Pv.anyD, Pv.gSl, sz0, sy0, sz1, sy1, sz2, sy2, sz3, sy3, sz4, sy4, sz5, sy5, sz6, sy6, sz7, sy7, sz8, sy8, sz9, sy9, sz10, sy10, sz11, sy11, sz12, sy12, decide_true, decide_false, decide_not, ite_true, ite_false, not_true_eq_false, not_false_eq_true, List.map_nil, List.map_cons, List.length_nil, List.length_cons, List.replicate_succ, List.replicate_zero, List.nil_append, List.cons_append, List.append_nil, List.getElem?_cons_zero, List.getElem?_cons_succ, List.getElem?_nil, List.set_cons_zero, List.set_cons_succ, List.length_replicate, Option.map_some, Option.map_none, Option.bind_some, Option.bind_none, Nat.sub_self, Nat.reduceSub, Nat.reduceAdd, Nat.zero_add, eq_self, List.contains_cons, List.contains_nil, Bool.and_true, Bool.true_and, Bool.or_true, Bool.true_or, Bool.or_false, Bool.false_or, Bool.and_false, Bool.false_and, Bool.and_self, beq_self_eq_true, Nat.reduceBEq, if_true, if_false, Bool.false_eq_true, reduceIte, reduceCtorEq, decide_eq_true_eq, Bool.not_true, Bool.not_false]
  · have e1 := packed_signed_no s m h1 h8 hn
    rw [decide_eq_false hn] at *
    clear hn
    simp -implicitDefEqProofs only [e0, e1, sub_WordError, nEx, Nat.zero_lt_succ, List.getD_cons_zero, and_self, bft, btt, bff, btf, bind_ok, bind_er, bind_bad, thenS_ok, thenS_er, thenS_bad, then_nx, then_rt, then_bk, then_ct, then_er, fin_some, ofO_some, e_sSeq, e_sIf, e_sRt, e_sSet, e_sto, e_sAug, e_sFor, e_sPar, e_sAsg, e_sEx, e_sNx, e_sRaise, e_sItem, e_sAppend, e_sRtN, e_sBk, e_sCt, e_mC, e_mRd, e_mFz, e_frz, e_mMv, e_mVal, e_mAt, e_mOp2, e_mOp1, e_tst, e_cond, e_mT, e_mCh, e_mNil, e_mCons, e_mCallN, e_mDisp, e_stoO, e_stTup, e_mRange, e_lstAt, e_callIt, e_mCallF, e_mNoP, e_mSomeP, e_mSl, e_mWalk, e_mComp, e_mGen, e_mTold, e_sTry, e_capsOk, e_dLt, e_dLe, e_dGt, e_dGe, e_dSub, e_dMax2, e_dMin2, e_mNot, e_mB, e_mJoin, Pv.mFun, Pv.entry, Pv.argS, Pv.finals, Pv.see, Pv.sees, Pv.vals, Pv.takes, Pv.pinOf, Pv.back, Pv.atsOk, Pv.allFr, Pv.ds, Pv.mkT, Pv.mkL, Pv.fz, Pv.kidVs, Pv.stAll, Pv.rangeD1, Pv.rangeD2, Pv.markOf, Pv.g1, Pv.g2, Pv.dLen, Pv.dAbs, Pv.dInt, Pv.dTup, Pv.dList, Pv.dAdd, Pv.dMul, Pv.dNeg, Pv.ints2, DV.d, Pv.modI_p, Pv.divI_p, Pv.idivI_p, Pv.imulI_r, Pv.mulI_p, Pv.powI_p, Pv.dSl, Pv.fzs, Pv.walkD, Pv.dRev, Pv.dOrd, Pv.kids, Pv.kidsL, Pv.kidsT, Pv.items, Pv.dIx, Pv.dEq, Pv.dNe, Pv.dIn, Pv.dNotIn, Pv.eqD_int, Pv.eqD_str, Pv.eqD_bl, Pv.kAny, Pv.kTupG, Pv.anyD, Pv.gSl, sz0, sy0, sz1, sy1, sz2, sy2, sz3, sy3, sz4, sy4, sz5, sy5, sz6, sy6, sz7, sy7, sz8, sy8, sz9, sy9, sz10, sy10, sz11, sy11, sz12, sy12, decide_true, decide_false, decide_not, ite_true, ite_false, not_true_eq_false, not_false_eq_true, List.map_nil, List.map_cons, List.length_nil, List.length_cons, List.replicate_succ, List.replicate_zero, List.nil_append, List.cons_append, List.append_nil, List.getElem?_cons_zero, List.getElem?_cons_succ, List.getElem?_nil, List.set_cons_zero, List.set_cons_succ, List.length_replicate, Option.map_some, Option.map_none, Option.bind_some, Option.bind_none, Nat.sub_self, Nat.reduceSub, Nat.reduceAdd, Nat.zero_add, eq_self, List.contains_cons, List.contains_nil, Bool.and_true, Bool.true_and, Bool.or_true, Bool.true_or, Bool.or_false, Bool.false_or, Bool.and_false, Bool.false_and, Bool.and_self, beq_self_eq_true, Nat.reduceBEq, if_true, if_false, Bool.false_eq_true, reduceIte, reduceCtorEq, decide_eq_true_eq, Bool.not_true, Bool.not_false]

theorem q10 {z0 z1 z2 z6 z7 z8 z9 z12 z13 z14 z15 z16 z17 z18 z19 : Sl} (s : Int) (n m p : Nat) (h1 : 1 ≤ m) (h8 : m ≤ 8) (hp : p < 3) (hs : s = n ∨ s = -n) : (sIf (cond (tst (mRd 11)) (cond (tst (mOp2 dNe (mVal (mCallF [4, 3] 3 m_unpacked_signed (mCons (mVal (mOp2 dAdd (mVal (mOp2 dMul (mVal (mDisp mkL (mCons (mVal (mC (.int 7))) (mNil)))) (mAt 4))) (mVal (mCallN (g1 dList) (mCons (mVal (mCallF [10, 3] 2 m_packed_signed (mCons (mAt 10) (mCons (mAt 3) (mNil))))) (mNil)))))) (mCons (mAt 4) (mCons (mAt 3) (mNil)))))) (mAt 10))) (mT true) (cond (tst (mOp2 dGe (mAt 10) (mVal (mC (.int 0))))) (tst (mOp2 dNe (mVal (mCallN (g1 dList) (mCons (mVal (mCallF [10, 3] 2 m_packed_signed (mCons (mAt 10) (mCons (mAt 3) (mNil))))) (mNil)))) (mAt 5))) (mT false))) (mT false))
  (sRt (mC (.bl false)))
  (sNx)) [z0, z1, z2, .s false (.fr (.int (m : Nat))), .s false (.fr (.int (p : Nat))), .s false (.ow (.lst .own (rowd m n))), z6, z7, z8, z9, .s false (.fr (.int (s))), .s false (.fr (.bl (decide (-((2 ^ (8 * m - 1) : Nat) : Int) ≤ s ∧ s < ((2 ^ (8 * m - 1) : Nat) : Int))))), z12, z13, z14, z15, z16, z17, z18, z19] = .nx [z0, z1, z2, .s false (.fr (.int (m : Nat))), .s false (.fr (.int (p : Nat))), .s false (.ow (.lst .own (rowd m n))), z6, z7, z8, z9, .s false (.fr (.int (s))), .s false (.fr (.bl (decide (-((2 ^ (8 * m - 1) : Nat) : Int) ≤ s ∧ s < ((2 ^ (8 * m - 1) : Nat) : Int))))), z12, z13, z14, z15, z16, z17, z18, z19] := by
  by_cases hn : -((2 ^ (8 * m - 1) : Nat) : Int) ≤ s ∧ s < ((2 ^ (8 * m - 1) : Nat) : Int)
  · have a1 : ((List.replicate p (7 : Int) ++ (rowi m (twos s m) ++ [])).drop p).take m = rowi m (twos s m) := by
      have := take_mid p 7 (rowi m (twos s m)) []
      rwa [rowi_len] at this
    rw [List.append_nil] at a1
    have e1 := unpacked_signed_ok (xs := List.replicate p 7 ++ rowi m (twos s m)) (p := p) (m := m) h1 h8 (by simp [rowi_len]) (by rw [a1]; exact rowi_bytes m _)
    rw [a1, val_rowi m _ (by rw [pow_256]; exact twos_lt s m), twos_back s m h1 hn.1 hn.2] at e1
    have e0 := packed_signed_ok s m h1 h8 hn.1 hn.2
    have e2 := rep_ok p (by omega)
    have e2' := rep_flat p 7
    have e4 : ((List.replicate p (7 : Int)).map D.int).length + ((rowi m (twos s m)).map D.int).length ≤ PySem.sizeLine := Nat.le_trans (show _ ≤ 20 by simp [rowi_len]; omega) (by decide)
    have e5 : (List.replicate p (7 : Int)).map D.int ++ (rowi m (twos s m)).map D.int = (List.replicate p 7 ++ rowi m (twos s m)).map D.int := by simp
    have e7 : 0 ≤ s → eqD (.lst .own (rowd m (twos s m))) (.lst .own (rowd m n)) = some true := fun h0 => by
      have hsn : s = n := by omega
      have := half_two m h1
      rw [twos_pos s m n hsn (by omega)]
      exact eqD_lst _ _ _
    rw [decide_eq_true hn]
    clear hn a1
    unfold rowd at *
    rw [← e5] at e1
    clear e5 hs
    generalize (rowi m (twos s m)).map D.int = L at *
    generalize (rowi m n).map D.int = L2 at *
    generalize (List.replicate p (7 : Int)).map D.int = M at *
    have e8 : L.length ≤ PySem.sizeLine := by omega
    by_cases h0 : 0 ≤ s
    · have e7' := e7 h0
      simp -implicitDefEqProofs only [e0, e1, e2, e2', e4, e7', e8, h0, bind_ok, bind_er, bind_bad, thenS_ok, thenS_er, thenS_bad, then_nx, then_rt, then_bk, then_ct, then_er, fin_some, ofO_some, e_sSeq, e_sIf, e_sRt, e_sSet, e_sto, e_sAug, e_sFor, e_sPar, e_sAsg, e_sEx, e_sNx, e_sRaise, e_sItem, e_sAppend, e_sRtN, e_sBk, e_sCt, e_mC, e_mRd, e_mFz, e_frz, e_mMv, e_mVal, e_mAt, e_mOp2, e_mOp1, e_tst, e_cond, e_mT, e_mCh, e_mNil, e_mCons, e_mCallN, e_mDisp, e_stoO, e_stTup, e_mRange, e_lstAt, e_callIt, e_mCallF, e_mNoP, e_mSomeP, e_mSl, e_mWalk, e_mComp, e_mGen, e_mTold, e_sTry, e_capsOk, e_dLt, e_dLe, e_dGt, e_dGe, e_dSub, e_dMax2, e_dMin2, e_mNot, e_mB, e_mJoin, Pv.mFun, Pv.entry, Pv.argS, Pv.finals, Pv.see, Pv.sees, Pv.vals, Pv.takes, Pv.pinOf, Pv.back, Pv.atsOk, Pv.allFr, Pv.ds, Pv.mkT, Pv.mkL, Pv.fz, Pv.kidVs, Pv.stAll, Pv.rangeD1, Pv.rangeD2, Pv.markOf, Pv.g1, Pv.g2, Pv.dLen, Pv.dAbs, Pv.dInt, Pv.dTup, Pv.dList, Pv.dAdd, Pv.dMul, Pv.dNeg, Pv.ints2, DV.d, Pv.modI_p, Pv.divI_p, Pv.idivI_p, Pv.imulI_r, Pv.mulI_p, Pv.powI_p, Pv.dSl, Pv.fzs, Pv.walkD, Pv.dRev, Pv.dOrd, Pv.kids, Pv.kidsL, Pv.kidsT, Pv.items, Pv.dIx, Pv.dEq, Pv.dNe, Pv.dIn, Pv.dNotIn, Pv.eqD_int, Pv.eqD_str, Pv.eqD_bl, Pv.kAny, Pv.kTupG, Pv.anyD, Pv.gSl, sz0, sy0, sz1, sy1, sz2, sy2, sz3, sy3, sz4, sy4, sz5, sy5, sz6, sy6, sz7, sy7, sz8, sy8, sz9, sy9, sz10, sy10, sz11, sy11, sz12, sy12, decide_true, decide_false, decide_not, ite_true, ite_false, not_true_eq_false, not_false_eq_true, List.map_nil, List.map_cons, List.length_nil, List.length_cons, List.replicate_succ, List.replicate_zero, List.nil_append, List.cons_append, List.append_nil, List.getElem?_cons_zero, List.getElem?_cons_succ, List.getElem?_nil, List.set_cons_zero, List.set_cons_succ, List.length_replicate, Option.map_some, Option.map_none, Option.bind_some, Option.bind_none, Nat.sub_self, Nat.reduceSub, Nat.reduceAdd, Nat.zero_add, eq_self, List.contains_cons, List.contains_nil, Bool.and_true, Bool.true_and, Bool.or_true, Bool.true_or, Bool.or_false, Bool.false_or, Bool.and_false, Bool.false_and, Bool.and_self, beq_self_eq_true, Nat.reduceBEq, if_true, if_false, Bool.false_eq_true, reduceIte, reduceCtorEq, decide_eq_true_eq, Bool.not_true, Bool.not_false]
    · simp -implicitDefEqProofs only [e0, e1, e2, e2', e4, e8, h0, bind_ok, bind_er, bind_bad, thenS_ok, thenS_er, thenS_bad, then_nx, then_rt, then_bk, then_ct, then_er, fin_some, ofO_some, e_sSeq, e_sIf, e_sRt, e_sSet, e_sto, e_sAug, e_sFor, e_sPar, e_sAsg, e_sEx, e_sNx, e_sRaise, e_sItem, e_sAppend, e_sRtN, e_sBk, e_sCt, e_mC, e_mRd, e_mFz, e_frz, e_mMv, e_mVal, e_mAt, e_mOp2, e_mOp1, e_tst, e_cond, e_mT, e_mCh, e_mNil, e_mCons, e_mCallN, e_mDisp, e_stoO, e_stTup, e_mRange, e_lstAt, e_callIt, e_mCallF, e_mNoP, e_mSomeP, e_mSl, e_mWalk, e_mComp, e_mGen, e_mTold, e_sTry, e_capsOk, e_dLt, e_dLe, e_dGt, e_dGe, e_dSub, e_dMax2, e_dMin2, e_mNot, e_mB, e_mJoin, Pv.mFun, Pv.entry, Pv.argS, Pv.finals, Pv.see, Pv.sees, Pv.vals, Pv.takes, Pv.pinOf, Pv.back, Pv.atsOk, Pv.allFr, Pv.ds, Pv.mkT, Pv.mkL, Pv.fz, Pv.kidVs, Pv.stAll, Pv.rangeD1, Pv.rangeD2, Pv.markOf, Pv.g1, Pv.g2, Pv.dLen, Pv.dAbs, Pv.dInt, Pv.dTup, Pv.dList, Pv.dAdd, Pv.dMul, Pv.dNeg, Pv.ints2, DV.d, Pv.modI_p, Pv.divI_p, Pv.idivI_p, Pv.imulI_r, Pv.mulI_p, Pv.powI_p, Pv.dSl, Pv.fzs, Pv.walkD, Pv.dRev, Pv.dOrd, Pv.kids, Pv.kidsL, Pv.kidsT, Pv.items, Pv.dIx, Pv.dEq, Pv.dNe, Pv.dIn, Pv.dNotIn, Pv.eqD_int, Pv.eqD_str, Pv.eqD_bl, Pv.kAny, Pv.kTupG, Pv.anyD, Pv.gSl, sz0, sy0, sz1, sy1, sz2, sy2, sz3, sy3, sz4, sy4, sz5, sy5, sz6, sy6, sz7, sy7, sz8, sy8, sz9, sy9, sz10, sy10, sz11, sy11, sz12, sy12, decide_true, decide_false, decide_not, ite_true, ite_false, not_true_eq_false, not_false_eq_true, List.map_nil, List.map_cons, List.length_nil, List.length_cons, List.replicate_succ, List.replicate_zero, List.nil_append, List.cons_append, List.append_nil, List.getElem?_cons_zero, List.getElem?_cons_succ, List.getElem?_nil, List.set_cons_zero, List.set_cons_succ, List.length_replicate, Option.map_some, Option.map_none, Option.bind_some, Option.bind_none, Nat.sub_self, Nat.reduceSub, Nat.reduceAdd, Nat.zero_add, eq_self, List.contains_cons, List.contains_nil, Bool.and_true, Bool.true_and, Bool.or_true, Bool.true_or, Bool.or_false, Bool.false_or, Bool.and_false, Bool.false_and, Bool.and_self, beq_self_eq_true, Nat.reduceBEq, if_true, if_false, Bool.false_eq_true, reduceIte, reduceCtorEq, decide_eq_true_eq, Bool.not_true, Bool.not_false]
  · rw [decide_eq_false hn]
    clear hn
    generalize rowd m n = L at *
    simp -implicitDefEqProofs only [bind_ok, bind_er, bind_bad, thenS_ok, thenS_er, thenS_bad, then_nx, then_rt, then_bk, then_ct, then_er, fin_some, ofO_some, e_sSeq, e_sIf, e_sRt, e_sSet, e_sto, e_sAug, e_sFor, e_sPar, e_sAsg, e_sEx, e_sNx, e_sRaise, e_sItem, e_sAppend, e_sRtN, e_sBk, e_sCt, e_mC, e_mRd, e_mFz, e_frz, e_mMv, e_mVal, e_mAt, e_mOp2, e_mOp1, e_tst, e_cond, e_mT, e_mCh, e_mNil, e_mCons, e_mCallN, e_mDisp, e_stoO, e_stTup, e_mRange, e_lstAt, e_callIt, e_mCallF, e_mNoP, e_mSomeP, e_mSl, e_mWalk, e_mComp, e_mGen, e_mTold, e_sTry, e_capsOk, e_dLt, e_dLe, e_dGt, e_dGe, e_dSub, e_dMax2, e_dMin2, e_mNot, e_mB, e_mJoin, Pv.mFun, Pv.entry, Pv.argS, Pv.finals, Pv.see, Pv.sees, Pv.vals, Pv.takes, Pv.pinOf, Pv.back, Pv.atsOk, Pv.allFr, Pv.ds, Pv.mkT, Pv.mkL, Pv.fz, Pv.kidVs, Pv.stAll, Pv.rangeD1, Pv.rangeD2, Pv.markOf, Pv.g1, Pv.g2, Pv.dLen, Pv.dAbs, Pv.dInt, Pv.dTup, Pv.dList, Pv.dAdd, Pv.dMul, Pv.dNeg, Pv.ints2, DV.d, Pv.modI_p, Pv.divI_p, Pv.idivI_p, Pv.imulI_r, Pv.mulI_p, Pv.powI_p, Pv.dSl, Pv.fzs, Pv.walkD, Pv.dRev, Pv.dOrd, Pv.kids, Pv.kidsL, Pv.kidsT, Pv.items, Pv.dIx, Pv.dEq, Pv.dNe, Pv.dIn, Pv.dNotIn, Pv.eqD_int, Pv.eqD_str, Pv.eqD_bl, Pv.kAny, Pv.kTupG, Pv.anyD, Pv.gSl, sz0, sy0, sz1, sy1, sz2, sy2, sz3, sy3, sz4, sy4, sz5, sy5, sz6, sy6, sz7, sy7, sz8, sy8, sz9, sy9, sz10, sy10, sz11, sy11, sz12, sy12, decide_true, decide_false, decide_not, ite_true, ite_false, not_true_eq_false, not_false_eq_true, List.map_nil, List.map_cons, List.length_nil, List.length_cons, List.replicate_succ, List.replicate_zero, List.nil_append, List.cons_append, List.append_nil, List.getElem?_cons_zero, List.getElem?_cons_succ, List.getElem?_nil, List.set_cons_zero, List.set_cons_succ, List.length_replicate, Option.map_some, Option.map_none, Option.bind_some, Option.bind_none, Nat.sub_self, Nat.reduceSub, Nat.reduceAdd, Nat.zero_add, eq_self, List.contains_cons, List.contains_nil, Bool.and_true, Bool.true_and, Bool.or_true, Bool.true_or, Bool.or_false, Bool.false_or, Bool.and_false, Bool.false_and, Bool.and_self, beq_self_eq_true, Nat.reduceBEq, if_true, if_false, Bool.false_eq_true, reduceIte, reduceCtorEq, decide_eq_true_eq, Bool.not_true, Bool.not_false]
end K01

set_option Elab.async false
set_option linter.all false
set_option maxRecDepth 100000
set_option maxHeartbeats 4000000
namespace K01
open Pv
theorem q11 {z0 z1 z3 z5 z6 z7 z8 z9 z10 z11 z12 z13 z14 z15 z16 z17 z18 z19 : Sl} (n p : Nat) (hn : n < 10 ^ 12) (hp : p < 3) : (sIf (cond (tst (mOp2 dNe (mVal (mCallN (g1 dList) (mCons (mVal (mCallF [2] 1 m_seven (mCons (mAt 2) (mNil)))) (mNil)))) (mVal (mCallF [2] 1 m__law_seven (mCons (mAt 2) (mNil)))))) (mT true) (tst (mOp2 dNe (mVal (mCallF [4] 2 m_read_seven (mCons (mVal (mOp2 dAdd (mVal (mOp2 dAdd (mVal (mOp2 dMul (mVal (mDisp mkL (mCons (mVal (mC (.int 200))) (mNil)))) (mAt 4))) (mVal (mCallF [2] 1 m__law_seven (mCons (mAt 2) (mNil)))))) (mVal (mDisp mkL (mCons (mVal (mC (.int 5))) (mNil)))))) (mCons (mAt 4) (mNil))))) (mVal (mDisp mkT (mCons (mVal (mFz 2)) (mCons (mVal (mOp2 dAdd (mAt 4) (mVal (mCallN (g1 dLen) (mCons (mVal (mCallF [2] 1 m__law_seven (mCons (mAt 2) (mNil)))) (mNil)))))) (mNil))))))))
  (sRt (mC (.bl false)))
  (sNx)) [z0, z1, .s false (.fr (.int (n : Nat))), z3, .s false (.fr (.int (p : Nat))), z5, z6, z7, z8, z9, z10, z11, z12, z13, z14, z15, z16, z17, z18, z19] = .nx [z0, z1, .s false (.fr (.int (n : Nat))), z3, .s false (.fr (.int (p : Nat))), z5, z6, z7, z8, z9, z10, z11, z12, z13, z14, z15, z16, z17, z18, z19] := by
  have h0 : n < 128 ^ 10 := Nat.lt_trans hn (by decide)
  have e0 := seven_eq n h0
  have e1 : m__law_seven [.fr (.int n)] = .ok (.ow (.lst .own ((sev n).map .int))) [.un] := (law_seven_eq 12 n (Nat.lt_trans hn (by decide)) (by omega)).resolve_right (by omega)
  obtain ⟨hs, hv⟩ := sev_sv 9 n h0
  have hl : (sev n).length ≤ 10 := sev_len 9 n h0
  have e2 := read_eq (xs := List.replicate p 200 ++ (sev n ++ [5])) (p := p) hs (drop_mid p 200 (sev n) [5]) hl
  rw [hv] at e2
  have e3 : eqD (.lst .own ((sev n).map .int)) (.lst .own ((sev n).map .int)) = some true := eqD_lst _ _ _
  have e4 := rep_ok p (by omega)
  have e5 := rep_flat p 200
  have e6 : ((List.replicate p (200 : Int)).map D.int).length + ((sev n).map D.int).length ≤ PySem.sizeLine := Nat.le_trans (show _ ≤ 20 by simp; omega) (by decide)
  have e7 : ((List.replicate p (200 : Int)).map D.int ++ (sev n).map D.int).length + 1 ≤ PySem.sizeLine := Nat.le_trans (show _ ≤ 20 by simp; omega) (by decide)
  have e8 : (List.replicate p (200 : Int)).map D.int ++ (sev n).map D.int ++ [.int 5] = (List.replicate p 200 ++ (sev n ++ [5])).map D.int := by simp
  have e9 : ((p + (sev n).length : Nat) : Int) = (p : Int) + (((sev n).map D.int).length : Nat) := by simp
  have e11 : eqD (.tup [.int (n : Int), .int ((p : Int) + (((sev n).map D.int).length : Nat))]) (.tup [.int (n : Int), .int ((p : Int) + (((sev n).map D.int).length : Nat))]) = some true := eqD_tup [(n : Int), (p : Int) + (((sev n).map D.int).length : Nat)]
  rw [e9, ← e8] at e2
  have e12 : ((sev n).map D.int).length ≤ PySem.sizeLine := by omega
  clear hn h0 hs hv hl e8 e9 hp
  generalize (sev n).map D.int = L at *
  generalize (List.replicate p (200 : Int)).map D.int = M at *
  generalize hq : (p : Int) + (L.length : Nat) = q at *
  simp -implicitDefEqProofs only [e0, e1, e2, e3, e4, e5, e6, e7, e11, e12, hq, bind_ok, bind_er, bind_bad, thenS_ok, thenS_er, thenS_bad, then_nx, then_rt, then_bk, then_ct, then_er, fin_some, ofO_some, e_sSeq, e_sIf, e_sRt, e_sSet, e_sto, e_sAug, e_sFor, e_sPar, e_sAsg, e_sEx, e_sNx, e_sRaise, e_sItem, e_sAppend, e_sRtN, e_sBk, e_sCt, e_mC, e_mRd, e_mFz, e_frz, e_mMv, e_mVal, e_mAt, e_mOp2, e_mOp1, e_tst, e_cond, e_mT, e_mCh, e_mNil, e_mCons, e_mCallN, e_mDisp, e_stoO, e_stTup, e_mRange, e_lstAt, e_callIt, e_mCallF, e_mNoP, e_mSomeP, e_mSl, e_mWalk, e_mComp, e_mGen, e_mTold, e_sTry, e_capsOk, e_dLt, e_dLe, e_dGt, e_dGe, e_dSub, e_dMax2, e_dMin2, e_mNot, e_mB, e_mJoin, Pv.mFun, Pv.entry, Pv.argS, Pv.finals, Pv.see, Pv.sees, Pv.vals, Pv.takes, Pv.pinOf, Pv.back, Pv.atsOk, Pv.allFr, Pv.ds, Pv.mkT, Pv.mkL, Pv.fz, Pv.kidVs, Pv.stAll, Pv.rangeD1, Pv.rangeD2, Pv.markOf, Pv.g1, Pv.g2, Pv.dLen, Pv.dAbs, Pv.dInt, Pv.dTup, Pv.dList, Pv.dAdd, Pv.dMul, Pv.dNeg, Pv.ints2, DV.d, Pv.modI_p, Pv.divI_p, Pv.idivI_p, Pv.imulI_r, Pv.mulI_p, Pv.powI_p, Pv.dSl, Pv.fzs, Pv.walkD, Pv.dRev, Pv.dOrd, Pv.kids, Pv.kidsL, Pv.kidsT, Pv.items, Pv.dIx, Pv.dEq, Pv.dNe, Pv.dIn, Pv.dNotIn, Pv.eqD_int, Pv.eqD_str, Pv.eqD_bl, Pv.kAny, Pv.kTupG, Pv.anyD, Pv.gSl, sz0, sy0, sz1, sy1, sz2, sy2, sz3, sy3, sz4, sy4, sz5, sy5, sz6, sy6, sz7, sy7, sz8, sy8, sz9, sy9, sz10, sy10, sz11, sy11, sz12, sy12, decide_true, decide_false, decide_not, ite_true, ite_false, not_true_eq_false, not_false_eq_true, List.map_nil, List.map_cons, List.length_nil, List.length_cons, List.replicate_succ, List.replicate_zero, List.nil_append, List.cons_append, List.append_nil, List.getElem?_cons_zero, List.getElem?_cons_succ, List.getElem?_nil, List.set_cons_zero, List.set_cons_succ, List.length_replicate, Option.map_some, Option.map_none, Option.bind_some, Option.bind_none, Nat.sub_self, Nat.reduceSub, Nat.reduceAdd, Nat.zero_add, eq_self, List.contains_cons, List.contains_nil, Bool.and_true, Bool.true_and, Bool.or_true, Bool.true_or, Bool.or_false, Bool.false_or, Bool.and_false, Bool.false_and, Bool.and_self, beq_self_eq_true, Nat.reduceBEq, if_true, if_false, Bool.false_eq_true, reduceIte, reduceCtorEq, decide_eq_true_eq, Bool.not_true, Bool.not_false]

theorem q12 {z0 z1 z2 z3 z5 z6 z7 z8 z9 z11 z12 z13 z14 z15 z16 z17 z18 z19 : Sl} (p : Nat) (s : Int) (hs : -(10 ^ 12) < s ∧ s < 10 ^ 12) (hp : p < 3) : (sIf (cond (tst (mOp2 dNe (mVal (mCallN (g1 dList) (mCons (mVal (mCallF [10] 1 m_seven_signed (mCons (mAt 10) (mNil)))) (mNil)))) (mVal (mCallF [10] 1 m__law_signed (mCons (mAt 10) (mNil)))))) (mT true) (tst (mOp2 dNe (mVal (mCallF [4] 2 m_read_seven_signed (mCons (mVal (mOp2 dAdd (mVal (mOp2 dAdd (mVal (mOp2 dMul (mVal (mDisp mkL (mCons (mVal (mC (.int 200))) (mNil)))) (mAt 4))) (mVal (mCallF [10] 1 m__law_signed (mCons (mAt 10) (mNil)))))) (mVal (mDisp mkL (mCons (mVal (mC (.int 5))) (mNil)))))) (mCons (mAt 4) (mNil))))) (mVal (mDisp mkT (mCons (mVal (mFz 10)) (mCons (mVal (mOp2 dAdd (mAt 4) (mVal (mCallN (g1 dLen) (mCons (mVal (mCallF [10] 1 m__law_signed (mCons (mAt 10) (mNil)))) (mNil)))))) (mNil))))))))
  (sRt (mC (.bl false)))
  (sNx)) [z0, z1, z2, z3, .s false (.fr (.int (p : Nat))), z5, z6, z7, z8, z9, .s false (.fr (.int (s))), z11, z12, z13, z14, z15, z16, z17, z18, z19] = .nx [z0, z1, z2, z3, .s false (.fr (.int (p : Nat))), z5, z6, z7, z8, z9, .s false (.fr (.int (s))), z11, z12, z13, z14, z15, z16, z17, z18, z19] := by
  have h0 : ft 9 s := by unfold ft; constructor <;> omega
  have e0 := seven_signed_eq s h0
  have e1 : m__law_signed [.fr (.int s)] = .ok (.ow (.lst .own ((ssev 9 s).map .int))) [.un] := law_signed_eq 9 12 s h0 (by omega) (by omega)
  obtain ⟨hs1, hv⟩ := ssev_sv 9 s h0
  have hl : (ssev 9 s).length ≤ 10 := ssev_len 9 s
  have e2 := read_signed_eq (xs := List.replicate p 200 ++ (ssev 9 s ++ [5])) (p := p) hs1 (drop_mid p 200 (ssev 9 s) [5]) hl
  rw [hv] at e2
  have e3 : eqD (.lst .own ((ssev 9 s).map .int)) (.lst .own ((ssev 9 s).map .int)) = some true := eqD_lst _ _ _
  have e4 := rep_ok p (by omega)
  have e5 := rep_flat p 200
  have e6 : ((List.replicate p (200 : Int)).map D.int).length + ((ssev 9 s).map D.int).length ≤ PySem.sizeLine := Nat.le_trans (show _ ≤ 20 by simp; omega) (by decide)
  have e7 : ((List.replicate p (200 : Int)).map D.int ++ (ssev 9 s).map D.int).length + 1 ≤ PySem.sizeLine := Nat.le_trans (show _ ≤ 20 by simp; omega) (by decide)
  have e8 : (List.replicate p (200 : Int)).map D.int ++ (ssev 9 s).map D.int ++ [.int 5] = (List.replicate p 200 ++ (ssev 9 s ++ [5])).map D.int := by simp
  have e9 : ((p + (ssev 9 s).length : Nat) : Int) = (p : Int) + (((ssev 9 s).map D.int).length : Nat) := by simp
  have e11 : eqD (.tup [.int s, .int ((p : Int) + (((ssev 9 s).map D.int).length : Nat))]) (.tup [.int s, .int ((p : Int) + (((ssev 9 s).map D.int).length : Nat))]) = some true := eqD_tup [s, (p : Int) + (((ssev 9 s).map D.int).length : Nat)]
  rw [e9, ← e8] at e2
  have e12 : ((ssev 9 s).map D.int).length ≤ PySem.sizeLine := by omega
  clear hs h0 hs1 hv hl e8 e9 hp
  generalize (ssev 9 s).map D.int = L at *
  generalize (List.replicate p (200 : Int)).map D.int = M at *
  generalize hq : (p : Int) + (L.length : Nat) = q at *
  simp -implicitDefEqProofs only [e0, e1, e2, e3, e4, e5, e6, e7, e11, e12, hq, bind_ok, bind_er, bind_bad, thenS_ok, thenS_er, thenS_bad, then_nx, then_rt, then_bk, then_ct, then_er, fin_some, ofO_some, e_sSeq, e_sIf, e_sRt, e_sSet, e_sto, e_sAug, e_sFor, e_sPar, e_sAsg, e_sEx, e_sNx, e_sRaise, e_sItem, e_sAppend, e_sRtN, e_sBk, e_sCt, e_mC, e_mRd, e_mFz, e_frz, e_mMv, e_mVal, e_mAt, e_mOp2, e_mOp1, e_tst, e_cond, e_mT, e_mCh, e_mNil, e_mCons, e_mCallN, e_mDisp, e_stoO, e_stTup, e_mRange, e_lstAt, e_callIt, e_mCallF, e_mNoP, e_mSomeP, e_mSl, e_mWalk, e_mComp, e_mGen, e_mTold, e_sTry, e_capsOk, e_dLt, e_dLe, e_dGt, e_dGe, e_dSub, e_dMax2, e_dMin2, e_mNot, e_mB, e_mJoin, Pv.mFun, Pv.entry, Pv.argS, Pv.finals, Pv.see, Pv.sees, Pv.vals, Pv.takes, Pv.pinOf, Pv.back, Pv.atsOk, Pv.allFr, Pv.ds, Pv.mkT, Pv.mkL, Pv.fz, Pv.kidVs, Pv.stAll, Pv.rangeD1, Pv.rangeD2, Pv.markOf, Pv.g1, Pv.g2, Pv.dLen, Pv.dAbs, Pv.dInt, Pv.dTup, Pv.dList, Pv.dAdd, Pv.dMul, Pv.dNeg, Pv.ints2, DV.d, Pv.modI_p, Pv.divI_p, Pv.idivI_p, Pv.imulI_r, Pv.mulI_p, Pv.powI_p, Pv.dSl, Pv.fzs, Pv.walkD, Pv.dRev, Pv.dOrd, Pv.kids, Pv.kidsL, Pv.kidsT, Pv.items, Pv.dIx, Pv.dEq, Pv.dNe, Pv.dIn, Pv.dNotIn, Pv.eqD_int, Pv.eqD_str, Pv.eqD_bl, Pv.kAny, Pv.kTupG, Pv.anyD, Pv.gSl, sz0, sy0, sz1, sy1, sz2, sy2, sz3, sy3, sz4, sy4, sz5, sy5, sz6, sy6, sz7, sy7, sz8, sy8, sz9, sy9, sz10, sy10, sz11, sy11, sz12, sy12, decide_true, decide_false, decide_not, ite_true, ite_false, not_true_eq_false, not_false_eq_true, List.map_nil, List.map_cons, List.length_nil, List.length_cons, List.replicate_succ, List.replicate_zero, List.nil_append, List.cons_append, List.append_nil, List.getElem?_cons_zero, List.getElem?_cons_succ, List.getElem?_nil, List.set_cons_zero, List.set_cons_succ, List.length_replicate, Option.map_some, Option.map_none, Option.bind_some, Option.bind_none, Nat.sub_self, Nat.reduceSub, Nat.reduceAdd, Nat.zero_add, eq_self, List.contains_cons, List.contains_nil, Bool.and_true, Bool.true_and, Bool.or_true, Bool.true_or, Bool.or_false, Bool.false_or, Bool.and_false, Bool.false_and, Bool.and_self, beq_self_eq_true, Nat.reduceBEq, if_true, if_false, Bool.false_eq_true, reduceIte, reduceCtorEq, decide_eq_true_eq, Bool.not_true, Bool.not_false]

theorem q13 {z0 z2 z3 z4 z5 z6 z7 z8 z9 z10 z11 z13 z14 z15 z16 z17 z18 z19 : Sl} (a b c : Int) : ∃ (g : Nat) (a' b' c' : Int), 1 ≤ g ∧ g ≤ 40 ∧ (sSet 12 (mOp2 dAdd (mVal (mC (.int 1))) (mVal (mCallF [1] 2 m__law_roll (mCons (mAt 1) (mCons (mVal (mC (.int 40))) (mNil))))))) [z0, .s false (.ow (dice a b c)), z2, z3, z4, z5, z6, z7, z8, z9, z10, z11, .un, z13, z14, z15, z16, z17, z18, z19] = .nx [z0, .s false (.ow (dice a' b' c')), z2, z3, z4, z5, z6, z7, z8, z9, z10, z11, .s false (.fr (.int (g : Nat))), z13, z14, z15, z16, z17, z18, z19] := by
  obtain ⟨r, a', b', c', l0, l1, e1⟩ := roll_ok a b c 40 (by omega) (by omega)
  obtain ⟨g, hg⟩ := Int.eq_ofNat_of_zero_le (show 0 ≤ 1 + r by omega)
  refine ⟨g, a', b', c', by omega, by omega, ?_⟩
  unfold dice at *
  simp -implicitDefEqProofs only [e1, hg, List.all_cons, List.all_nil, bind_ok, bind_er, bind_bad, thenS_ok, thenS_er, thenS_bad, then_nx, then_rt, then_bk, then_ct, then_er, fin_some, ofO_some, e_sSeq, e_sIf, e_sRt, e_sSet, e_sto, e_sAug, e_sFor, e_sPar, e_sAsg, e_sEx, e_sNx, e_sRaise, e_sItem, e_sAppend, e_sRtN, e_sBk, e_sCt, e_mC, e_mRd, e_mFz, e_frz, e_mMv, e_mVal, e_mAt, e_mOp2, e_mOp1, e_tst, e_cond, e_mT, e_mCh, e_mNil, e_mCons, e_mCallN, e_mDisp, e_stoO, e_stTup, e_mRange, e_lstAt, e_callIt, e_mCallF, e_mNoP, e_mSomeP, e_mSl, e_mWalk, e_mComp, e_mGen, e_mTold, e_sTry, e_capsOk, e_dLt, e_dLe, e_dGt, e_dGe, e_dSub, e_dMax2, e_dMin2, e_mNot, e_mB, e_mJoin, Pv.mFun, Pv.entry, Pv.argS, Pv.finals, Pv.see, Pv.sees, Pv.vals, Pv.takes, Pv.pinOf, Pv.back, Pv.atsOk, Pv.allFr, Pv.ds, Pv.mkT, Pv.mkL, Pv.fz, Pv.kidVs, Pv.stAll, Pv.rangeD1, Pv.rangeD2, Pv.markOf, Pv.g1, Pv.g2, Pv.dLen, Pv.dAbs, Pv.dInt, Pv.dTup, Pv.dList, Pv.dAdd, Pv.dMul, Pv.dNeg, Pv.ints2, DV.d, Pv.modI_p, Pv.divI_p, Pv.idivI_p, Pv.imulI_r, Pv.mulI_p, Pv.powI_p, Pv.dSl, Pv.fzs, Pv.walkD, Pv.dRev, Pv.dOrd, Pv.kids, Pv.kidsL, Pv.kidsT, Pv.items, Pv.dIx, Pv.dEq, Pv.dNe, Pv.dIn, Pv.dNotIn, Pv.eqD_int, Pv.eqD_str, Pv.eqD_bl, Pv.kAny, Pv.kTupG, Pv.anyD, Pv.gSl, sz0, sy0, sz1, sy1, sz2, sy2, sz3, sy3, sz4, sy4, sz5, sy5, sz6, sy6, sz7, sy7, sz8, sy8, sz9, sy9, sz10, sy10, sz11, sy11, sz12, sy12, decide_true, decide_false, decide_not, ite_true, ite_false, not_true_eq_false, not_false_eq_true, List.map_nil, List.map_cons, List.length_nil, List.length_cons, List.replicate_succ, List.replicate_zero, List.nil_append, List.cons_append, List.append_nil, List.getElem?_cons_zero, List.getElem?_cons_succ, List.getElem?_nil, List.set_cons_zero, List.set_cons_succ, List.length_replicate, Option.map_some, Option.map_none, Option.bind_some, Option.bind_none, Nat.sub_self, Nat.reduceSub, Nat.reduceAdd, Nat.zero_add, eq_self, List.contains_cons, List.contains_nil, Bool.and_true, Bool.true_and, Bool.or_true, Bool.true_or, Bool.or_false, Bool.false_or, Bool.and_false, Bool.false_and, Bool.and_self, beq_self_eq_true, Nat.reduceBEq, if_true, if_false, Bool.false_eq_true, reduceIte, reduceCtorEq, decide_eq_true_eq, Bool.not_true, Bool.not_false]

theorem q14 {z0 z1 z3 z4 z5 z6 z7 z8 z9 z10 z11 z14 z15 z16 z17 z18 z19 : Sl} (n g : Nat) (h1 : 1 ≤ g) (h2 : g ≤ 40) : (sSet 13 (mCallF [2, 12] 2 m_rounded_up (mCons (mAt 2) (mCons (mAt 12) (mNil))))) [z0, z1, .s false (.fr (.int (n : Nat))), z3, z4, z5, z6, z7, z8, z9, z10, z11, .s false (.fr (.int (g : Nat))), .un, z14, z15, z16, z17, z18, z19] = .nx [z0, z1, .s false (.fr (.int (n : Nat))), z3, z4, z5, z6, z7, z8, z9, z10, z11, .s false (.fr (.int (g : Nat))), .s false (.fr (.int (((n : Int) + g - 1) / g * g))), z14, z15, z16, z17, z18, z19] := by
  have e0 := rounded_eq (n := n) (s := g) (by omega) (by omega) (by omega)
  simp -implicitDefEqProofs only [e0, bind_ok, bind_er, bind_bad, thenS_ok, thenS_er, thenS_bad, then_nx, then_rt, then_bk, then_ct, then_er, fin_some, ofO_some, e_sSeq, e_sIf, e_sRt, e_sSet, e_sto, e_sAug, e_sFor, e_sPar, e_sAsg, e_sEx, e_sNx, e_sRaise, e_sItem, e_sAppend, e_sRtN, e_sBk, e_sCt, e_mC, e_mRd, e_mFz, e_frz, e_mMv, e_mVal, e_mAt, e_mOp2, e_mOp1, e_tst, e_cond, e_mT, e_mCh, e_mNil, e_mCons, e_mCallN, e_mDisp, e_stoO, e_stTup, e_mRange, e_lstAt, e_callIt, e_mCallF, e_mNoP, e_mSomeP, e_mSl, e_mWalk, e_mComp, e_mGen, e_mTold, e_sTry, e_capsOk, e_dLt, e_dLe, e_dGt, e_dGe, e_dSub, e_dMax2, e_dMin2, e_mNot, e_mB, e_mJoin, Pv.mFun, Pv.entry, Pv.argS, Pv.finals, Pv.see, Pv.sees, Pv.vals, Pv.takes, Pv.pinOf, Pv.back, Pv.atsOk, Pv.allFr, Pv.ds, Pv.mkT, Pv.mkL, Pv.fz, Pv.kidVs, Pv.stAll, Pv.rangeD1, Pv.rangeD2, Pv.markOf, Pv.g1, Pv.g2, Pv.dLen, Pv.dAbs, Pv.dInt, Pv.dTup, Pv.dList, Pv.dAdd, Pv.dMul, Pv.dNeg, Pv.ints2, DV.d, Pv.modI_p, Pv.divI_p, Pv.idivI_p, Pv.imulI_r, Pv.mulI_p, Pv.powI_p, Pv.dSl, Pv.fzs, Pv.walkD, Pv.dRev, Pv.dOrd, Pv.kids, Pv.kidsL, Pv.kidsT, Pv.items, Pv.dIx, Pv.dEq, Pv.dNe, Pv.dIn, Pv.dNotIn, Pv.eqD_int, Pv.eqD_str, Pv.eqD_bl, Pv.kAny, Pv.kTupG, Pv.anyD, Pv.gSl, sz0, sy0, sz1, sy1, sz2, sy2, sz3, sy3, sz4, sy4, sz5, sy5, sz6, sy6, sz7, sy7, sz8, sy8, sz9, sy9, sz10, sy10, sz11, sy11, sz12, sy12, decide_true, decide_false, decide_not, ite_true, ite_false, not_true_eq_false, not_false_eq_true, List.map_nil, List.map_cons, List.length_nil, List.length_cons, List.replicate_succ, List.replicate_zero, List.nil_append, List.cons_append, List.append_nil, List.getElem?_cons_zero, List.getElem?_cons_succ, List.getElem?_nil, List.set_cons_zero, List.set_cons_succ, List.length_replicate, Option.map_some, Option.map_none, Option.bind_some, Option.bind_none, Nat.sub_self, Nat.reduceSub, Nat.reduceAdd, Nat.zero_add, eq_self, List.contains_cons, List.contains_nil, Bool.and_true, Bool.true_and, Bool.or_true, Bool.true_or, Bool.or_false, Bool.false_or, Bool.and_false, Bool.false_and, Bool.and_self, beq_self_eq_true, Nat.reduceBEq, if_true, if_false, Bool.false_eq_true, reduceIte, reduceCtorEq, decide_eq_true_eq, Bool.not_true, Bool.not_false]

theorem up_ok (n g : Int) (h1 : 1 ≤ g) : ((n + g - 1) / g * g) % g = 0 ∧ n ≤ (n + g - 1) / g * g ∧ (n + g - 1) / g * g < n + g := by
  have e := Int.emod_add_mul_ediv (n + g - 1) g
  have e0 : g * ((n + g - 1) / g) = (n + g - 1) / g * g := Int.mul_comm _ _
  have l := Int.emod_nonneg (n + g - 1) (show g ≠ 0 by omega)
  have u := Int.emod_lt_of_pos (n + g - 1) (show 0 < g by omega)
  exact ⟨Int.mul_emod_left _ _, by omega, by omega⟩
theorem inV_int (g : Nat) : ∀ xs : List Nat, L2.inV (.int (g : Int)) (xs.map fun x : Nat => L2.V.int x) = xs.contains g
  | [] => rfl
  | x :: xs => by
    have := inV_int g xs
    unfold L2.inV at *
    simp only [List.map_cons, List.any_cons, this, List.contains_cons]
    congr 1
    simp [L2.eqV]
    rw [Bool.eq_iff_iff, beq_iff_eq, beq_iff_eq]; omega
theorem in_six (g : Nat) (o : Ow) : inD (.int (g : Int)) (.lst o [.int 1, .int 2, .int 4, .int 8, .int 16, .int 32]) = some ([1, 2, 4, 8, 16, 32].contains g) := by
  have := inV_int g [1, 2, 4, 8, 16, 32]
  simp only [inD, items, flatD, flatDs, Option.bind_some, Option.map_some]
  exact congrArg some this

theorem q15 {z0 z1 z3 z4 z5 z6 z7 z8 z9 z10 z11 z14 z15 z16 z17 z18 z19 : Sl} (n g : Nat) (h1 : 1 ≤ g) (h2 : g ≤ 40) : (sIf (cond (tst (mOp2 dNe (mVal (mOp2 (ints2 modI) (mAt 13) (mAt 12))) (mVal (mC (.int 0))))) (mT true) (cond (mNot (tst (mCh dLe dLt (mAt 2) (mAt 13) (mVal (mOp2 dAdd (mAt 2) (mAt 12)))))) (mT true) (tst (mOp2 dNe (mVal (mCallF [12] 1 m_is_power (mCons (mAt 12) (mNil)))) (mVal (mOp2 dIn (mAt 12) (mVal (mDisp mkL (mCons (mVal (mC (.int 1))) (mCons (mVal (mC (.int 2))) (mCons (mVal (mC (.int 4))) (mCons (mVal (mC (.int 8))) (mCons (mVal (mC (.int 16))) (mCons (mVal (mC (.int 32))) (mNil)))))))))))))))
  (sRt (mC (.bl false)))
  (sNx)) [z0, z1, .s false (.fr (.int (n : Nat))), z3, z4, z5, z6, z7, z8, z9, z10, z11, .s false (.fr (.int (g : Nat))), .s false (.fr (.int (((n : Int) + g - 1) / g * g))), z14, z15, z16, z17, z18, z19] = .nx [z0, z1, .s false (.fr (.int (n : Nat))), z3, z4, z5, z6, z7, z8, z9, z10, z11, .s false (.fr (.int (g : Nat))), .s false (.fr (.int (((n : Int) + g - 1) / g * g))), z14, z15, z16, z17, z18, z19] := by
  obtain ⟨a1, a2, a3⟩ := up_ok n g (by omega)
  have a4 : (0 : Int) < g := by omega
  have e0 := is_power_eq g h2
  have e1 := in_six g .own
  generalize ((n : Int) + g - 1) / g * g = u at *
  generalize [1, 2, 4, 8, 16, 32].contains g = k at *
  simp -implicitDefEqProofs only [a1, a2, a3, a4, e0, e1, bind_ok, bind_er, bind_bad, thenS_ok, thenS_er, thenS_bad, then_nx, then_rt, then_bk, then_ct, then_er, fin_some, ofO_some, e_sSeq, e_sIf, e_sRt, e_sSet, e_sto, e_sAug, e_sFor, e_sPar, e_sAsg, e_sEx, e_sNx, e_sRaise, e_sItem, e_sAppend, e_sRtN, e_sBk, e_sCt, e_mC, e_mRd, e_mFz, e_frz, e_mMv, e_mVal, e_mAt, e_mOp2, e_mOp1, e_tst, e_cond, e_mT, e_mCh, e_mNil, e_mCons, e_mCallN, e_mDisp, e_stoO, e_stTup, e_mRange, e_lstAt, e_callIt, e_mCallF, e_mNoP, e_mSomeP, e_mSl, e_mWalk, e_mComp, e_mGen, e_mTold, e_sTry, e_capsOk, e_dLt, e_dLe, e_dGt, e_dGe, e_dSub, e_dMax2, e_dMin2, e_mNot, e_mB, e_mJoin, Pv.mFun, Pv.entry, Pv.argS, Pv.finals, Pv.see, Pv.sees, Pv.vals, Pv.takes, Pv.pinOf, Pv.back, Pv.atsOk, Pv.allFr, Pv.ds, Pv.mkT, Pv.mkL, Pv.fz, Pv.kidVs, Pv.stAll, Pv.rangeD1, Pv.rangeD2, Pv.markOf, Pv.g1, Pv.g2, Pv.dLen, Pv.dAbs, Pv.dInt, Pv.dTup, Pv.dList, Pv.dAdd, Pv.dMul, Pv.dNeg, Pv.ints2, DV.d, Pv.modI_p, Pv.divI_p, Pv.idivI_p, Pv.imulI_r, Pv.mulI_p, Pv.powI_p, Pv.dSl, Pv.fzs, Pv.walkD, Pv.dRev, Pv.dOrd, Pv.kids, Pv.kidsL, Pv.kidsT, Pv.items, Pv.dIx, Pv.dEq, Pv.dNe, Pv.dIn, Pv.dNotIn, Pv.eqD_int, Pv.eqD_str, Pv.eqD_bl, Pv.kAny, Pv.kTupG, Pv.anyD, Pv.gSl, sz0, sy0, sz1, sy1, sz2, sy2, sz3, sy3, sz4, sy4, sz5, sy5, sz6, sy6, sz7, sy7, sz8, sy8, sz9, sy9, sz10, sy10, sz11, sy11, sz12, sy12, decide_true, decide_false, decide_not, ite_true, ite_false, not_true_eq_false, not_false_eq_true, List.map_nil, List.map_cons, List.length_nil, List.length_cons, List.replicate_succ, List.replicate_zero, List.nil_append, List.cons_append, List.append_nil, List.getElem?_cons_zero, List.getElem?_cons_succ, List.getElem?_nil, List.set_cons_zero, List.set_cons_succ, List.length_replicate, Option.map_some, Option.map_none, Option.bind_some, Option.bind_none, Nat.sub_self, Nat.reduceSub, Nat.reduceAdd, Nat.zero_add, eq_self, List.contains_cons, List.contains_nil, Bool.and_true, Bool.true_and, Bool.or_true, Bool.true_or, Bool.or_false, Bool.false_or, Bool.and_false, Bool.false_and, Bool.and_self, beq_self_eq_true, Nat.reduceBEq, if_true, if_false, Bool.false_eq_true, reduceIte, reduceCtorEq, decide_eq_true_eq, Bool.not_true, Bool.not_false]
end K01

set_option Elab.async false
set_option linter.all false
set_option maxRecDepth 100000
set_option maxHeartbeats 4000000
namespace K01
open Pv
theorem compIt_ex {s : DV → Sls → Option Sls} {ft : Sls → Res Bool} {fe : Sls → Res DV} {vs : List Nat} {P : Sls → Prop} {Y : DV → Prop} : ∀ {xs : List DV} {δ : Sls} {acc : List DV}, (∀ x ∈ xs, ∀ δ, P δ → ∃ δ1 δ2 δ3 y, s x δ = some δ1 ∧ ft δ1 = .ok true δ2 ∧ fe δ2 = .ok y δ3 ∧ Y y ∧ P (wipeS δ3 vs)) → P δ → acc.length + xs.length ≤ PySem.sizeLine →
    ∃ ys δ', ys.length = xs.length ∧ (∀ y ∈ ys, Y y) ∧ P δ' ∧ compIt s ft fe vs xs δ acc = .ok (acc ++ ys) δ'
  | [], δ, acc, _, p, _ => ⟨[], δ, rfl, (fun _ h => nomatch h), p, by simp [compIt]⟩
  | x :: xs, δ, acc, h, p, hl => by
    obtain ⟨δ1, δ2, δ3, y, e1, e2, e3, hy, p3⟩ := h x List.mem_cons_self δ p
    have hl2 : acc.length < PySem.sizeLine := by simp at hl; omega
    obtain ⟨ys, δ', hn, hys, p', r⟩ := compIt_ex (xs := xs) (acc := acc ++ [y]) (fun z hz => h z (List.mem_cons_of_mem _ hz)) p3 (by simp at hl ⊢; omega)
    refine ⟨y :: ys, δ', by simp [hn], ?_, p', ?_⟩
    · intro z hz
      rcases List.mem_cons.mp hz with rfl | hz
      · exact hy
      · exact hys z hz
    · simp only [compIt, e1, e2, e3, if_pos hl2, r, List.append_assoc, List.cons_append, List.nil_append]
theorem strs_of : ∀ {ys : List DV}, (∀ y ∈ ys, ∃ c ∈ sg, y = .fr (.str [c])) → ∃ cs, signs cs ∧ ys = (cs.map fun c => D.str [c]).map .fr
  | [], _ => ⟨[], (fun _ h => nomatch h), rfl⟩
  | y :: ys, h => by
    obtain ⟨c, hc, e⟩ := h y List.mem_cons_self
    obtain ⟨cs, hs, e2⟩ := strs_of fun z hz => h z (List.mem_cons_of_mem _ hz)
    refine ⟨c :: cs, ?_, by rw [e, e2]; rfl⟩
    intro z hz
    rcases List.mem_cons.mp hz with rfl | hz
    · exact hc
    · exact hs z hz
theorem sg_len : sg.length = 94 := by kernel_rfl
theorem sg_at (r : Int) (h0 : 0 ≤ r) (h1 : r < 94) : ∃ c ∈ sg, L2.atI sg r = some c := by
  obtain ⟨n, rfl⟩ := Int.eq_ofNat_of_zero_le h0
  have hn : n < sg.length := by rw [sg_len]; omega
  refine ⟨sg[n], List.getElem_mem hn, ?_⟩
  unfold L2.atI
  simp [L2.ixN, hn]

theorem q16 {z0 z2 z3 z4 z5 z6 z7 z9 z10 z11 z12 z13 z15 z16 z17 z18 z19 : Sl} (a b c : Int) (q : Int) : ∃ (cs : List Nat) (a' b' c' : Int), signs cs ∧ cs.length ≤ 6 ∧ (sSet 14 (mJoin [] (mVal (mComp (stoO 8) (mRange rangeD1 (mCons (mVal (mCallF [1] 2 m__law_roll (mCons (mAt 1) (mCons (mVal (mC (.int 7))) (mNil))))) (mNil))) (mT true) (mOp2 dIx (mVal (mSIGNS)) (mVal (mCallF [1] 2 m__law_roll (mCons (mAt 1) (mCons (mVal (mCallN (g1 dLen) (mCons (mVal (mSIGNS)) (mNil)))) (mNil)))))) [8])))) [z0, .s false (.ow (dice a b c)), z2, z3, z4, z5, z6, z7, .s false (.fr (.int (q))), z9, z10, z11, z12, z13, .un, z15, z16, z17, z18, z19] = .nx [z0, .s false (.ow (dice a' b' c')), z2, z3, z4, z5, z6, z7, .s false (.fr (.int (q))), z9, z10, z11, z12, z13, .s false (.fr (.str (cs))), z15, z16, z17, z18, z19] := by
  obtain ⟨r, a1, b1, c1, l0, l1, e1⟩ := roll_ok a b c 7 (by omega) (by omega)
  obtain ⟨g, rfl⟩ := Int.eq_ofNat_of_zero_le l0
  have lp := compIt_ex (s := stoO 8) (ft := mT true) (fe := mOp2 dIx (mVal (mSIGNS)) (mVal (mCallF [1] 2 m__law_roll (mCons (mAt 1) (mCons (mVal (mCallN (g1 dLen) (mCons (mVal (mSIGNS)) (mNil)))) (mNil)))))) (vs := [8]) (P := fun δ => ∃ a b c, δ = [z0, .s false (.ow (dice a b c)), z2, z3, z4, z5, z6, z7, .un, z9, z10, z11, z12, z13, .un, z15, z16, z17, z18, z19]) (Y := fun y => ∃ c ∈ sg, y = .fr (.str [c])) (xs := rgItems 0 g) (δ := [z0, .s false (.ow (dice a1 b1 c1)), z2, z3, z4, z5, z6, z7, .un, z9, z10, z11, z12, z13, .un, z15, z16, z17, z18, z19]) (acc := []) (fun x hx δ hp => by
      obtain ⟨a, b, c, rfl⟩ := hp
      obtain ⟨i, hi⟩ := List.getElem?_of_mem hx
      obtain ⟨_, rfl⟩ := rg_get hi
      obtain ⟨r, a2, b2, c2, l0, l1, e1⟩ := roll_ok a b c 94 (by omega) (by omega)
      obtain ⟨ch, hc, e2⟩ := sg_at r l0 l1
      refine ⟨[z0, .s false (.ow (dice a b c)), z2, z3, z4, z5, z6, z7, .s false (.fr (.int (0 + (i : Int)))), z9, z10, z11, z12, z13, .un, z15, z16, z17, z18, z19], [z0, .s false (.ow (dice a b c)), z2, z3, z4, z5, z6, z7, .s false (.fr (.int (0 + (i : Int)))), z9, z10, z11, z12, z13, .un, z15, z16, z17, z18, z19], [z0, .s false (.ow (dice a2 b2 c2)), z2, z3, z4, z5, z6, z7, .s false (.fr (.int (0 + (i : Int)))), z9, z10, z11, z12, z13, .un, z15, z16, z17, z18, z19], .fr (.str [ch]), rfl, rfl, ?_, ⟨ch, hc, rfl⟩, a2, b2, c2, rfl⟩
      rw [sg_eq]
      have e3 : ((sg.length : Nat) : Int) = 94 := by rw [sg_len]; rfl
      have e7 : sg.length ≤ PySem.sizeLine := by rw [sg_len]; decide
      unfold dice at *
      generalize sg = s at *
      simp -implicitDefEqProofs only [e1, e2, e3, e7, List.all_cons, List.all_nil, bind_ok, bind_er, bind_bad, thenS_ok, thenS_er, thenS_bad, then_nx, then_rt, then_bk, then_ct, then_er, fin_some, ofO_some, e_sSeq, e_sIf, e_sRt, e_sSet, e_sto, e_sAug, e_sFor, e_sPar, e_sAsg, e_sEx, e_sNx, e_sRaise, e_sItem, e_sAppend, e_sRtN, e_sBk, e_sCt, e_mC, e_mRd, e_mFz, e_frz, e_mMv, e_mVal, e_mAt, e_mOp2, e_mOp1, e_tst, e_cond, e_mT, e_mCh, e_mNil, e_mCons, e_mCallN, e_mDisp, e_stoO, e_stTup, e_mRange, e_lstAt, e_callIt, e_mCallF, e_mNoP, e_mSomeP, e_mSl, e_mWalk, e_mComp, e_mGen, e_mTold, e_sTry, e_capsOk, e_dLt, e_dLe, e_dGt, e_dGe, e_dSub, e_dMax2, e_dMin2, e_mNot, e_mB, e_mJoin, Pv.mFun, Pv.entry, Pv.argS, Pv.finals, Pv.see, Pv.sees, Pv.vals, Pv.takes, Pv.pinOf, Pv.back, Pv.atsOk, Pv.allFr, Pv.ds, Pv.mkT, Pv.mkL, Pv.fz, Pv.kidVs, Pv.stAll, Pv.rangeD1, Pv.rangeD2, Pv.markOf, Pv.g1, Pv.g2, Pv.dLen, Pv.dAbs, Pv.dInt, Pv.dTup, Pv.dList, Pv.dAdd, Pv.dMul, Pv.dNeg, Pv.ints2, DV.d, Pv.modI_p, Pv.divI_p, Pv.idivI_p, Pv.imulI_r, Pv.mulI_p, Pv.powI_p, Pv.dSl, Pv.fzs, Pv.walkD, Pv.dRev, Pv.dOrd, Pv.kids, Pv.kidsL, Pv.kidsT, Pv.items, Pv.dIx, Pv.dEq, Pv.dNe, Pv.dIn, Pv.dNotIn, Pv.eqD_int, Pv.eqD_str, Pv.eqD_bl, Pv.kAny, Pv.kTupG, Pv.anyD, Pv.gSl, sz0, sy0, sz1, sy1, sz2, sy2, sz3, sy3, sz4, sy4, sz5, sy5, sz6, sy6, sz7, sy7, sz8, sy8, sz9, sy9, sz10, sy10, sz11, sy11, sz12, sy12, decide_true, decide_false, decide_not, ite_true, ite_false, not_true_eq_false, not_false_eq_true, List.map_nil, List.map_cons, List.length_nil, List.length_cons, List.replicate_succ, List.replicate_zero, List.nil_append, List.cons_append, List.append_nil, List.getElem?_cons_zero, List.getElem?_cons_succ, List.getElem?_nil, List.set_cons_zero, List.set_cons_succ, List.length_replicate, Option.map_some, Option.map_none, Option.bind_some, Option.bind_none, Nat.sub_self, Nat.reduceSub, Nat.reduceAdd, Nat.zero_add, eq_self, List.contains_cons, List.contains_nil, Bool.and_true, Bool.true_and, Bool.or_true, Bool.true_or, Bool.or_false, Bool.false_or, Bool.and_false, Bool.false_and, Bool.and_self, beq_self_eq_true, Nat.reduceBEq, if_true, if_false, Bool.false_eq_true, reduceIte, reduceCtorEq, decide_eq_true_eq, Bool.not_true, Bool.not_false]) ⟨a1, b1, c1, rfl⟩ (by rw [rg_len]; exact Nat.le_trans (show _ ≤ 20 by simp; omega) (by decide))
  obtain ⟨ys, δ', hn, hy, ⟨a2, b2, c2, rfl⟩, e2⟩ := lp
  obtain ⟨cs, hs, rfl⟩ := strs_of hy
  rw [rg_len] at hn
  refine ⟨cs, a2, b2, c2, hs, by simp at hn; omega, ?_⟩
  have e3 := join_eq .own (cs := cs) (by simp at hn; omega)
  have e4 := allFr_map (cs.map fun c => D.str [c])
  have e5 := ds_map (cs.map fun c => D.str [c])
  have a6 : inR g = true := by unfold inR; simp; omega
  generalize (cs.map fun c => D.str [c]) = L at *
  have e6 : (L.map DV.fr).map DV.d = L := e5
  generalize hM : L.map DV.fr = M at *
  clear hy hn
  unfold dice at *
  simp -implicitDefEqProofs only [e1, e2, e3, e4, e6, a6, Int.toNat_natCast, mkL, wipeS, okOwn, restore, List.all_cons, List.all_nil, bind_ok, bind_er, bind_bad, thenS_ok, thenS_er, thenS_bad, then_nx, then_rt, then_bk, then_ct, then_er, fin_some, ofO_some, e_sSeq, e_sIf, e_sRt, e_sSet, e_sto, e_sAug, e_sFor, e_sPar, e_sAsg, e_sEx, e_sNx, e_sRaise, e_sItem, e_sAppend, e_sRtN, e_sBk, e_sCt, e_mC, e_mRd, e_mFz, e_frz, e_mMv, e_mVal, e_mAt, e_mOp2, e_mOp1, e_tst, e_cond, e_mT, e_mCh, e_mNil, e_mCons, e_mCallN, e_mDisp, e_stoO, e_stTup, e_mRange, e_lstAt, e_callIt, e_mCallF, e_mNoP, e_mSomeP, e_mSl, e_mWalk, e_mComp, e_mGen, e_mTold, e_sTry, e_capsOk, e_dLt, e_dLe, e_dGt, e_dGe, e_dSub, e_dMax2, e_dMin2, e_mNot, e_mB, e_mJoin, Pv.mFun, Pv.entry, Pv.argS, Pv.finals, Pv.see, Pv.sees, Pv.vals, Pv.takes, Pv.pinOf, Pv.back, Pv.atsOk, Pv.allFr, Pv.ds, Pv.mkT, Pv.mkL, Pv.fz, Pv.kidVs, Pv.stAll, Pv.rangeD1, Pv.rangeD2, Pv.markOf, Pv.g1, Pv.g2, Pv.dLen, Pv.dAbs, Pv.dInt, Pv.dTup, Pv.dList, Pv.dAdd, Pv.dMul, Pv.dNeg, Pv.ints2, DV.d, Pv.modI_p, Pv.divI_p, Pv.idivI_p, Pv.imulI_r, Pv.mulI_p, Pv.powI_p, Pv.dSl, Pv.fzs, Pv.walkD, Pv.dRev, Pv.dOrd, Pv.kids, Pv.kidsL, Pv.kidsT, Pv.items, Pv.dIx, Pv.dEq, Pv.dNe, Pv.dIn, Pv.dNotIn, Pv.eqD_int, Pv.eqD_str, Pv.eqD_bl, Pv.kAny, Pv.kTupG, Pv.anyD, Pv.gSl, sz0, sy0, sz1, sy1, sz2, sy2, sz3, sy3, sz4, sy4, sz5, sy5, sz6, sy6, sz7, sy7, sz8, sy8, sz9, sy9, sz10, sy10, sz11, sy11, sz12, sy12, decide_true, decide_false, decide_not, ite_true, ite_false, not_true_eq_false, not_false_eq_true, List.map_nil, List.map_cons, List.length_nil, List.length_cons, List.replicate_succ, List.replicate_zero, List.nil_append, List.cons_append, List.append_nil, List.getElem?_cons_zero, List.getElem?_cons_succ, List.getElem?_nil, List.set_cons_zero, List.set_cons_succ, List.length_replicate, Option.map_some, Option.map_none, Option.bind_some, Option.bind_none, Nat.sub_self, Nat.reduceSub, Nat.reduceAdd, Nat.zero_add, eq_self, List.contains_cons, List.contains_nil, Bool.and_true, Bool.true_and, Bool.or_true, Bool.true_or, Bool.or_false, Bool.false_or, Bool.and_false, Bool.false_and, Bool.and_self, beq_self_eq_true, Nat.reduceBEq, if_true, if_false, Bool.false_eq_true, reduceIte, reduceCtorEq, decide_eq_true_eq, Bool.not_true, Bool.not_false]
end K01

set_option Elab.async false
set_option linter.all false
set_option maxRecDepth 100000
set_option maxHeartbeats 4000000
namespace K01
open Pv
theorem q17 {z0 z1 z2 z3 z4 z5 z6 z7 z8 z9 z10 z11 z12 z13 z14 z18 z19 : Sl}  : (sAsg (stTup [stoO 15, stoO 16, stoO 17]) (mDisp mkT (mCons (mVal (mC (.int 5381))) (mCons (mVal (mC (.int 1))) (mCons (mVal (mC (.int 0))) (mNil)))))) [z0, z1, z2, z3, z4, z5, z6, z7, z8, z9, z10, z11, z12, z13, z14, .un, .un, .un, z18, z19] = .nx [z0, z1, z2, z3, z4, z5, z6, z7, z8, z9, z10, z11, z12, z13, z14, .s false (.fr (.int (5381))), .s false (.fr (.int (1))), .s false (.fr (.int (0))), z18, z19] := by
  simp -implicitDefEqProofs only [bind_ok, bind_er, bind_bad, thenS_ok, thenS_er, thenS_bad, then_nx, then_rt, then_bk, then_ct, then_er, fin_some, ofO_some, e_sSeq, e_sIf, e_sRt, e_sSet, e_sto, e_sAug, e_sFor, e_sPar, e_sAsg, e_sEx, e_sNx, e_sRaise, e_sItem, e_sAppend, e_sRtN, e_sBk, e_sCt, e_mC, e_mRd, e_mFz, e_frz, e_mMv, e_mVal, e_mAt, e_mOp2, e_mOp1, e_tst, e_cond, e_mT, e_mCh, e_mNil, e_mCons, e_mCallN, e_mDisp, e_stoO, e_stTup, e_mRange, e_lstAt, e_callIt, e_mCallF, e_mNoP, e_mSomeP, e_mSl, e_mWalk, e_mComp, e_mGen, e_mTold, e_sTry, e_capsOk, e_dLt, e_dLe, e_dGt, e_dGe, e_dSub, e_dMax2, e_dMin2, e_mNot, e_mB, e_mJoin, Pv.mFun, Pv.entry, Pv.argS, Pv.finals, Pv.see, Pv.sees, Pv.vals, Pv.takes, Pv.pinOf, Pv.back, Pv.atsOk, Pv.allFr, Pv.ds, Pv.mkT, Pv.mkL, Pv.fz, Pv.kidVs, Pv.stAll, Pv.rangeD1, Pv.rangeD2, Pv.markOf, Pv.g1, Pv.g2, Pv.dLen, Pv.dAbs, Pv.dInt, Pv.dTup, Pv.dList, Pv.dAdd, Pv.dMul, Pv.dNeg, Pv.ints2, DV.d, Pv.modI_p, Pv.divI_p, Pv.idivI_p, Pv.imulI_r, Pv.mulI_p, Pv.powI_p, Pv.dSl, Pv.fzs, Pv.walkD, Pv.dRev, Pv.dOrd, Pv.kids, Pv.kidsL, Pv.kidsT, Pv.items, Pv.dIx, Pv.dEq, Pv.dNe, Pv.dIn, Pv.dNotIn, Pv.eqD_int, Pv.eqD_str, Pv.eqD_bl, Pv.kAny, Pv.kTupG, Pv.anyD, Pv.gSl, sz0, sy0, sz1, sy1, sz2, sy2, sz3, sy3, sz4, sy4, sz5, sy5, sz6, sy6, sz7, sy7, sz8, sy8, sz9, sy9, sz10, sy10, sz11, sy11, sz12, sy12, decide_true, decide_false, decide_not, ite_true, ite_false, not_true_eq_false, not_false_eq_true, List.map_nil, List.map_cons, List.length_nil, List.length_cons, List.replicate_succ, List.replicate_zero, List.nil_append, List.cons_append, List.append_nil, List.getElem?_cons_zero, List.getElem?_cons_succ, List.getElem?_nil, List.set_cons_zero, List.set_cons_succ, List.length_replicate, Option.map_some, Option.map_none, Option.bind_some, Option.bind_none, Nat.sub_self, Nat.reduceSub, Nat.reduceAdd, Nat.zero_add, eq_self, List.contains_cons, List.contains_nil, Bool.and_true, Bool.true_and, Bool.or_true, Bool.true_or, Bool.or_false, Bool.false_or, Bool.and_false, Bool.false_and, Bool.and_self, beq_self_eq_true, Nat.reduceBEq, if_true, if_false, Bool.false_eq_true, reduceIte, reduceCtorEq, decide_eq_true_eq, Bool.not_true, Bool.not_false]

def t3 : List Nat → Int → Int → Int → Int × Int × Int
  | [], t, f, s => (t, f, s)
  | c :: cs, t, f, s => t3 cs (t * 33 + c) (f + c) (s + (f + c))
theorem t3_step {z0 z1 z2 z3 z4 z5 z6 z7 z8 z9 z10 z11 z12 z13 z14 z19 : Sl} (t f s : Int) (c : Nat) : (sSeq (sPar [stoO 15, stoO 16] (mCons (mVal (mOp2 dAdd (mVal (mOp2 dMul (mAt 15) (mVal (mC (.int 33))))) (mVal (mCallN (g1 dOrd) (mCons (mAt 18) (mNil)))))) (mCons (mVal (mOp2 dAdd (mAt 16) (mVal (mCallN (g1 dOrd) (mCons (mAt 18) (mNil)))))) (mNil))))
  (sSet 17 (mOp2 dAdd (mAt 17) (mAt 16)))) [z0, z1, z2, z3, z4, z5, z6, z7, z8, z9, z10, z11, z12, z13, z14, .s false (.fr (.int (t))), .s false (.fr (.int (f))), .s false (.fr (.int (s))), .s false (.fr (.str ([c]))), z19] = .nx [z0, z1, z2, z3, z4, z5, z6, z7, z8, z9, z10, z11, z12, z13, z14, .s false (.fr (.int (t * 33 + c))), .s false (.fr (.int (f + c))), .s false (.fr (.int (s + (f + c)))), .s false (.fr (.str ([c]))), z19] := by
  have e2 : okMul t 33 = true := okMul_r (by decide)
  simp -implicitDefEqProofs only [e2, bind_ok, bind_er, bind_bad, thenS_ok, thenS_er, thenS_bad, then_nx, then_rt, then_bk, then_ct, then_er, fin_some, ofO_some, e_sSeq, e_sIf, e_sRt, e_sSet, e_sto, e_sAug, e_sFor, e_sPar, e_sAsg, e_sEx, e_sNx, e_sRaise, e_sItem, e_sAppend, e_sRtN, e_sBk, e_sCt, e_mC, e_mRd, e_mFz, e_frz, e_mMv, e_mVal, e_mAt, e_mOp2, e_mOp1, e_tst, e_cond, e_mT, e_mCh, e_mNil, e_mCons, e_mCallN, e_mDisp, e_stoO, e_stTup, e_mRange, e_lstAt, e_callIt, e_mCallF, e_mNoP, e_mSomeP, e_mSl, e_mWalk, e_mComp, e_mGen, e_mTold, e_sTry, e_capsOk, e_dLt, e_dLe, e_dGt, e_dGe, e_dSub, e_dMax2, e_dMin2, e_mNot, e_mB, e_mJoin, Pv.mFun, Pv.entry, Pv.argS, Pv.finals, Pv.see, Pv.sees, Pv.vals, Pv.takes, Pv.pinOf, Pv.back, Pv.atsOk, Pv.allFr, Pv.ds, Pv.mkT, Pv.mkL, Pv.fz, Pv.kidVs, Pv.stAll, Pv.rangeD1, Pv.rangeD2, Pv.markOf, Pv.g1, Pv.g2, Pv.dLen, Pv.dAbs, Pv.dInt, Pv.dTup, Pv.dList, Pv.dAdd, Pv.dMul, Pv.dNeg, Pv.ints2, DV.d, Pv.modI_p, Pv.divI_p, Pv.idivI_p, Pv.imulI_r, Pv.mulI_p, Pv.powI_p, Pv.dSl, Pv.fzs, Pv.walkD, Pv.dRev, Pv.dOrd, Pv.kids, Pv.kidsL, Pv.kidsT, Pv.items, Pv.dIx, Pv.dEq, Pv.dNe, Pv.dIn, Pv.dNotIn, Pv.eqD_int, Pv.eqD_str, Pv.eqD_bl, Pv.kAny, Pv.kTupG, Pv.anyD, Pv.gSl, sz0, sy0, sz1, sy1, sz2, sy2, sz3, sy3, sz4, sy4, sz5, sy5, sz6, sy6, sz7, sy7, sz8, sy8, sz9, sy9, sz10, sy10, sz11, sy11, sz12, sy12, decide_true, decide_false, decide_not, ite_true, ite_false, not_true_eq_false, not_false_eq_true, List.map_nil, List.map_cons, List.length_nil, List.length_cons, List.replicate_succ, List.replicate_zero, List.nil_append, List.cons_append, List.append_nil, List.getElem?_cons_zero, List.getElem?_cons_succ, List.getElem?_nil, List.set_cons_zero, List.set_cons_succ, List.length_replicate, Option.map_some, Option.map_none, Option.bind_some, Option.bind_none, Nat.sub_self, Nat.reduceSub, Nat.reduceAdd, Nat.zero_add, eq_self, List.contains_cons, List.contains_nil, Bool.and_true, Bool.true_and, Bool.or_true, Bool.true_or, Bool.or_false, Bool.false_or, Bool.and_false, Bool.false_and, Bool.and_self, beq_self_eq_true, Nat.reduceBEq, if_true, if_false, Bool.false_eq_true, reduceIte, reduceCtorEq, decide_eq_true_eq, Bool.not_true, Bool.not_false]
theorem t3_loop {z0 z1 z2 z3 z4 z5 z6 z7 z8 z9 z10 z11 z12 z13 z14 z19 : Sl} : ∀ (cs : List Nat) (t f s : Int) (tl : Sl), (tl = .un ∨ ∃ x, tl = .s false (.fr x)) → ∃ t', (t' = .un ∨ ∃ x, t' = .s false (.fr x)) ∧ iterS (stoO 18) (sSeq (sPar [stoO 15, stoO 16] (mCons (mVal (mOp2 dAdd (mVal (mOp2 dMul (mAt 15) (mVal (mC (.int 33))))) (mVal (mCallN (g1 dOrd) (mCons (mAt 18) (mNil)))))) (mCons (mVal (mOp2 dAdd (mAt 16) (mVal (mCallN (g1 dOrd) (mCons (mAt 18) (mNil)))))) (mNil))))
  (sSet 17 (mOp2 dAdd (mAt 17) (mAt 16)))) (cs.map fun c => .fr (.str [c])) [z0, z1, z2, z3, z4, z5, z6, z7, z8, z9, z10, z11, z12, z13, z14, .s false (.fr (.int (t))), .s false (.fr (.int (f))), .s false (.fr (.int (s))), tl, z19] = .nx [z0, z1, z2, z3, z4, z5, z6, z7, z8, z9, z10, z11, z12, z13, z14, .s false (.fr (.int ((t3 cs t f s).1))), .s false (.fr (.int ((t3 cs t f s).2.1))), .s false (.fr (.int ((t3 cs t f s).2.2))), t', z19]
  | [], t, f, s, tl, htl => ⟨tl, htl, rfl⟩
  | c :: cs, t, f, s, tl, htl => by
    obtain ⟨t', h1, h2⟩ := t3_loop cs (t * 33 + c) (f + c) (s + (f + c)) (.s false (.fr (.str [c]))) (.inr ⟨_, rfl⟩)
    refine ⟨t', h1, ?_⟩
    rw [List.map_cons, iter_cons (δ1 := [z0, z1, z2, z3, z4, z5, z6, z7, z8, z9, z10, z11, z12, z13, z14, .s false (.fr (.int (t))), .s false (.fr (.int (f))), .s false (.fr (.int (s))), .s false (.fr (.str ([c]))), z19]), t3_step]
    · exact h2
    · rcases htl with rfl | ⟨x, rfl⟩ <;> rfl

theorem q18 {z0 z1 z2 z3 z4 z5 z6 z7 z8 z9 z10 z11 z12 z13 z14 z19 : Sl} (cs : List Nat) : ∃ t', (t' = .un ∨ ∃ x, t' = .s false (.fr x)) ∧ (sFor (stoO 18) (mWalk (mFz 14))
  (sSeq (sPar [stoO 15, stoO 16] (mCons (mVal (mOp2 dAdd (mVal (mOp2 dMul (mAt 15) (mVal (mC (.int 33))))) (mVal (mCallN (g1 dOrd) (mCons (mAt 18) (mNil)))))) (mCons (mVal (mOp2 dAdd (mAt 16) (mVal (mCallN (g1 dOrd) (mCons (mAt 18) (mNil)))))) (mNil))))
  (sSet 17 (mOp2 dAdd (mAt 17) (mAt 16))))) [z0, z1, z2, z3, z4, z5, z6, z7, z8, z9, z10, z11, z12, z13, .s false (.fr (.str (cs))), .s false (.fr (.int (5381))), .s false (.fr (.int (1))), .s false (.fr (.int (0))), .un, z19] = .nx [z0, z1, z2, z3, z4, z5, z6, z7, z8, z9, z10, z11, z12, z13, .s false (.fr (.str (cs))), .s false (.fr (.int ((t3 cs 5381 1 0).1))), .s false (.fr (.int ((t3 cs 5381 1 0).2.1))), .s false (.fr (.int ((t3 cs 5381 1 0).2.2))), t', z19] := by
  obtain ⟨t', h1, h2⟩ := t3_loop (z0 := z0) (z1 := z1) (z2 := z2) (z3 := z3) (z4 := z4) (z5 := z5) (z6 := z6) (z7 := z7) (z8 := z8) (z9 := z9) (z10 := z10) (z11 := z11) (z12 := z12) (z13 := z13) (z14 := .s false (.fr (.str (cs)))) (z19 := z19) cs 5381 1 0 .un (.inl rfl)
  refine ⟨t', h1, ?_⟩
  generalize t3 cs 5381 1 0 = tt at *
  simp -implicitDefEqProofs only [bind_ok, bind_er, bind_bad, thenS_ok, thenS_er, thenS_bad, then_nx, then_rt, then_bk, then_ct, then_er, fin_some, ofO_some, e_sSeq, e_sIf, e_sRt, e_sSet, e_sto, e_sAug, e_sFor, e_sPar, e_sAsg, e_sEx, e_sNx, e_sRaise, e_sItem, e_sAppend, e_sRtN, e_sBk, e_sCt, e_mC, e_mRd, e_mFz, e_frz, e_mMv, e_mVal, e_mAt, e_mOp2, e_mOp1, e_tst, e_cond, e_mT, e_mCh, e_mNil, e_mCons, e_mCallN, e_mDisp, e_stoO, e_stTup, e_mRange, e_lstAt, e_callIt, e_mCallF, e_mNoP, e_mSomeP, e_mSl, e_mWalk, e_mComp, e_mGen, e_mTold, e_sTry, e_capsOk, e_dLt, e_dLe, e_dGt, e_dGe, e_dSub, e_dMax2, e_dMin2, e_mNot, e_mB, e_mJoin, Pv.mFun, Pv.entry, Pv.argS, Pv.finals, Pv.see, Pv.sees, Pv.vals, Pv.takes, Pv.pinOf, Pv.back, Pv.atsOk, Pv.allFr, Pv.ds, Pv.mkT, Pv.mkL, Pv.fz, Pv.kidVs, Pv.stAll, Pv.rangeD1, Pv.rangeD2, Pv.markOf, Pv.g1, Pv.g2, Pv.dLen, Pv.dAbs, Pv.dInt, Pv.dTup, Pv.dList, Pv.dAdd, Pv.dMul, Pv.dNeg, Pv.ints2, DV.d, Pv.modI_p, Pv.divI_p, Pv.idivI_p, Pv.imulI_r, Pv.mulI_p, Pv.powI_p, Pv.dSl, Pv.fzs, Pv.walkD, Pv.dRev, Pv.dOrd, Pv.kids, Pv.kidsL, Pv.kidsT, Pv.items, Pv.dIx, Pv.dEq, Pv.dNe, Pv.dIn, Pv.dNotIn, Pv.eqD_int, Pv.eqD_str, Pv.eqD_bl, Pv.kAny, Pv.kTupG, Pv.anyD, Pv.gSl, sz0, sy0, sz1, sy1, sz2, sy2, sz3, sy3, sz4, sy4, sz5, sy5, sz6, sy6, sz7, sy7, sz8, sy8, sz9, sy9, sz10, sy10, sz11, sy11, sz12, sy12, decide_true, decide_false, decide_not, ite_true, ite_false, not_true_eq_false, not_false_eq_true, List.map_nil, List.map_cons, List.length_nil, List.length_cons, List.replicate_succ, List.replicate_zero, List.nil_append, List.cons_append, List.append_nil, List.getElem?_cons_zero, List.getElem?_cons_succ, List.getElem?_nil, List.set_cons_zero, List.set_cons_succ, List.length_replicate, Option.map_some, Option.map_none, Option.bind_some, Option.bind_none, Nat.sub_self, Nat.reduceSub, Nat.reduceAdd, Nat.zero_add, eq_self, List.contains_cons, List.contains_nil, Bool.and_true, Bool.true_and, Bool.or_true, Bool.true_or, Bool.or_false, Bool.false_or, Bool.and_false, Bool.false_and, Bool.and_self, beq_self_eq_true, Nat.reduceBEq, if_true, if_false, Bool.false_eq_true, reduceIte, reduceCtorEq, decide_eq_true_eq, Bool.not_true, Bool.not_false]
  exact h2

theorem t3_print : ∀ (cs : List Nat) (t f s v : Int), v = t % 4294967296 → (cs.map fun c : Nat => (c : Int)).foldl (fun v y => (v * 33 + y) % 4294967296) v = (t3 cs t f s).1 % 4294967296
  | [], t, f, s, v, h => h
  | c :: cs, t, f, s, v, h => by
    rw [List.map_cons, List.foldl_cons, t3]
    exact t3_print cs _ _ _ _ (by omega)
theorem t3_bytes : ∀ (cs : List Nat) (t f s : Int) (q : Int × Int), q.1 = f % 65521 → q.2 = s % 65521 → (cs.map fun c : Nat => (c : Int)).foldl (fun (q : Int × Int) y => ((q.1 + y) % 65521, (q.2 + (q.1 + y) % 65521) % 65521)) q = ((t3 cs t f s).2.1 % 65521, (t3 cs t f s).2.2 % 65521)
  | [], t, f, s, q, h1, h2 => by
    rw [t3, ← h1, ← h2]; rfl
  | c :: cs, t, f, s, q, h1, h2 => by
    rw [List.map_cons, List.foldl_cons, t3]
    exact t3_bytes cs _ _ _ _ (by show (q.1 + (c : Int)) % 65521 = _; omega) (by show (q.2 + (q.1 + (c : Int)) % 65521) % 65521 = _; omega)
theorem sg_bytes {c : Nat} (h : c ∈ sg) : c ≤ 126 := by
  have : sg.all (fun c => decide (c ≤ 126)) = true := by kernel_rfl
  exact of_decide_eq_true (List.all_eq_true.mp this c h)
theorem ord_comp {δ0 : Sls} (i : Nat) {fe : Sls → Res DV} {s : DV → Sls → Option Sls} {vs : List Nat} : True := trivial

theorem q19c {z0 z1 z2 z3 z4 z5 z6 z7 z8 z9 z10 z11 z12 z13 z19 : Sl} (cs : List Nat) (t f s : Int) (hl : cs.length ≤ 1000) : compIt (stoO 18) (mT true) (mCallN (g1 dOrd) (mCons (mAt 18) (mNil))) [18] (cs.map fun c => .fr (.str [c])) [z0, z1, z2, z3, z4, z5, z6, z7, z8, z9, z10, z11, z12, z13, .s false (.fr (.str (cs))), .s false (.fr (.int (t))), .s false (.fr (.int (f))), .s false (.fr (.int (s))), .un, z19] [] = .ok ((cs.map fun c : Nat => D.int (c : Int)).map DV.fr) [z0, z1, z2, z3, z4, z5, z6, z7, z8, z9, z10, z11, z12, z13, .s false (.fr (.str (cs))), .s false (.fr (.int (t))), .s false (.fr (.int (f))), .s false (.fr (.int (s))), .un, z19] := by
  have r := compIt_all (s := stoO 18) (ft := mT true) (fe := mCallN (g1 dOrd) (mCons (mAt 18) (mNil))) (vs := [18]) (P := fun δ => δ = [z0, z1, z2, z3, z4, z5, z6, z7, z8, z9, z10, z11, z12, z13, .s false (.fr (.str (cs))), .s false (.fr (.int (t))), .s false (.fr (.int (f))), .s false (.fr (.int (s))), .un, z19]) (g := fun x => match x with
    | .fr (.str [c]) => .fr (.int (c : Int))
    | _ => .fr .non) (xs := cs.map fun c => .fr (.str [c])) (δ := [z0, z1, z2, z3, z4, z5, z6, z7, z8, z9, z10, z11, z12, z13, .s false (.fr (.str (cs))), .s false (.fr (.int (t))), .s false (.fr (.int (f))), .s false (.fr (.int (s))), .un, z19]) (acc := []) (fun x hx δ hp => by
      subst hp
      obtain ⟨c, hc, rfl⟩ := List.mem_map.mp hx
      refine ⟨[z0, z1, z2, z3, z4, z5, z6, z7, z8, z9, z10, z11, z12, z13, .s false (.fr (.str (cs))), .s false (.fr (.int (t))), .s false (.fr (.int (f))), .s false (.fr (.int (s))), .s false (.fr (.str ([c]))), z19], [z0, z1, z2, z3, z4, z5, z6, z7, z8, z9, z10, z11, z12, z13, .s false (.fr (.str (cs))), .s false (.fr (.int (t))), .s false (.fr (.int (f))), .s false (.fr (.int (s))), .s false (.fr (.str ([c]))), z19], [z0, z1, z2, z3, z4, z5, z6, z7, z8, z9, z10, z11, z12, z13, .s false (.fr (.str (cs))), .s false (.fr (.int (t))), .s false (.fr (.int (f))), .s false (.fr (.int (s))), .s false (.fr (.str ([c]))), z19], rfl, rfl, ?_, rfl⟩
      simp -implicitDefEqProofs only [bind_ok, bind_er, bind_bad, thenS_ok, thenS_er, thenS_bad, then_nx, then_rt, then_bk, then_ct, then_er, fin_some, ofO_some, e_sSeq, e_sIf, e_sRt, e_sSet, e_sto, e_sAug, e_sFor, e_sPar, e_sAsg, e_sEx, e_sNx, e_sRaise, e_sItem, e_sAppend, e_sRtN, e_sBk, e_sCt, e_mC, e_mRd, e_mFz, e_frz, e_mMv, e_mVal, e_mAt, e_mOp2, e_mOp1, e_tst, e_cond, e_mT, e_mCh, e_mNil, e_mCons, e_mCallN, e_mDisp, e_stoO, e_stTup, e_mRange, e_lstAt, e_callIt, e_mCallF, e_mNoP, e_mSomeP, e_mSl, e_mWalk, e_mComp, e_mGen, e_mTold, e_sTry, e_capsOk, e_dLt, e_dLe, e_dGt, e_dGe, e_dSub, e_dMax2, e_dMin2, e_mNot, e_mB, e_mJoin, Pv.mFun, Pv.entry, Pv.argS, Pv.finals, Pv.see, Pv.sees, Pv.vals, Pv.takes, Pv.pinOf, Pv.back, Pv.atsOk, Pv.allFr, Pv.ds, Pv.mkT, Pv.mkL, Pv.fz, Pv.kidVs, Pv.stAll, Pv.rangeD1, Pv.rangeD2, Pv.markOf, Pv.g1, Pv.g2, Pv.dLen, Pv.dAbs, Pv.dInt, Pv.dTup, Pv.dList, Pv.dAdd, Pv.dMul, Pv.dNeg, Pv.ints2, DV.d, Pv.modI_p, Pv.divI_p, Pv.idivI_p, Pv.imulI_r, Pv.mulI_p, Pv.powI_p, Pv.dSl, Pv.fzs, Pv.walkD, Pv.dRev, Pv.dOrd, Pv.kids, Pv.kidsL, Pv.kidsT, Pv.items, Pv.dIx, Pv.dEq, Pv.dNe, Pv.dIn, Pv.dNotIn, Pv.eqD_int, Pv.eqD_str, Pv.eqD_bl, Pv.kAny, Pv.kTupG, Pv.anyD, Pv.gSl, sz0, sy0, sz1, sy1, sz2, sy2, sz3, sy3, sz4, sy4, sz5, sy5, sz6, sy6, sz7, sy7, sz8, sy8, sz9, sy9, sz10, sy10, sz11, sy11, sz12, sy12, decide_true, decide_false, decide_not, ite_true, ite_false, not_true_eq_false, not_false_eq_true, List.map_nil, List.map_cons, List.length_nil, List.length_cons, List.replicate_succ, List.replicate_zero, List.nil_append, List.cons_append, List.append_nil, List.getElem?_cons_zero, List.getElem?_cons_succ, List.getElem?_nil, List.set_cons_zero, List.set_cons_succ, List.length_replicate, Option.map_some, Option.map_none, Option.bind_some, Option.bind_none, Nat.sub_self, Nat.reduceSub, Nat.reduceAdd, Nat.zero_add, eq_self, List.contains_cons, List.contains_nil, Bool.and_true, Bool.true_and, Bool.or_true, Bool.true_or, Bool.or_false, Bool.false_or, Bool.and_false, Bool.false_and, Bool.and_self, beq_self_eq_true, Nat.reduceBEq, if_true, if_false, Bool.false_eq_true, reduceIte, reduceCtorEq, decide_eq_true_eq, Bool.not_true, Bool.not_false]) rfl (by simp; exact Nat.le_trans hl (by decide))
  obtain ⟨δ', rfl, e⟩ := r
  rw [e]
  rw [List.nil_append, List.map_map, List.map_map]
  rfl

theorem q19 {z0 z1 z2 z3 z4 z5 z6 z7 z8 z9 z10 z11 z12 z13 z19 : Sl} (cs : List Nat) (t' : Sl) (hs : signs cs) (hl : cs.length ≤ 6) (ht : t' = .un ∨ ∃ x, t' = .s false (.fr x)) : (sIf (cond (tst (mOp2 dNe (mVal (mCallF [14] 1 m_text_print (mCons (mAt 14) (mNil)))) (mVal (mOp2 (ints2 modI) (mAt 15) (mVal (mOp2 (ints2 powI) (mVal (mC (.int 2))) (mVal (mC (.int 32))))))))) (mT true) (cond (tst (mOp2 dNe (mVal (mCallF [] 1 m_bytes_print (mCons (mVal (mCallF [14] 1 m_text_bytes (mCons (mAt 14) (mNil)))) (mNil)))) (mVal (mOp2 dAdd (mVal (mOp2 dMul (mVal (mOp2 (ints2 modI) (mAt 17) (mVal (mC (.int 65521))))) (mVal (mC (.int 65536))))) (mVal (mOp2 (ints2 modI) (mAt 16) (mVal (mC (.int 65521))))))))) (mT true) (tst (mOp2 dNe (mVal (mCallF [] 1 m_bytes_text (mCons (mVal (mComp (stoO 18) (mWalk (mFz 14)) (mT true) (mCallN (g1 dOrd) (mCons (mAt 18) (mNil))) [18])) (mNil)))) (mAt 14)))))
  (sRt (mC (.bl false)))
  (sNx)) [z0, z1, z2, z3, z4, z5, z6, z7, z8, z9, z10, z11, z12, z13, .s false (.fr (.str (cs))), .s false (.fr (.int ((t3 cs 5381 1 0).1))), .s false (.fr (.int ((t3 cs 5381 1 0).2.1))), .s false (.fr (.int ((t3 cs 5381 1 0).2.2))), t', z19] = .nx [z0, z1, z2, z3, z4, z5, z6, z7, z8, z9, z10, z11, z12, z13, .s false (.fr (.str (cs))), .s false (.fr (.int ((t3 cs 5381 1 0).1))), .s false (.fr (.int ((t3 cs 5381 1 0).2.1))), .s false (.fr (.int ((t3 cs 5381 1 0).2.2))), t', z19] := by
  have hl2 : cs.length ≤ PySem.sizeLine := Nat.le_trans (show _ ≤ 20 by omega) (by decide)
  have e1 := text_print_eq hs hl2
  rw [t3_print cs 5381 1 0 5381 (by omega)] at e1
  have e2 := text_bytes_eq hs hl2
  obtain ⟨q, hq, e3⟩ := bytes_print_fr (ys := cs.map fun c : Nat => (c : Int)) (fun y hy => by
    obtain ⟨c, hc, rfl⟩ := List.mem_map.mp hy
    have := sg_bytes (hs c hc)
    omega)
  rw [t3_bytes cs 5381 1 0 (1, 0) rfl rfl] at hq
  subst hq
  have e4 := bytes_text_eq hs (by omega)
  have e5 := fun {z0 z1 z2 z3 z4 z5 z6 z7 z8 z9 z10 z11 z12 z13 z19} => q19c (z0 := z0) (z1 := z1) (z2 := z2) (z3 := z3) (z4 := z4) (z5 := z5) (z6 := z6) (z7 := z7) (z8 := z8) (z9 := z9) (z10 := z10) (z11 := z11) (z12 := z12) (z13 := z13) (z19 := z19) cs (t3 cs 5381 1 0).1 (t3 cs 5381 1 0).2.1 (t3 cs 5381 1 0).2.2 (by omega)
  have e6 := allFr_map (cs.map fun c : Nat => D.int (c : Int))
  have e7 := ds_map (cs.map fun c : Nat => D.int (c : Int))
  have e8 : (cs.map fun c : Nat => (c : Int)).map D.int = cs.map fun c : Nat => D.int (c : Int) := by rw [List.map_map]; rfl
  have e9 : powI 2 32 = some (.int 4294967296) := by kernel_rfl
  have p1 : (0 : Int) < 65521 := by omega
  have p2 : (0 : Int) < 4294967296 := by omega
  have p3 : small 65536 = true := by decide
  have p4 := fun x : Int => okMul_r (i := x) p3
  rw [e8] at e2 e3 e4
  generalize (cs.map fun c : Nat => D.int (c : Int)) = L at *
  generalize t3 cs 5381 1 0 = tt at *
  clear e8 hs hl hl2
  generalize hM : L.map DV.fr = M at *
  have e10 : M.map DV.d = L := e7
  rcases ht with rfl | ⟨x, rfl⟩
  · simp -implicitDefEqProofs only [e1, e2, e3, e4, e5, e6, e10, e9, p1, p2, p4, mkL, wipeS, okOwn, restore, bind_ok, bind_er, bind_bad, thenS_ok, thenS_er, thenS_bad, then_nx, then_rt, then_bk, then_ct, then_er, fin_some, ofO_some, e_sSeq, e_sIf, e_sRt, e_sSet, e_sto, e_sAug, e_sFor, e_sPar, e_sAsg, e_sEx, e_sNx, e_sRaise, e_sItem, e_sAppend, e_sRtN, e_sBk, e_sCt, e_mC, e_mRd, e_mFz, e_frz, e_mMv, e_mVal, e_mAt, e_mOp2, e_mOp1, e_tst, e_cond, e_mT, e_mCh, e_mNil, e_mCons, e_mCallN, e_mDisp, e_stoO, e_stTup, e_mRange, e_lstAt, e_callIt, e_mCallF, e_mNoP, e_mSomeP, e_mSl, e_mWalk, e_mComp, e_mGen, e_mTold, e_sTry, e_capsOk, e_dLt, e_dLe, e_dGt, e_dGe, e_dSub, e_dMax2, e_dMin2, e_mNot, e_mB, e_mJoin, Pv.mFun, Pv.entry, Pv.argS, Pv.finals, Pv.see, Pv.sees, Pv.vals, Pv.takes, Pv.pinOf, Pv.back, Pv.atsOk, Pv.allFr, Pv.ds, Pv.mkT, Pv.mkL, Pv.fz, Pv.kidVs, Pv.stAll, Pv.rangeD1, Pv.rangeD2, Pv.markOf, Pv.g1, Pv.g2, Pv.dLen, Pv.dAbs, Pv.dInt, Pv.dTup, Pv.dList, Pv.dAdd, Pv.dMul, Pv.dNeg, Pv.ints2, DV.d, Pv.modI_p, Pv.divI_p, Pv.idivI_p, Pv.imulI_r, Pv.mulI_p, Pv.powI_p, Pv.dSl, Pv.fzs, Pv.walkD, Pv.dRev, Pv.dOrd, Pv.kids, Pv.kidsL, Pv.kidsT, Pv.items, Pv.dIx, Pv.dEq, Pv.dNe, Pv.dIn, Pv.dNotIn, Pv.eqD_int, Pv.eqD_str, Pv.eqD_bl, Pv.kAny, Pv.kTupG, Pv.anyD, Pv.gSl, sz0, sy0, sz1, sy1, sz2, sy2, sz3, sy3, sz4, sy4, sz5, sy5, sz6, sy6, sz7, sy7, sz8, sy8, sz9, sy9, sz10, sy10, sz11, sy11, sz12, sy12, decide_true, decide_false, decide_not, ite_true, ite_false, not_true_eq_false, not_false_eq_true, List.map_nil, List.map_cons, List.length_nil, List.length_cons, List.replicate_succ, List.replicate_zero, List.nil_append, List.cons_append, List.append_nil, List.getElem?_cons_zero, List.getElem?_cons_succ, List.getElem?_nil, List.set_cons_zero, List.set_cons_succ, List.length_replicate, Option.map_some, Option.map_none, Option.bind_some, Option.bind_none, Nat.sub_self, Nat.reduceSub, Nat.reduceAdd, Nat.zero_add, eq_self, List.contains_cons, List.contains_nil, Bool.and_true, Bool.true_and, Bool.or_true, Bool.true_or, Bool.or_false, Bool.false_or, Bool.and_false, Bool.false_and, Bool.and_self, beq_self_eq_true, Nat.reduceBEq, if_true, if_false, Bool.false_eq_true, reduceIte, reduceCtorEq, decide_eq_true_eq, Bool.not_true, Bool.not_false]
  · simp -implicitDefEqProofs only [e1, e2, e3, e4, e5, e6, e10, e9, p1, p2, p4, mkL, wipeS, okOwn, restore, bind_ok, bind_er, bind_bad, thenS_ok, thenS_er, thenS_bad, then_nx, then_rt, then_bk, then_ct, then_er, fin_some, ofO_some, e_sSeq, e_sIf, e_sRt, e_sSet, e_sto, e_sAug, e_sFor, e_sPar, e_sAsg, e_sEx, e_sNx, e_sRaise, e_sItem, e_sAppend, e_sRtN, e_sBk, e_sCt, e_mC, e_mRd, e_mFz, e_frz, e_mMv, e_mVal, e_mAt, e_mOp2, e_mOp1, e_tst, e_cond, e_mT, e_mCh, e_mNil, e_mCons, e_mCallN, e_mDisp, e_stoO, e_stTup, e_mRange, e_lstAt, e_callIt, e_mCallF, e_mNoP, e_mSomeP, e_mSl, e_mWalk, e_mComp, e_mGen, e_mTold, e_sTry, e_capsOk, e_dLt, e_dLe, e_dGt, e_dGe, e_dSub, e_dMax2, e_dMin2, e_mNot, e_mB, e_mJoin, Pv.mFun, Pv.entry, Pv.argS, Pv.finals, Pv.see, Pv.sees, Pv.vals, Pv.takes, Pv.pinOf, Pv.back, Pv.atsOk, Pv.allFr, Pv.ds, Pv.mkT, Pv.mkL, Pv.fz, Pv.kidVs, Pv.stAll, Pv.rangeD1, Pv.rangeD2, Pv.markOf, Pv.g1, Pv.g2, Pv.dLen, Pv.dAbs, Pv.dInt, Pv.dTup, Pv.dList, Pv.dAdd, Pv.dMul, Pv.dNeg, Pv.ints2, DV.d, Pv.modI_p, Pv.divI_p, Pv.idivI_p, Pv.imulI_r, Pv.mulI_p, Pv.powI_p, Pv.dSl, Pv.fzs, Pv.walkD, Pv.dRev, Pv.dOrd, Pv.kids, Pv.kidsL, Pv.kidsT, Pv.items, Pv.dIx, Pv.dEq, Pv.dNe, Pv.dIn, Pv.dNotIn, Pv.eqD_int, Pv.eqD_str, Pv.eqD_bl, Pv.kAny, Pv.kTupG, Pv.anyD, Pv.gSl, sz0, sy0, sz1, sy1, sz2, sy2, sz3, sy3, sz4, sy4, sz5, sy5, sz6, sy6, sz7, sy7, sz8, sy8, sz9, sy9, sz10, sy10, sz11, sy11, sz12, sy12, decide_true, decide_false, decide_not, ite_true, ite_false, not_true_eq_false, not_false_eq_true, List.map_nil, List.map_cons, List.length_nil, List.length_cons, List.replicate_succ, List.replicate_zero, List.nil_append, List.cons_append, List.append_nil, List.getElem?_cons_zero, List.getElem?_cons_succ, List.getElem?_nil, List.set_cons_zero, List.set_cons_succ, List.length_replicate, Option.map_some, Option.map_none, Option.bind_some, Option.bind_none, Nat.sub_self, Nat.reduceSub, Nat.reduceAdd, Nat.zero_add, eq_self, List.contains_cons, List.contains_nil, Bool.and_true, Bool.true_and, Bool.or_true, Bool.true_or, Bool.or_false, Bool.false_or, Bool.and_false, Bool.false_and, Bool.and_self, beq_self_eq_true, Nat.reduceBEq, if_true, if_false, Bool.false_eq_true, reduceIte, reduceCtorEq, decide_eq_true_eq, Bool.not_true, Bool.not_false]
end K01

set_option Elab.async false
set_option linter.all false
set_option maxRecDepth 100000
set_option maxHeartbeats 4000000
namespace K01
open Pv
theorem q20 {z0 z1 z3 z4 z5 z6 z8 z9 z10 z11 z12 z13 z14 z15 z16 z17 z18 : Sl} (n q : Int) : (sPar [stoO 19, stoO 7] (mCons (mVal (mC (.str []))) (mCons (mVal (mFz 2)) (mNil)))) [z0, z1, .s false (.fr (.int (n))), z3, z4, z5, z6, .s false (.fr (.int (q))), z8, z9, z10, z11, z12, z13, z14, z15, z16, z17, z18, .un] = .nx [z0, z1, .s false (.fr (.int (n))), z3, z4, z5, z6, .s false (.fr (.int (n))), z8, z9, z10, z11, z12, z13, z14, z15, z16, z17, z18, .s false (.fr (.str ([])))] := by
  simp -implicitDefEqProofs only [bind_ok, bind_er, bind_bad, thenS_ok, thenS_er, thenS_bad, then_nx, then_rt, then_bk, then_ct, then_er, fin_some, ofO_some, e_sSeq, e_sIf, e_sRt, e_sSet, e_sto, e_sAug, e_sFor, e_sPar, e_sAsg, e_sEx, e_sNx, e_sRaise, e_sItem, e_sAppend, e_sRtN, e_sBk, e_sCt, e_mC, e_mRd, e_mFz, e_frz, e_mMv, e_mVal, e_mAt, e_mOp2, e_mOp1, e_tst, e_cond, e_mT, e_mCh, e_mNil, e_mCons, e_mCallN, e_mDisp, e_stoO, e_stTup, e_mRange, e_lstAt, e_callIt, e_mCallF, e_mNoP, e_mSomeP, e_mSl, e_mWalk, e_mComp, e_mGen, e_mTold, e_sTry, e_capsOk, e_dLt, e_dLe, e_dGt, e_dGe, e_dSub, e_dMax2, e_dMin2, e_mNot, e_mB, e_mJoin, Pv.mFun, Pv.entry, Pv.argS, Pv.finals, Pv.see, Pv.sees, Pv.vals, Pv.takes, Pv.pinOf, Pv.back, Pv.atsOk, Pv.allFr, Pv.ds, Pv.mkT, Pv.mkL, Pv.fz, Pv.kidVs, Pv.stAll, Pv.rangeD1, Pv.rangeD2, Pv.markOf, Pv.g1, Pv.g2, Pv.dLen, Pv.dAbs, Pv.dInt, Pv.dTup, Pv.dList, Pv.dAdd, Pv.dMul, Pv.dNeg, Pv.ints2, DV.d, Pv.modI_p, Pv.divI_p, Pv.idivI_p, Pv.imulI_r, Pv.mulI_p, Pv.powI_p, Pv.dSl, Pv.fzs, Pv.walkD, Pv.dRev, Pv.dOrd, Pv.kids, Pv.kidsL, Pv.kidsT, Pv.items, Pv.dIx, Pv.dEq, Pv.dNe, Pv.dIn, Pv.dNotIn, Pv.eqD_int, Pv.eqD_str, Pv.eqD_bl, Pv.kAny, Pv.kTupG, Pv.anyD, Pv.gSl, sz0, sy0, sz1, sy1, sz2, sy2, sz3, sy3, sz4, sy4, sz5, sy5, sz6, sy6, sz7, sy7, sz8, sy8, sz9, sy9, sz10, sy10, sz11, sy11, sz12, sy12, decide_true, decide_false, decide_not, ite_true, ite_false, not_true_eq_false, not_false_eq_true, List.map_nil, List.map_cons, List.length_nil, List.length_cons, List.replicate_succ, List.replicate_zero, List.nil_append, List.cons_append, List.append_nil, List.getElem?_cons_zero, List.getElem?_cons_succ, List.getElem?_nil, List.set_cons_zero, List.set_cons_succ, List.length_replicate, Option.map_some, Option.map_none, Option.bind_some, Option.bind_none, Nat.sub_self, Nat.reduceSub, Nat.reduceAdd, Nat.zero_add, eq_self, List.contains_cons, List.contains_nil, Bool.and_true, Bool.true_and, Bool.or_true, Bool.true_or, Bool.or_false, Bool.false_or, Bool.and_false, Bool.false_and, Bool.and_self, beq_self_eq_true, Nat.reduceBEq, if_true, if_false, Bool.false_eq_true, reduceIte, reduceCtorEq, decide_eq_true_eq, Bool.not_true, Bool.not_false]

def tq (q : Int) : Nat → Sl
  | 0 => .s false (.fr (.int q))
  | i + 1 => .s false (.fr (.int (i : Int)))

theorem q21s {z0 z1 z2 z3 z4 z5 z6 z9 z10 z11 z12 z13 z14 z15 z16 z17 z18 : Sl} (i : Nat) (l : List Nat) (q : Nat) (hl : 1 + l.length ≤ PySem.sizeLine) : (sPar [stoO 19, stoO 7] (mCons (mVal (mOp2 dAdd (mVal (mOp2 dIx (mVal (mC (.str [48, 49, 50, 51, 52, 53, 54, 55, 56, 57, 97, 98, 99, 100, 101, 102]))) (mVal (mOp2 (ints2 modI) (mAt 7) (mVal (mC (.int 16))))))) (mAt 19))) (mCons (mVal (mOp2 (ints2 divI) (mAt 7) (mVal (mC (.int 16))))) (mNil)))) [z0, z1, z2, z3, z4, z5, z6, .s false (.fr (.int (q : Nat))), .s false (.fr (.int (i : Nat))), z9, z10, z11, z12, z13, z14, z15, z16, z17, z18, .s false (.fr (.str (l)))] = .nx [z0, z1, z2, z3, z4, z5, z6, .s false (.fr (.int ((q / 16 : Nat)))), .s false (.fr (.int (i : Nat))), z9, z10, z11, z12, z13, z14, z15, z16, z17, z18, .s false (.fr (.str (hexs.getD (q % 16) 0 :: l)))] := by
  have b1 : (q : Int) % 16 = ((q % 16 : Nat) : Int) := by omega
  have b2 : (q : Int) / 16 = ((q / 16 : Nat) : Int) := by omega
  have b3 := hex_at (q % 16) (Nat.mod_lt _ (by omega))
  generalize hexs.getD (q % 16) 0 = g at *
  have b4 : (0 : Int) < 16 := by omega
  have b5 : (16 : Int).natAbs.log2 < 9000 := by decide
  simp -implicitDefEqProofs only [b1, b2, b3, b4, b5, hl, sz16, bind_ok, bind_er, bind_bad, thenS_ok, thenS_er, thenS_bad, then_nx, then_rt, then_bk, then_ct, then_er, fin_some, ofO_some, e_sSeq, e_sIf, e_sRt, e_sSet, e_sto, e_sAug, e_sFor, e_sPar, e_sAsg, e_sEx, e_sNx, e_sRaise, e_sItem, e_sAppend, e_sRtN, e_sBk, e_sCt, e_mC, e_mRd, e_mFz, e_frz, e_mMv, e_mVal, e_mAt, e_mOp2, e_mOp1, e_tst, e_cond, e_mT, e_mCh, e_mNil, e_mCons, e_mCallN, e_mDisp, e_stoO, e_stTup, e_mRange, e_lstAt, e_callIt, e_mCallF, e_mNoP, e_mSomeP, e_mSl, e_mWalk, e_mComp, e_mGen, e_mTold, e_sTry, e_capsOk, e_dLt, e_dLe, e_dGt, e_dGe, e_dSub, e_dMax2, e_dMin2, e_mNot, e_mB, e_mJoin, Pv.mFun, Pv.entry, Pv.argS, Pv.finals, Pv.see, Pv.sees, Pv.vals, Pv.takes, Pv.pinOf, Pv.back, Pv.atsOk, Pv.allFr, Pv.ds, Pv.mkT, Pv.mkL, Pv.fz, Pv.kidVs, Pv.stAll, Pv.rangeD1, Pv.rangeD2, Pv.markOf, Pv.g1, Pv.g2, Pv.dLen, Pv.dAbs, Pv.dInt, Pv.dTup, Pv.dList, Pv.dAdd_str, Pv.dMul, Pv.dNeg, Pv.ints2, DV.d, Pv.modI_p, Pv.divI_p, Pv.idivI_p, Pv.imulI_r, Pv.mulI_p, Pv.powI_p, Pv.dSl, Pv.fzs, Pv.walkD, Pv.dRev, Pv.dOrd, Pv.kids, Pv.kidsL, Pv.kidsT, Pv.items, Pv.dIx, Pv.dEq, Pv.dNe, Pv.dIn, Pv.dNotIn, Pv.eqD_int, Pv.eqD_str, Pv.eqD_bl, Pv.kAny, Pv.kTupG, Pv.anyD, Pv.gSl, sz0, sy0, sz1, sy1, sz2, sy2, sz3, sy3, sz4, sy4, sz5, sy5, sz6, sy6, sz7, sy7, sz8, sy8, sz9, sy9, sz10, sy10, sz11, sy11, sz12, sy12, decide_true, decide_false, decide_not, ite_true, ite_false, not_true_eq_false, not_false_eq_true, List.map_nil, List.map_cons, List.length_nil, List.length_cons, List.replicate_succ, List.replicate_zero, List.nil_append, List.cons_append, List.append_nil, List.getElem?_cons_zero, List.getElem?_cons_succ, List.getElem?_nil, List.set_cons_zero, List.set_cons_succ, List.length_replicate, Option.map_some, Option.map_none, Option.bind_some, Option.bind_none, Nat.sub_self, Nat.reduceSub, Nat.reduceAdd, Nat.zero_add, eq_self, List.contains_cons, List.contains_nil, Bool.and_true, Bool.true_and, Bool.or_true, Bool.true_or, Bool.or_false, Bool.false_or, Bool.and_false, Bool.false_and, Bool.and_self, beq_self_eq_true, Nat.reduceBEq, if_true, if_false, Bool.false_eq_true, reduceIte, reduceCtorEq, decide_eq_true_eq, Bool.not_true, Bool.not_false]

theorem q21 {z0 z1 z2 z3 z4 z5 z6 z9 z10 z11 z12 z13 z14 z15 z16 z17 z18 : Sl} (n : Nat) (q : Int) (k : Nat) (hk : k = 12) : (sFor (stoO 8) (mRange rangeD1 (mCons (mVal (mC (.int 12))) (mNil)))
  (sPar [stoO 19, stoO 7] (mCons (mVal (mOp2 dAdd (mVal (mOp2 dIx (mVal (mC (.str [48, 49, 50, 51, 52, 53, 54, 55, 56, 57, 97, 98, 99, 100, 101, 102]))) (mVal (mOp2 (ints2 modI) (mAt 7) (mVal (mC (.int 16))))))) (mAt 19))) (mCons (mVal (mOp2 (ints2 divI) (mAt 7) (mVal (mC (.int 16))))) (mNil))))) [z0, z1, z2, z3, z4, z5, z6, .s false (.fr (.int (n : Nat))), .s false (.fr (.int (q))), z9, z10, z11, z12, z13, z14, z15, z16, z17, z18, .s false (.fr (.str ([])))] = .nx [z0, z1, z2, z3, z4, z5, z6, .s false (.fr (.int ((n / 16 ^ k : Nat)))), tq q k, z9, z10, z11, z12, z13, z14, z15, z16, z17, z18, .s false (.fr (.str (hx n k)))] := by
  have lp := iterS_inv (s := stoO 8) (body := sPar [stoO 19, stoO 7] (mCons (mVal (mOp2 dAdd (mVal (mOp2 dIx (mVal (mC (.str [48, 49, 50, 51, 52, 53, 54, 55, 56, 57, 97, 98, 99, 100, 101, 102]))) (mVal (mOp2 (ints2 modI) (mAt 7) (mVal (mC (.int 16))))))) (mAt 19))) (mCons (mVal (mOp2 (ints2 divI) (mAt 7) (mVal (mC (.int 16))))) (mNil)))) (fun i => [z0, z1, z2, z3, z4, z5, z6, .s false (.fr (.int ((n / 16 ^ i : Nat)))), tq q i, z9, z10, z11, z12, z13, z14, z15, z16, z17, z18, .s false (.fr (.str (hx n i)))]) (rgItems 0 k) 0 (fun i x hx' => by
    obtain ⟨hi, rfl⟩ := rg_get hx'
    have b0 : (0 : Int) + (i : Int) = (i : Int) := by omega
    have b6 : 1 + i ≤ PySem.sizeLine := Nat.le_trans (show 1 + i ≤ 20 by omega) (by decide)
    refine ⟨[z0, z1, z2, z3, z4, z5, z6, .s false (.fr (.int ((n / 16 ^ (0 + i) : Nat)))), .s false (.fr (.int (i : Nat))), z9, z10, z11, z12, z13, z14, z15, z16, z17, z18, .s false (.fr (.str (hx n (0 + i))))], ?_, .inl ?_⟩
    · generalize n / 16 ^ (0 + i) = q
      generalize hx n (0 + i) = L
      rcases i with _ | i <;> simp -implicitDefEqProofs only [b0, Nat.zero_add, tq, bind_ok, bind_er, bind_bad, thenS_ok, thenS_er, thenS_bad, then_nx, then_rt, then_bk, then_ct, then_er, fin_some, ofO_some, e_sSeq, e_sIf, e_sRt, e_sSet, e_sto, e_sAug, e_sFor, e_sPar, e_sAsg, e_sEx, e_sNx, e_sRaise, e_sItem, e_sAppend, e_sRtN, e_sBk, e_sCt, e_mC, e_mRd, e_mFz, e_frz, e_mMv, e_mVal, e_mAt, e_mOp2, e_mOp1, e_tst, e_cond, e_mT, e_mCh, e_mNil, e_mCons, e_mCallN, e_mDisp, e_stoO, e_stTup, e_mRange, e_lstAt, e_callIt, e_mCallF, e_mNoP, e_mSomeP, e_mSl, e_mWalk, e_mComp, e_mGen, e_mTold, e_sTry, e_capsOk, e_dLt, e_dLe, e_dGt, e_dGe, e_dSub, e_dMax2, e_dMin2, e_mNot, e_mB, e_mJoin, Pv.mFun, Pv.entry, Pv.argS, Pv.finals, Pv.see, Pv.sees, Pv.vals, Pv.takes, Pv.pinOf, Pv.back, Pv.atsOk, Pv.allFr, Pv.ds, Pv.mkT, Pv.mkL, Pv.fz, Pv.kidVs, Pv.stAll, Pv.rangeD1, Pv.rangeD2, Pv.markOf, Pv.g1, Pv.g2, Pv.dLen, Pv.dAbs, Pv.dInt, Pv.dTup, Pv.dList, Pv.dAdd, Pv.dMul, Pv.dNeg, Pv.ints2, DV.d, Pv.modI_p, Pv.divI_p, Pv.idivI_p, Pv.imulI_r, Pv.mulI_p, Pv.powI_p, Pv.dSl, Pv.fzs, Pv.walkD, Pv.dRev, Pv.dOrd, Pv.kids, Pv.kidsL, Pv.kidsT, Pv.items, Pv.dIx, Pv.dEq, Pv.dNe, Pv.dIn, Pv.dNotIn, Pv.eqD_int, Pv.eqD_str, Pv.eqD_bl, Pv.kAny, Pv.kTupG, Pv.anyD, Pv.gSl, sz0, sy0, sz1, sy1, sz2, sy2, sz3, sy3, sz4, sy4, sz5, sy5, sz6, sy6, sz7, sy7, sz8, sy8, sz9, sy9, sz10, sy10, sz11, sy11, sz12, sy12, decide_true, decide_false, decide_not, ite_true, ite_false, not_true_eq_false, not_false_eq_true, List.map_nil, List.map_cons, List.length_nil, List.length_cons, List.replicate_succ, List.replicate_zero, List.nil_append, List.cons_append, List.append_nil, List.getElem?_cons_zero, List.getElem?_cons_succ, List.getElem?_nil, List.set_cons_zero, List.set_cons_succ, List.length_replicate, Option.map_some, Option.map_none, Option.bind_some, Option.bind_none, Nat.sub_self, Nat.reduceSub, Nat.reduceAdd, Nat.zero_add, eq_self, List.contains_cons, List.contains_nil, Bool.and_true, Bool.true_and, Bool.or_true, Bool.true_or, Bool.or_false, Bool.false_or, Bool.and_false, Bool.false_and, Bool.and_self, beq_self_eq_true, Nat.reduceBEq, if_true, if_false, Bool.false_eq_true, reduceIte, reduceCtorEq, decide_eq_true_eq, Bool.not_true, Bool.not_false]
    · have b7 : 1 + (hx n (0 + i)).length ≤ PySem.sizeLine := by rw [hx_len, Nat.zero_add]; exact b6
      have b8 : n / 16 ^ (0 + i) / 16 = n / 16 ^ (0 + i + 1) := by rw [Nat.pow_succ, ← Nat.div_div_eq_div_mul]
      rw [q21s _ _ _ b7, b8, hx, Nat.zero_add, show tq q (i + 1) = .s false (.fr (.int (i : Int))) from rfl])
  rw [rg_len] at lp
  rw [Nat.zero_add, Nat.pow_zero, Nat.div_one, show hx n 0 = [] from rfl, show tq q 0 = .s false (.fr (.int q)) from rfl] at lp
  have a6 : inR 12 = true := by kernel_rfl
  have a7 : (12 : Int).toNat = k := by rw [hk]; rfl
  generalize n / 16 ^ k = q2 at *
  generalize hx n k = L at *
  generalize tq q k = T at *
  simp -implicitDefEqProofs only [a6, a7, bind_ok, bind_er, bind_bad, thenS_ok, thenS_er, thenS_bad, then_nx, then_rt, then_bk, then_ct, then_er, fin_some, ofO_some, e_sSeq, e_sIf, e_sRt, e_sSet, e_sto, e_sAug, e_sFor, e_sPar, e_sAsg, e_sEx, e_sNx, e_sRaise, e_sItem, e_sAppend, e_sRtN, e_sBk, e_sCt, e_mC, e_mRd, e_mFz, e_frz, e_mMv, e_mVal, e_mAt, e_mOp2, e_mOp1, e_tst, e_cond, e_mT, e_mCh, e_mNil, e_mCons, e_mCallN, e_mDisp, e_stoO, e_stTup, e_mRange, e_lstAt, e_callIt, e_mCallF, e_mNoP, e_mSomeP, e_mSl, e_mWalk, e_mComp, e_mGen, e_mTold, e_sTry, e_capsOk, e_dLt, e_dLe, e_dGt, e_dGe, e_dSub, e_dMax2, e_dMin2, e_mNot, e_mB, e_mJoin, Pv.mFun, Pv.entry, Pv.argS, Pv.finals, Pv.see, Pv.sees, Pv.vals, Pv.takes, Pv.pinOf, Pv.back, Pv.atsOk, Pv.allFr, Pv.ds, Pv.mkT, Pv.mkL, Pv.fz, Pv.kidVs, Pv.stAll, Pv.rangeD1, Pv.rangeD2, Pv.markOf, Pv.g1, Pv.g2, Pv.dLen, Pv.dAbs, Pv.dInt, Pv.dTup, Pv.dList, Pv.dAdd, Pv.dMul, Pv.dNeg, Pv.ints2, DV.d, Pv.modI_p, Pv.divI_p, Pv.idivI_p, Pv.imulI_r, Pv.mulI_p, Pv.powI_p, Pv.dSl, Pv.fzs, Pv.walkD, Pv.dRev, Pv.dOrd, Pv.kids, Pv.kidsL, Pv.kidsT, Pv.items, Pv.dIx, Pv.dEq, Pv.dNe, Pv.dIn, Pv.dNotIn, Pv.eqD_int, Pv.eqD_str, Pv.eqD_bl, Pv.kAny, Pv.kTupG, Pv.anyD, Pv.gSl, sz0, sy0, sz1, sy1, sz2, sy2, sz3, sy3, sz4, sy4, sz5, sy5, sz6, sy6, sz7, sy7, sz8, sy8, sz9, sy9, sz10, sy10, sz11, sy11, sz12, sy12, decide_true, decide_false, decide_not, ite_true, ite_false, not_true_eq_false, not_false_eq_true, List.map_nil, List.map_cons, List.length_nil, List.length_cons, List.replicate_succ, List.replicate_zero, List.nil_append, List.cons_append, List.append_nil, List.getElem?_cons_zero, List.getElem?_cons_succ, List.getElem?_nil, List.set_cons_zero, List.set_cons_succ, List.length_replicate, Option.map_some, Option.map_none, Option.bind_some, Option.bind_none, Nat.sub_self, Nat.reduceSub, Nat.reduceAdd, Nat.zero_add, eq_self, List.contains_cons, List.contains_nil, Bool.and_true, Bool.true_and, Bool.or_true, Bool.true_or, Bool.or_false, Bool.false_or, Bool.and_false, Bool.false_and, Bool.and_self, beq_self_eq_true, Nat.reduceBEq, if_true, if_false, Bool.false_eq_true, reduceIte, reduceCtorEq, decide_eq_true_eq, Bool.not_true, Bool.not_false]
  exact lp

theorem q22F {z0 z1 z4 z5 z6 z7 z8 z9 z10 z11 z12 z13 z14 z15 z16 z17 z18 : Sl} (F F2 : List DV → RF) (n m : Nat) (L : List Nat) (t : Int) (e0 : F [.fr (.int n), .fr (.int 12)] = .ok (.fr (.str L)) [.un, .un]) (e1 : F2 [.fr (.int m)] = .ok (.fr (.int (2 * t))) [.un]) (e2 : F2 [.fr (.int ((m : Int) - 1))] = .ok (.fr (.int t)) [.un]) : (sIf (cond (tst (mOp2 dNe (mVal (mCallF [2] 2 F (mCons (mAt 2) (mCons (mVal (mC (.int 12))) (mNil))))) (mAt 19))) (mT true) (tst (mOp2 dNe (mVal (mCallF [3] 1 F2 (mCons (mAt 3) (mNil)))) (mVal (mOp2 dMul (mVal (mC (.int 2))) (mVal (mCallF [] 1 F2 (mCons (mVal (mOp2 dSub (mAt 3) (mVal (mC (.int 1))))) (mNil)))))))))
  (sRt (mC (.bl false)))
  (sNx)) [z0, z1, .s false (.fr (.int (n : Nat))), .s false (.fr (.int (m : Nat))), z4, z5, z6, z7, z8, z9, z10, z11, z12, z13, z14, z15, z16, z17, z18, .s false (.fr (.str (L)))] = .nx [z0, z1, .s false (.fr (.int (n : Nat))), .s false (.fr (.int (m : Nat))), z4, z5, z6, z7, z8, z9, z10, z11, z12, z13, z14, z15, z16, z17, z18, .s false (.fr (.str (L)))] := by
  have e5 := fun x : Int => okMul_l (i := 2) (j := x) (by decide)
  simp -implicitDefEqProofs only [e0, e1, e2, e5, bind_ok, bind_er, bind_bad, thenS_ok, thenS_er, thenS_bad, then_nx, then_rt, then_bk, then_ct, then_er, fin_some, ofO_some, e_sSeq, e_sIf, e_sRt, e_sSet, e_sto, e_sAug, e_sFor, e_sPar, e_sAsg, e_sEx, e_sNx, e_sRaise, e_sItem, e_sAppend, e_sRtN, e_sBk, e_sCt, e_mC, e_mRd, e_mFz, e_frz, e_mMv, e_mVal, e_mAt, e_mOp2, e_mOp1, e_tst, e_cond, e_mT, e_mCh, e_mNil, e_mCons, e_mCallN, e_mDisp, e_stoO, e_stTup, e_mRange, e_lstAt, e_callIt, e_mCallF, e_mNoP, e_mSomeP, e_mSl, e_mWalk, e_mComp, e_mGen, e_mTold, e_sTry, e_capsOk, e_dLt, e_dLe, e_dGt, e_dGe, e_dSub, e_dMax2, e_dMin2, e_mNot, e_mB, e_mJoin, Pv.mFun, Pv.entry, Pv.argS, Pv.finals, Pv.see, Pv.sees, Pv.vals, Pv.takes, Pv.pinOf, Pv.back, Pv.atsOk, Pv.allFr, Pv.ds, Pv.mkT, Pv.mkL, Pv.fz, Pv.kidVs, Pv.stAll, Pv.rangeD1, Pv.rangeD2, Pv.markOf, Pv.g1, Pv.g2, Pv.dLen, Pv.dAbs, Pv.dInt, Pv.dTup, Pv.dList, Pv.dAdd, Pv.dMul, Pv.dNeg, Pv.ints2, DV.d, Pv.modI_p, Pv.divI_p, Pv.idivI_p, Pv.imulI_r, Pv.mulI_p, Pv.powI_p, Pv.dSl, Pv.fzs, Pv.walkD, Pv.dRev, Pv.dOrd, Pv.kids, Pv.kidsL, Pv.kidsT, Pv.items, Pv.dIx, Pv.dEq, Pv.dNe, Pv.dIn, Pv.dNotIn, Pv.eqD_int, Pv.eqD_str, Pv.eqD_bl, Pv.kAny, Pv.kTupG, Pv.anyD, Pv.gSl, sz0, sy0, sz1, sy1, sz2, sy2, sz3, sy3, sz4, sy4, sz5, sy5, sz6, sy6, sz7, sy7, sz8, sy8, sz9, sy9, sz10, sy10, sz11, sy11, sz12, sy12, decide_true, decide_false, decide_not, ite_true, ite_false, not_true_eq_false, not_false_eq_true, List.map_nil, List.map_cons, List.length_nil, List.length_cons, List.replicate_succ, List.replicate_zero, List.nil_append, List.cons_append, List.append_nil, List.getElem?_cons_zero, List.getElem?_cons_succ, List.getElem?_nil, List.set_cons_zero, List.set_cons_succ, List.length_replicate, Option.map_some, Option.map_none, Option.bind_some, Option.bind_none, Nat.sub_self, Nat.reduceSub, Nat.reduceAdd, Nat.zero_add, eq_self, List.contains_cons, List.contains_nil, Bool.and_true, Bool.true_and, Bool.or_true, Bool.true_or, Bool.or_false, Bool.false_or, Bool.and_false, Bool.false_and, Bool.and_self, beq_self_eq_true, Nat.reduceBEq, if_true, if_false, Bool.false_eq_true, reduceIte, reduceCtorEq, decide_eq_true_eq, Bool.not_true, Bool.not_false]

theorem q22 {z0 z1 z4 z5 z6 z7 z8 z9 z10 z11 z12 z13 z14 z15 z16 z17 z18 : Sl} (n m k : Nat) (hk : k = 12) (hn : n < 10 ^ 12) (h1 : 1 ≤ m) (h8 : m ≤ 8) : (sIf (cond (tst (mOp2 dNe (mVal (mCallF [2] 2 m_told_hex (mCons (mAt 2) (mCons (mVal (mC (.int 12))) (mNil))))) (mAt 19))) (mT true) (tst (mOp2 dNe (mVal (mCallF [3] 1 m_power_of (mCons (mAt 3) (mNil)))) (mVal (mOp2 dMul (mVal (mC (.int 2))) (mVal (mCallF [] 1 m_power_of (mCons (mVal (mOp2 dSub (mAt 3) (mVal (mC (.int 1))))) (mNil)))))))))
  (sRt (mC (.bl false)))
  (sNx)) [z0, z1, .s false (.fr (.int (n : Nat))), .s false (.fr (.int (m : Nat))), z4, z5, z6, z7, z8, z9, z10, z11, z12, z13, z14, z15, z16, z17, z18, .s false (.fr (.str (hx n k)))] = .nx [z0, z1, .s false (.fr (.int (n : Nat))), .s false (.fr (.int (m : Nat))), z4, z5, z6, z7, z8, z9, z10, z11, z12, z13, z14, z15, z16, z17, z18, .s false (.fr (.str (hx n k)))] := by
  subst hk
  refine q22F m_told_hex m_power_of n m (hx n 12) ((2 ^ (m - 1) : Nat) : Int) (told_hex_eq n (Nat.lt_trans hn (by decide))) ?_ ?_
  · have e4 : ((2 ^ m : Nat) : Int) = 2 * ((2 ^ (m - 1) : Nat) : Int) := by
      have : 2 ^ m = 2 * 2 ^ (m - 1) := by
        obtain ⟨k, rfl⟩ : ∃ k, m = k + 1 := ⟨m - 1, by omega⟩
        rw [Nat.add_sub_cancel, Nat.pow_succ, Nat.mul_comm]
      omega
    rw [← e4]
    exact pow_eq m (by omega)
  · rw [show (m : Int) - 1 = ((m - 1 : Nat) : Int) by omega]
    exact pow_eq (m - 1) (by omega)
end K01

set_option Elab.async false
set_option linter.all false
set_option maxRecDepth 100000
set_option maxHeartbeats 4000000
namespace K01
open Pv
theorem body_ok {z0 : Sl} (a b c : Int) : ∃ x δ, (sSeq (sAsg (stTup [stoO 2, stoO 3, stoO 4]) (mDisp mkT (mCons (mVal (mCallF [1] 1 m__law_number (mCons (mAt 1) (mNil)))) (mCons (mVal (mOp2 dAdd (mVal (mC (.int 1))) (mVal (mCallF [1] 2 m__law_roll (mCons (mAt 1) (mCons (mVal (mC (.int 8))) (mNil))))))) (mCons (mVal (mCallF [1] 2 m__law_roll (mCons (mAt 1) (mCons (mVal (mC (.int 3))) (mNil))))) (mNil))))))
  (sSeq (sPar [stoO 5, stoO 6, stoO 7] (mCons (mVal (mDisp mkL (mNil))) (mCons (mVal (mC (.int 1))) (mCons (mVal (mFz 2)) (mNil)))))
  (sSeq (sFor (stoO 8) (mRange rangeD1 (mCons (mAt 3) (mNil)))
  (sPar [stoO 5, stoO 7, stoO 6] (mCons (mVal (mOp2 dAdd (mAt 5) (mVal (mDisp mkL (mCons (mVal (mOp2 (ints2 modI) (mAt 7) (mVal (mC (.int 256))))) (mNil)))))) (mCons (mVal (mOp2 (ints2 divI) (mAt 7) (mVal (mC (.int 256))))) (mCons (mVal (mOp2 dMul (mAt 6) (mVal (mC (.int 256))))) (mNil))))))
  (sSeq (sSet 6 (mOp2 (ints2 divI) (mAt 6) (mVal (mC (.int 2)))))
  (sSeq (sSet 9 (mOp2 dLt (mAt 2) (mVal (mOp2 dMul (mVal (mC (.int 2))) (mAt 6)))))
  (sSeq (sIf (tst (mOp2 dNe (mVal (mTold nEx sub_WordError [87, 111, 114, 100, 69, 114, 114, 111, 114] (mCallF [2, 3] 2 m_packed (mCons (mAt 2) (mCons (mAt 3) (mNil)))))) (mVal (cond (tst (mRd 9)) (mCallN (g1 dTup) (mCons (mAt 5) (mNil))) (mC (.str [87, 111, 114, 100, 69, 114, 114, 111, 114]))))))
  (sRt (mC (.bl false)))
  (sNx))
  (sSeq (sIf (cond (tst (mRd 9)) (tst (mOp2 dNe (mVal (mCallF [4, 3] 3 m_unpacked (mCons (mVal (mOp2 dAdd (mVal (mOp2 dAdd (mVal (mOp2 dMul (mVal (mDisp mkL (mCons (mVal (mC (.int 7))) (mNil)))) (mAt 4))) (mAt 5))) (mVal (mDisp mkL (mCons (mVal (mC (.int 9))) (mNil)))))) (mCons (mAt 4) (mCons (mAt 3) (mNil)))))) (mAt 2))) (mT false))
  (sRt (mC (.bl false)))
  (sNx))
  (sSeq (sSet 10 (mOp2 dMul (mAt 2) (mVal (mOp2 dIx (mVal (mDisp mkL (mCons (mVal (mC (.int 1))) (mCons (mVal (mOp1 dNeg (mVal (mC (.int 1))))) (mNil))))) (mVal (mCallF [1] 2 m__law_roll (mCons (mAt 1) (mCons (mVal (mC (.int 2))) (mNil)))))))))
  (sSeq (sSet 11 (mCh dLe dLt (mVal (mOp1 dNeg (mAt 6))) (mAt 10) (mAt 6)))
  (sSeq (sIf (cond (tst (mOp2 dNe (mVal (mCallF [10, 3] 2 m_fits_signed (mCons (mAt 10) (mCons (mAt 3) (mNil))))) (mAt 11))) (mT true) (tst (mOp2 dEq (mVal (mOp2 dEq (mVal (mTold nEx sub_WordError [87, 111, 114, 100, 69, 114, 114, 111, 114] (mCallF [10, 3] 2 m_packed_signed (mCons (mAt 10) (mCons (mAt 3) (mNil)))))) (mVal (mC (.str [87, 111, 114, 100, 69, 114, 114, 111, 114]))))) (mAt 11))))
  (sRt (mC (.bl false)))
  (sNx))
  (sSeq (sIf (cond (tst (mRd 11)) (cond (tst (mOp2 dNe (mVal (mCallF [4, 3] 3 m_unpacked_signed (mCons (mVal (mOp2 dAdd (mVal (mOp2 dMul (mVal (mDisp mkL (mCons (mVal (mC (.int 7))) (mNil)))) (mAt 4))) (mVal (mCallN (g1 dList) (mCons (mVal (mCallF [10, 3] 2 m_packed_signed (mCons (mAt 10) (mCons (mAt 3) (mNil))))) (mNil)))))) (mCons (mAt 4) (mCons (mAt 3) (mNil)))))) (mAt 10))) (mT true) (cond (tst (mOp2 dGe (mAt 10) (mVal (mC (.int 0))))) (tst (mOp2 dNe (mVal (mCallN (g1 dList) (mCons (mVal (mCallF [10, 3] 2 m_packed_signed (mCons (mAt 10) (mCons (mAt 3) (mNil))))) (mNil)))) (mAt 5))) (mT false))) (mT false))
  (sRt (mC (.bl false)))
  (sNx))
  (sSeq (sIf (cond (tst (mOp2 dNe (mVal (mCallN (g1 dList) (mCons (mVal (mCallF [2] 1 m_seven (mCons (mAt 2) (mNil)))) (mNil)))) (mVal (mCallF [2] 1 m__law_seven (mCons (mAt 2) (mNil)))))) (mT true) (tst (mOp2 dNe (mVal (mCallF [4] 2 m_read_seven (mCons (mVal (mOp2 dAdd (mVal (mOp2 dAdd (mVal (mOp2 dMul (mVal (mDisp mkL (mCons (mVal (mC (.int 200))) (mNil)))) (mAt 4))) (mVal (mCallF [2] 1 m__law_seven (mCons (mAt 2) (mNil)))))) (mVal (mDisp mkL (mCons (mVal (mC (.int 5))) (mNil)))))) (mCons (mAt 4) (mNil))))) (mVal (mDisp mkT (mCons (mVal (mFz 2)) (mCons (mVal (mOp2 dAdd (mAt 4) (mVal (mCallN (g1 dLen) (mCons (mVal (mCallF [2] 1 m__law_seven (mCons (mAt 2) (mNil)))) (mNil)))))) (mNil))))))))
  (sRt (mC (.bl false)))
  (sNx))
  (sSeq (sIf (cond (tst (mOp2 dNe (mVal (mCallN (g1 dList) (mCons (mVal (mCallF [10] 1 m_seven_signed (mCons (mAt 10) (mNil)))) (mNil)))) (mVal (mCallF [10] 1 m__law_signed (mCons (mAt 10) (mNil)))))) (mT true) (tst (mOp2 dNe (mVal (mCallF [4] 2 m_read_seven_signed (mCons (mVal (mOp2 dAdd (mVal (mOp2 dAdd (mVal (mOp2 dMul (mVal (mDisp mkL (mCons (mVal (mC (.int 200))) (mNil)))) (mAt 4))) (mVal (mCallF [10] 1 m__law_signed (mCons (mAt 10) (mNil)))))) (mVal (mDisp mkL (mCons (mVal (mC (.int 5))) (mNil)))))) (mCons (mAt 4) (mNil))))) (mVal (mDisp mkT (mCons (mVal (mFz 10)) (mCons (mVal (mOp2 dAdd (mAt 4) (mVal (mCallN (g1 dLen) (mCons (mVal (mCallF [10] 1 m__law_signed (mCons (mAt 10) (mNil)))) (mNil)))))) (mNil))))))))
  (sRt (mC (.bl false)))
  (sNx))
  (sSeq (sSet 12 (mOp2 dAdd (mVal (mC (.int 1))) (mVal (mCallF [1] 2 m__law_roll (mCons (mAt 1) (mCons (mVal (mC (.int 40))) (mNil)))))))
  (sSeq (sSet 13 (mCallF [2, 12] 2 m_rounded_up (mCons (mAt 2) (mCons (mAt 12) (mNil)))))
  (sSeq (sIf (cond (tst (mOp2 dNe (mVal (mOp2 (ints2 modI) (mAt 13) (mAt 12))) (mVal (mC (.int 0))))) (mT true) (cond (mNot (tst (mCh dLe dLt (mAt 2) (mAt 13) (mVal (mOp2 dAdd (mAt 2) (mAt 12)))))) (mT true) (tst (mOp2 dNe (mVal (mCallF [12] 1 m_is_power (mCons (mAt 12) (mNil)))) (mVal (mOp2 dIn (mAt 12) (mVal (mDisp mkL (mCons (mVal (mC (.int 1))) (mCons (mVal (mC (.int 2))) (mCons (mVal (mC (.int 4))) (mCons (mVal (mC (.int 8))) (mCons (mVal (mC (.int 16))) (mCons (mVal (mC (.int 32))) (mNil)))))))))))))))
  (sRt (mC (.bl false)))
  (sNx))
  (sSeq (sSet 14 (mJoin [] (mVal (mComp (stoO 8) (mRange rangeD1 (mCons (mVal (mCallF [1] 2 m__law_roll (mCons (mAt 1) (mCons (mVal (mC (.int 7))) (mNil))))) (mNil))) (mT true) (mOp2 dIx (mVal (mSIGNS)) (mVal (mCallF [1] 2 m__law_roll (mCons (mAt 1) (mCons (mVal (mCallN (g1 dLen) (mCons (mVal (mSIGNS)) (mNil)))) (mNil)))))) [8]))))
  (sSeq (sAsg (stTup [stoO 15, stoO 16, stoO 17]) (mDisp mkT (mCons (mVal (mC (.int 5381))) (mCons (mVal (mC (.int 1))) (mCons (mVal (mC (.int 0))) (mNil))))))
  (sSeq (sFor (stoO 18) (mWalk (mFz 14))
  (sSeq (sPar [stoO 15, stoO 16] (mCons (mVal (mOp2 dAdd (mVal (mOp2 dMul (mAt 15) (mVal (mC (.int 33))))) (mVal (mCallN (g1 dOrd) (mCons (mAt 18) (mNil)))))) (mCons (mVal (mOp2 dAdd (mAt 16) (mVal (mCallN (g1 dOrd) (mCons (mAt 18) (mNil)))))) (mNil))))
  (sSet 17 (mOp2 dAdd (mAt 17) (mAt 16)))))
  (sSeq (sIf (cond (tst (mOp2 dNe (mVal (mCallF [14] 1 m_text_print (mCons (mAt 14) (mNil)))) (mVal (mOp2 (ints2 modI) (mAt 15) (mVal (mOp2 (ints2 powI) (mVal (mC (.int 2))) (mVal (mC (.int 32))))))))) (mT true) (cond (tst (mOp2 dNe (mVal (mCallF [] 1 m_bytes_print (mCons (mVal (mCallF [14] 1 m_text_bytes (mCons (mAt 14) (mNil)))) (mNil)))) (mVal (mOp2 dAdd (mVal (mOp2 dMul (mVal (mOp2 (ints2 modI) (mAt 17) (mVal (mC (.int 65521))))) (mVal (mC (.int 65536))))) (mVal (mOp2 (ints2 modI) (mAt 16) (mVal (mC (.int 65521))))))))) (mT true) (tst (mOp2 dNe (mVal (mCallF [] 1 m_bytes_text (mCons (mVal (mComp (stoO 18) (mWalk (mFz 14)) (mT true) (mCallN (g1 dOrd) (mCons (mAt 18) (mNil))) [18])) (mNil)))) (mAt 14)))))
  (sRt (mC (.bl false)))
  (sNx))
  (sSeq (sPar [stoO 19, stoO 7] (mCons (mVal (mC (.str []))) (mCons (mVal (mFz 2)) (mNil))))
  (sSeq (sFor (stoO 8) (mRange rangeD1 (mCons (mVal (mC (.int 12))) (mNil)))
  (sPar [stoO 19, stoO 7] (mCons (mVal (mOp2 dAdd (mVal (mOp2 dIx (mVal (mC (.str [48, 49, 50, 51, 52, 53, 54, 55, 56, 57, 97, 98, 99, 100, 101, 102]))) (mVal (mOp2 (ints2 modI) (mAt 7) (mVal (mC (.int 16))))))) (mAt 19))) (mCons (mVal (mOp2 (ints2 divI) (mAt 7) (mVal (mC (.int 16))))) (mNil)))))
  (sIf (cond (tst (mOp2 dNe (mVal (mCallF [2] 2 m_told_hex (mCons (mAt 2) (mCons (mVal (mC (.int 12))) (mNil))))) (mAt 19))) (mT true) (tst (mOp2 dNe (mVal (mCallF [3] 1 m_power_of (mCons (mAt 3) (mNil)))) (mVal (mOp2 dMul (mVal (mC (.int 2))) (mVal (mCallF [] 1 m_power_of (mCons (mVal (mOp2 dSub (mAt 3) (mVal (mC (.int 1))))) (mNil)))))))))
  (sRt (mC (.bl false)))
  (sNx)))))))))))))))))))))))) [z0, .s false (.ow (dice a b c)), .un, .un, .un, .un, .un, .un, .un, .un, .un, .un, .un, .un, .un, .un, .un, .un, .un, .un] = .nx (x :: δ) := by
  obtain ⟨n, m, p, a1, b1, c1, hn, h1, h8, hp, e0⟩ := q0 (z0 := z0) (z5 := .un) (z6 := .un) (z7 := .un) (z8 := .un) (z9 := .un) (z10 := .un) (z11 := .un) (z12 := .un) (z13 := .un) (z14 := .un) (z15 := .un) (z16 := .un) (z17 := .un) (z18 := .un) (z19 := .un) a b c
  have e1 := q1 (z0 := z0) (z1 := .s false (.ow (dice a1 b1 c1))) (z3 := .s false (.fr (.int (m : Nat)))) (z4 := .s false (.fr (.int (p : Nat)))) (z8 := .un) (z9 := .un) (z10 := .un) (z11 := .un) (z12 := .un) (z13 := .un) (z14 := .un) (z15 := .un) (z16 := .un) (z17 := .un) (z18 := .un) (z19 := .un) n
  have e2 := q2 (z0 := z0) (z1 := .s false (.ow (dice a1 b1 c1))) (z2 := .s false (.fr (.int (n : Nat)))) (z4 := .s false (.fr (.int (p : Nat)))) (z9 := .un) (z10 := .un) (z11 := .un) (z12 := .un) (z13 := .un) (z14 := .un) (z15 := .un) (z16 := .un) (z17 := .un) (z18 := .un) (z19 := .un) n m h8
  obtain ⟨m8, hm8⟩ : ∃ k, m = k + 1 := ⟨m - 1, by omega⟩
  have t8 : tn m = .s false (.fr (.int (m8 : Int))) := by rw [hm8]; rfl
  rw [t8] at e2
  have hh := half_two m h1
  have hp256 := pow_256 m
  have e3 := q3 (z0 := z0) (z1 := .s false (.ow (dice a1 b1 c1))) (z2 := .s false (.fr (.int (n : Nat)))) (z3 := .s false (.fr (.int (m : Nat)))) (z4 := .s false (.fr (.int (p : Nat)))) (z5 := .s false (.ow (.lst .own (rowd m n)))) (z7 := .s false (.fr (.int ((n / 256 ^ m : Nat))))) (z8 := .s false (.fr (.int (m8 : Nat)))) (z9 := .un) (z10 := .un) (z11 := .un) (z12 := .un) (z13 := .un) (z14 := .un) (z15 := .un) (z16 := .un) (z17 := .un) (z18 := .un) (z19 := .un) (256 ^ m)
  have hd : 256 ^ m / 2 = 2 ^ (8 * m - 1) := by omega
  rw [hd] at e3
  have e4 := q4 (z0 := z0) (z1 := .s false (.ow (dice a1 b1 c1))) (z3 := .s false (.fr (.int (m : Nat)))) (z4 := .s false (.fr (.int (p : Nat)))) (z5 := .s false (.ow (.lst .own (rowd m n)))) (z7 := .s false (.fr (.int ((n / 256 ^ m : Nat))))) (z8 := .s false (.fr (.int (m8 : Nat)))) (z10 := .un) (z11 := .un) (z12 := .un) (z13 := .un) (z14 := .un) (z15 := .un) (z16 := .un) (z17 := .un) (z18 := .un) (z19 := .un) n (2 ^ (8 * m - 1))
  rw [← hh] at e4
  have e5 := q5 (z0 := z0) (z1 := .s false (.ow (dice a1 b1 c1))) (z4 := .s false (.fr (.int (p : Nat)))) (z6 := .s false (.fr (.int ((2 ^ (8 * m - 1) : Nat))))) (z7 := .s false (.fr (.int ((n / 256 ^ m : Nat))))) (z8 := .s false (.fr (.int (m8 : Nat)))) (z10 := .un) (z11 := .un) (z12 := .un) (z13 := .un) (z14 := .un) (z15 := .un) (z16 := .un) (z17 := .un) (z18 := .un) (z19 := .un) n m h1 h8
  have e6 := q6 (z0 := z0) (z1 := .s false (.ow (dice a1 b1 c1))) (z6 := .s false (.fr (.int ((2 ^ (8 * m - 1) : Nat))))) (z7 := .s false (.fr (.int ((n / 256 ^ m : Nat))))) (z8 := .s false (.fr (.int (m8 : Nat)))) (z10 := .un) (z11 := .un) (z12 := .un) (z13 := .un) (z14 := .un) (z15 := .un) (z16 := .un) (z17 := .un) (z18 := .un) (z19 := .un) n m p h1 h8 hp
  obtain ⟨s, a2, b2, c2, hs, e7⟩ := q7 (z0 := z0) (z3 := .s false (.fr (.int (m : Nat)))) (z4 := .s false (.fr (.int (p : Nat)))) (z5 := .s false (.ow (.lst .own (rowd m n)))) (z6 := .s false (.fr (.int ((2 ^ (8 * m - 1) : Nat))))) (z7 := .s false (.fr (.int ((n / 256 ^ m : Nat))))) (z8 := .s false (.fr (.int (m8 : Nat)))) (z9 := .s false (.fr (.bl (decide (n < 2 ^ (8 * m)))))) (z11 := .un) (z12 := .un) (z13 := .un) (z14 := .un) (z15 := .un) (z16 := .un) (z17 := .un) (z18 := .un) (z19 := .un) n a1 b1 c1 hn
  have e8 := q8 (z0 := z0) (z1 := .s false (.ow (dice a2 b2 c2))) (z2 := .s false (.fr (.int (n : Nat)))) (z3 := .s false (.fr (.int (m : Nat)))) (z4 := .s false (.fr (.int (p : Nat)))) (z5 := .s false (.ow (.lst .own (rowd m n)))) (z7 := .s false (.fr (.int ((n / 256 ^ m : Nat))))) (z8 := .s false (.fr (.int (m8 : Nat)))) (z9 := .s false (.fr (.bl (decide (n < 2 ^ (8 * m)))))) (z12 := .un) (z13 := .un) (z14 := .un) (z15 := .un) (z16 := .un) (z17 := .un) (z18 := .un) (z19 := .un) s (2 ^ (8 * m - 1))
  have e9 := q9 (z0 := z0) (z1 := .s false (.ow (dice a2 b2 c2))) (z2 := .s false (.fr (.int (n : Nat)))) (z4 := .s false (.fr (.int (p : Nat)))) (z5 := .s false (.ow (.lst .own (rowd m n)))) (z6 := .s false (.fr (.int ((2 ^ (8 * m - 1) : Nat))))) (z7 := .s false (.fr (.int ((n / 256 ^ m : Nat))))) (z8 := .s false (.fr (.int (m8 : Nat)))) (z9 := .s false (.fr (.bl (decide (n < 2 ^ (8 * m)))))) (z12 := .un) (z13 := .un) (z14 := .un) (z15 := .un) (z16 := .un) (z17 := .un) (z18 := .un) (z19 := .un) s m h1 h8
  have e10 := q10 (z0 := z0) (z1 := .s false (.ow (dice a2 b2 c2))) (z2 := .s false (.fr (.int (n : Nat)))) (z6 := .s false (.fr (.int ((2 ^ (8 * m - 1) : Nat))))) (z7 := .s false (.fr (.int ((n / 256 ^ m : Nat))))) (z8 := .s false (.fr (.int (m8 : Nat)))) (z9 := .s false (.fr (.bl (decide (n < 2 ^ (8 * m)))))) (z12 := .un) (z13 := .un) (z14 := .un) (z15 := .un) (z16 := .un) (z17 := .un) (z18 := .un) (z19 := .un) s n m p h1 h8 hp hs
  have e11 := q11 (z0 := z0) (z1 := .s false (.ow (dice a2 b2 c2))) (z3 := .s false (.fr (.int (m : Nat)))) (z5 := .s false (.ow (.lst .own (rowd m n)))) (z6 := .s false (.fr (.int ((2 ^ (8 * m - 1) : Nat))))) (z7 := .s false (.fr (.int ((n / 256 ^ m : Nat))))) (z8 := .s false (.fr (.int (m8 : Nat)))) (z9 := .s false (.fr (.bl (decide (n < 2 ^ (8 * m)))))) (z10 := .s false (.fr (.int (s)))) (z11 := .s false (.fr (.bl (decide (-((2 ^ (8 * m - 1) : Nat) : Int) ≤ s ∧ s < ((2 ^ (8 * m - 1) : Nat) : Int)))))) (z12 := .un) (z13 := .un) (z14 := .un) (z15 := .un) (z16 := .un) (z17 := .un) (z18 := .un) (z19 := .un) n p hn hp
  have e12 := q12 (z0 := z0) (z1 := .s false (.ow (dice a2 b2 c2))) (z2 := .s false (.fr (.int (n : Nat)))) (z3 := .s false (.fr (.int (m : Nat)))) (z5 := .s false (.ow (.lst .own (rowd m n)))) (z6 := .s false (.fr (.int ((2 ^ (8 * m - 1) : Nat))))) (z7 := .s false (.fr (.int ((n / 256 ^ m : Nat))))) (z8 := .s false (.fr (.int (m8 : Nat)))) (z9 := .s false (.fr (.bl (decide (n < 2 ^ (8 * m)))))) (z11 := .s false (.fr (.bl (decide (-((2 ^ (8 * m - 1) : Nat) : Int) ≤ s ∧ s < ((2 ^ (8 * m - 1) : Nat) : Int)))))) (z12 := .un) (z13 := .un) (z14 := .un) (z15 := .un) (z16 := .un) (z17 := .un) (z18 := .un) (z19 := .un) p s (by omega) hp
  obtain ⟨g, a3, b3, c3, g1, g40, e13⟩ := q13 (z0 := z0) (z2 := .s false (.fr (.int (n : Nat)))) (z3 := .s false (.fr (.int (m : Nat)))) (z4 := .s false (.fr (.int (p : Nat)))) (z5 := .s false (.ow (.lst .own (rowd m n)))) (z6 := .s false (.fr (.int ((2 ^ (8 * m - 1) : Nat))))) (z7 := .s false (.fr (.int ((n / 256 ^ m : Nat))))) (z8 := .s false (.fr (.int (m8 : Nat)))) (z9 := .s false (.fr (.bl (decide (n < 2 ^ (8 * m)))))) (z10 := .s false (.fr (.int (s)))) (z11 := .s false (.fr (.bl (decide (-((2 ^ (8 * m - 1) : Nat) : Int) ≤ s ∧ s < ((2 ^ (8 * m - 1) : Nat) : Int)))))) (z13 := .un) (z14 := .un) (z15 := .un) (z16 := .un) (z17 := .un) (z18 := .un) (z19 := .un) a2 b2 c2
  have e14 := q14 (z0 := z0) (z1 := .s false (.ow (dice a3 b3 c3))) (z3 := .s false (.fr (.int (m : Nat)))) (z4 := .s false (.fr (.int (p : Nat)))) (z5 := .s false (.ow (.lst .own (rowd m n)))) (z6 := .s false (.fr (.int ((2 ^ (8 * m - 1) : Nat))))) (z7 := .s false (.fr (.int ((n / 256 ^ m : Nat))))) (z8 := .s false (.fr (.int (m8 : Nat)))) (z9 := .s false (.fr (.bl (decide (n < 2 ^ (8 * m)))))) (z10 := .s false (.fr (.int (s)))) (z11 := .s false (.fr (.bl (decide (-((2 ^ (8 * m - 1) : Nat) : Int) ≤ s ∧ s < ((2 ^ (8 * m - 1) : Nat) : Int)))))) (z14 := .un) (z15 := .un) (z16 := .un) (z17 := .un) (z18 := .un) (z19 := .un) n g g1 g40
  have e15 := q15 (z0 := z0) (z1 := .s false (.ow (dice a3 b3 c3))) (z3 := .s false (.fr (.int (m : Nat)))) (z4 := .s false (.fr (.int (p : Nat)))) (z5 := .s false (.ow (.lst .own (rowd m n)))) (z6 := .s false (.fr (.int ((2 ^ (8 * m - 1) : Nat))))) (z7 := .s false (.fr (.int ((n / 256 ^ m : Nat))))) (z8 := .s false (.fr (.int (m8 : Nat)))) (z9 := .s false (.fr (.bl (decide (n < 2 ^ (8 * m)))))) (z10 := .s false (.fr (.int (s)))) (z11 := .s false (.fr (.bl (decide (-((2 ^ (8 * m - 1) : Nat) : Int) ≤ s ∧ s < ((2 ^ (8 * m - 1) : Nat) : Int)))))) (z14 := .un) (z15 := .un) (z16 := .un) (z17 := .un) (z18 := .un) (z19 := .un) n g g1 g40
  obtain ⟨cs, a4, b4, c4, hcs, hl, e16⟩ := q16 (z0 := z0) (z2 := .s false (.fr (.int (n : Nat)))) (z3 := .s false (.fr (.int (m : Nat)))) (z4 := .s false (.fr (.int (p : Nat)))) (z5 := .s false (.ow (.lst .own (rowd m n)))) (z6 := .s false (.fr (.int ((2 ^ (8 * m - 1) : Nat))))) (z7 := .s false (.fr (.int ((n / 256 ^ m : Nat))))) (z9 := .s false (.fr (.bl (decide (n < 2 ^ (8 * m)))))) (z10 := .s false (.fr (.int (s)))) (z11 := .s false (.fr (.bl (decide (-((2 ^ (8 * m - 1) : Nat) : Int) ≤ s ∧ s < ((2 ^ (8 * m - 1) : Nat) : Int)))))) (z12 := .s false (.fr (.int (g : Nat)))) (z13 := .s false (.fr (.int (((n : Int) + g - 1) / g * g)))) (z15 := .un) (z16 := .un) (z17 := .un) (z18 := .un) (z19 := .un) a3 b3 c3 m8
  have e17 := q17 (z0 := z0) (z1 := .s false (.ow (dice a4 b4 c4))) (z2 := .s false (.fr (.int (n : Nat)))) (z3 := .s false (.fr (.int (m : Nat)))) (z4 := .s false (.fr (.int (p : Nat)))) (z5 := .s false (.ow (.lst .own (rowd m n)))) (z6 := .s false (.fr (.int ((2 ^ (8 * m - 1) : Nat))))) (z7 := .s false (.fr (.int ((n / 256 ^ m : Nat))))) (z8 := .s false (.fr (.int (m8 : Nat)))) (z9 := .s false (.fr (.bl (decide (n < 2 ^ (8 * m)))))) (z10 := .s false (.fr (.int (s)))) (z11 := .s false (.fr (.bl (decide (-((2 ^ (8 * m - 1) : Nat) : Int) ≤ s ∧ s < ((2 ^ (8 * m - 1) : Nat) : Int)))))) (z12 := .s false (.fr (.int (g : Nat)))) (z13 := .s false (.fr (.int (((n : Int) + g - 1) / g * g)))) (z14 := .s false (.fr (.str (cs)))) (z18 := .un) (z19 := .un)
  obtain ⟨t', ht, e18⟩ := q18 (z0 := z0) (z1 := .s false (.ow (dice a4 b4 c4))) (z2 := .s false (.fr (.int (n : Nat)))) (z3 := .s false (.fr (.int (m : Nat)))) (z4 := .s false (.fr (.int (p : Nat)))) (z5 := .s false (.ow (.lst .own (rowd m n)))) (z6 := .s false (.fr (.int ((2 ^ (8 * m - 1) : Nat))))) (z7 := .s false (.fr (.int ((n / 256 ^ m : Nat))))) (z8 := .s false (.fr (.int (m8 : Nat)))) (z9 := .s false (.fr (.bl (decide (n < 2 ^ (8 * m)))))) (z10 := .s false (.fr (.int (s)))) (z11 := .s false (.fr (.bl (decide (-((2 ^ (8 * m - 1) : Nat) : Int) ≤ s ∧ s < ((2 ^ (8 * m - 1) : Nat) : Int)))))) (z12 := .s false (.fr (.int (g : Nat)))) (z13 := .s false (.fr (.int (((n : Int) + g - 1) / g * g)))) (z14 := .s false (.fr (.str (cs)))) (z19 := .un) cs
  have e19 := q19 (z0 := z0) (z1 := .s false (.ow (dice a4 b4 c4))) (z2 := .s false (.fr (.int (n : Nat)))) (z3 := .s false (.fr (.int (m : Nat)))) (z4 := .s false (.fr (.int (p : Nat)))) (z5 := .s false (.ow (.lst .own (rowd m n)))) (z6 := .s false (.fr (.int ((2 ^ (8 * m - 1) : Nat))))) (z7 := .s false (.fr (.int ((n / 256 ^ m : Nat))))) (z8 := .s false (.fr (.int (m8 : Nat)))) (z9 := .s false (.fr (.bl (decide (n < 2 ^ (8 * m)))))) (z10 := .s false (.fr (.int (s)))) (z11 := .s false (.fr (.bl (decide (-((2 ^ (8 * m - 1) : Nat) : Int) ≤ s ∧ s < ((2 ^ (8 * m - 1) : Nat) : Int)))))) (z12 := .s false (.fr (.int (g : Nat)))) (z13 := .s false (.fr (.int (((n : Int) + g - 1) / g * g)))) (z19 := .un) cs t' hcs hl ht
  have e20 := q20 (z0 := z0) (z1 := .s false (.ow (dice a4 b4 c4))) (z3 := .s false (.fr (.int (m : Nat)))) (z4 := .s false (.fr (.int (p : Nat)))) (z5 := .s false (.ow (.lst .own (rowd m n)))) (z6 := .s false (.fr (.int ((2 ^ (8 * m - 1) : Nat))))) (z8 := .s false (.fr (.int (m8 : Nat)))) (z9 := .s false (.fr (.bl (decide (n < 2 ^ (8 * m)))))) (z10 := .s false (.fr (.int (s)))) (z11 := .s false (.fr (.bl (decide (-((2 ^ (8 * m - 1) : Nat) : Int) ≤ s ∧ s < ((2 ^ (8 * m - 1) : Nat) : Int)))))) (z12 := .s false (.fr (.int (g : Nat)))) (z13 := .s false (.fr (.int (((n : Int) + g - 1) / g * g)))) (z14 := .s false (.fr (.str (cs)))) (z15 := .s false (.fr (.int ((t3 cs 5381 1 0).1)))) (z16 := .s false (.fr (.int ((t3 cs 5381 1 0).2.1)))) (z17 := .s false (.fr (.int ((t3 cs 5381 1 0).2.2)))) (z18 := t') n (n / 256 ^ m : Nat)
  obtain ⟨k, hk⟩ : ∃ k, k = 12 := ⟨12, rfl⟩
  have e21 := q21 (z0 := z0) (z1 := .s false (.ow (dice a4 b4 c4))) (z2 := .s false (.fr (.int (n : Nat)))) (z3 := .s false (.fr (.int (m : Nat)))) (z4 := .s false (.fr (.int (p : Nat)))) (z5 := .s false (.ow (.lst .own (rowd m n)))) (z6 := .s false (.fr (.int ((2 ^ (8 * m - 1) : Nat))))) (z9 := .s false (.fr (.bl (decide (n < 2 ^ (8 * m)))))) (z10 := .s false (.fr (.int (s)))) (z11 := .s false (.fr (.bl (decide (-((2 ^ (8 * m - 1) : Nat) : Int) ≤ s ∧ s < ((2 ^ (8 * m - 1) : Nat) : Int)))))) (z12 := .s false (.fr (.int (g : Nat)))) (z13 := .s false (.fr (.int (((n : Int) + g - 1) / g * g)))) (z14 := .s false (.fr (.str (cs)))) (z15 := .s false (.fr (.int ((t3 cs 5381 1 0).1)))) (z16 := .s false (.fr (.int ((t3 cs 5381 1 0).2.1)))) (z17 := .s false (.fr (.int ((t3 cs 5381 1 0).2.2)))) (z18 := t') n m8 k hk
  have e22 := q22 (z0 := z0) (z1 := .s false (.ow (dice a4 b4 c4))) (z4 := .s false (.fr (.int (p : Nat)))) (z5 := .s false (.ow (.lst .own (rowd m n)))) (z6 := .s false (.fr (.int ((2 ^ (8 * m - 1) : Nat))))) (z7 := .s false (.fr (.int ((n / 16 ^ k : Nat))))) (z8 := tq m8 k) (z9 := .s false (.fr (.bl (decide (n < 2 ^ (8 * m)))))) (z10 := .s false (.fr (.int (s)))) (z11 := .s false (.fr (.bl (decide (-((2 ^ (8 * m - 1) : Nat) : Int) ≤ s ∧ s < ((2 ^ (8 * m - 1) : Nat) : Int)))))) (z12 := .s false (.fr (.int (g : Nat)))) (z13 := .s false (.fr (.int (((n : Int) + g - 1) / g * g)))) (z14 := .s false (.fr (.str (cs)))) (z15 := .s false (.fr (.int ((t3 cs 5381 1 0).1)))) (z16 := .s false (.fr (.int ((t3 cs 5381 1 0).2.1)))) (z17 := .s false (.fr (.int ((t3 cs 5381 1 0).2.2)))) (z18 := t') n m k hk hn h1 h8
  exact ⟨_, _, (seq_nx e0).trans <| (seq_nx e1).trans <| (seq_nx e2).trans <| (seq_nx e3).trans <| (seq_nx e4).trans <| (seq_nx e5).trans <| (seq_nx e6).trans <| (seq_nx e7).trans <| (seq_nx e8).trans <| (seq_nx e9).trans <| (seq_nx e10).trans <| (seq_nx e11).trans <| (seq_nx e12).trans <| (seq_nx e13).trans <| (seq_nx e14).trans <| (seq_nx e15).trans <| (seq_nx e16).trans <| (seq_nx e17).trans <| (seq_nx e18).trans <| (seq_nx e19).trans <| (seq_nx e20).trans <| (seq_nx e21).trans e22⟩
abbrev lawBody : Sls → RS := sSeq (sAsg (stTup [stoO 2, stoO 3, stoO 4]) (mDisp mkT (mCons (mVal (mCallF [1] 1 m__law_number (mCons (mAt 1) (mNil)))) (mCons (mVal (mOp2 dAdd (mVal (mC (.int 1))) (mVal (mCallF [1] 2 m__law_roll (mCons (mAt 1) (mCons (mVal (mC (.int 8))) (mNil))))))) (mCons (mVal (mCallF [1] 2 m__law_roll (mCons (mAt 1) (mCons (mVal (mC (.int 3))) (mNil))))) (mNil))))))
  (sSeq (sPar [stoO 5, stoO 6, stoO 7] (mCons (mVal (mDisp mkL (mNil))) (mCons (mVal (mC (.int 1))) (mCons (mVal (mFz 2)) (mNil)))))
  (sSeq (sFor (stoO 8) (mRange rangeD1 (mCons (mAt 3) (mNil)))
  (sPar [stoO 5, stoO 7, stoO 6] (mCons (mVal (mOp2 dAdd (mAt 5) (mVal (mDisp mkL (mCons (mVal (mOp2 (ints2 modI) (mAt 7) (mVal (mC (.int 256))))) (mNil)))))) (mCons (mVal (mOp2 (ints2 divI) (mAt 7) (mVal (mC (.int 256))))) (mCons (mVal (mOp2 dMul (mAt 6) (mVal (mC (.int 256))))) (mNil))))))
  (sSeq (sSet 6 (mOp2 (ints2 divI) (mAt 6) (mVal (mC (.int 2)))))
  (sSeq (sSet 9 (mOp2 dLt (mAt 2) (mVal (mOp2 dMul (mVal (mC (.int 2))) (mAt 6)))))
  (sSeq (sIf (tst (mOp2 dNe (mVal (mTold nEx sub_WordError [87, 111, 114, 100, 69, 114, 114, 111, 114] (mCallF [2, 3] 2 m_packed (mCons (mAt 2) (mCons (mAt 3) (mNil)))))) (mVal (cond (tst (mRd 9)) (mCallN (g1 dTup) (mCons (mAt 5) (mNil))) (mC (.str [87, 111, 114, 100, 69, 114, 114, 111, 114]))))))
  (sRt (mC (.bl false)))
  (sNx))
  (sSeq (sIf (cond (tst (mRd 9)) (tst (mOp2 dNe (mVal (mCallF [4, 3] 3 m_unpacked (mCons (mVal (mOp2 dAdd (mVal (mOp2 dAdd (mVal (mOp2 dMul (mVal (mDisp mkL (mCons (mVal (mC (.int 7))) (mNil)))) (mAt 4))) (mAt 5))) (mVal (mDisp mkL (mCons (mVal (mC (.int 9))) (mNil)))))) (mCons (mAt 4) (mCons (mAt 3) (mNil)))))) (mAt 2))) (mT false))
  (sRt (mC (.bl false)))
  (sNx))
  (sSeq (sSet 10 (mOp2 dMul (mAt 2) (mVal (mOp2 dIx (mVal (mDisp mkL (mCons (mVal (mC (.int 1))) (mCons (mVal (mOp1 dNeg (mVal (mC (.int 1))))) (mNil))))) (mVal (mCallF [1] 2 m__law_roll (mCons (mAt 1) (mCons (mVal (mC (.int 2))) (mNil)))))))))
  (sSeq (sSet 11 (mCh dLe dLt (mVal (mOp1 dNeg (mAt 6))) (mAt 10) (mAt 6)))
  (sSeq (sIf (cond (tst (mOp2 dNe (mVal (mCallF [10, 3] 2 m_fits_signed (mCons (mAt 10) (mCons (mAt 3) (mNil))))) (mAt 11))) (mT true) (tst (mOp2 dEq (mVal (mOp2 dEq (mVal (mTold nEx sub_WordError [87, 111, 114, 100, 69, 114, 114, 111, 114] (mCallF [10, 3] 2 m_packed_signed (mCons (mAt 10) (mCons (mAt 3) (mNil)))))) (mVal (mC (.str [87, 111, 114, 100, 69, 114, 114, 111, 114]))))) (mAt 11))))
  (sRt (mC (.bl false)))
  (sNx))
  (sSeq (sIf (cond (tst (mRd 11)) (cond (tst (mOp2 dNe (mVal (mCallF [4, 3] 3 m_unpacked_signed (mCons (mVal (mOp2 dAdd (mVal (mOp2 dMul (mVal (mDisp mkL (mCons (mVal (mC (.int 7))) (mNil)))) (mAt 4))) (mVal (mCallN (g1 dList) (mCons (mVal (mCallF [10, 3] 2 m_packed_signed (mCons (mAt 10) (mCons (mAt 3) (mNil))))) (mNil)))))) (mCons (mAt 4) (mCons (mAt 3) (mNil)))))) (mAt 10))) (mT true) (cond (tst (mOp2 dGe (mAt 10) (mVal (mC (.int 0))))) (tst (mOp2 dNe (mVal (mCallN (g1 dList) (mCons (mVal (mCallF [10, 3] 2 m_packed_signed (mCons (mAt 10) (mCons (mAt 3) (mNil))))) (mNil)))) (mAt 5))) (mT false))) (mT false))
  (sRt (mC (.bl false)))
  (sNx))
  (sSeq (sIf (cond (tst (mOp2 dNe (mVal (mCallN (g1 dList) (mCons (mVal (mCallF [2] 1 m_seven (mCons (mAt 2) (mNil)))) (mNil)))) (mVal (mCallF [2] 1 m__law_seven (mCons (mAt 2) (mNil)))))) (mT true) (tst (mOp2 dNe (mVal (mCallF [4] 2 m_read_seven (mCons (mVal (mOp2 dAdd (mVal (mOp2 dAdd (mVal (mOp2 dMul (mVal (mDisp mkL (mCons (mVal (mC (.int 200))) (mNil)))) (mAt 4))) (mVal (mCallF [2] 1 m__law_seven (mCons (mAt 2) (mNil)))))) (mVal (mDisp mkL (mCons (mVal (mC (.int 5))) (mNil)))))) (mCons (mAt 4) (mNil))))) (mVal (mDisp mkT (mCons (mVal (mFz 2)) (mCons (mVal (mOp2 dAdd (mAt 4) (mVal (mCallN (g1 dLen) (mCons (mVal (mCallF [2] 1 m__law_seven (mCons (mAt 2) (mNil)))) (mNil)))))) (mNil))))))))
  (sRt (mC (.bl false)))
  (sNx))
  (sSeq (sIf (cond (tst (mOp2 dNe (mVal (mCallN (g1 dList) (mCons (mVal (mCallF [10] 1 m_seven_signed (mCons (mAt 10) (mNil)))) (mNil)))) (mVal (mCallF [10] 1 m__law_signed (mCons (mAt 10) (mNil)))))) (mT true) (tst (mOp2 dNe (mVal (mCallF [4] 2 m_read_seven_signed (mCons (mVal (mOp2 dAdd (mVal (mOp2 dAdd (mVal (mOp2 dMul (mVal (mDisp mkL (mCons (mVal (mC (.int 200))) (mNil)))) (mAt 4))) (mVal (mCallF [10] 1 m__law_signed (mCons (mAt 10) (mNil)))))) (mVal (mDisp mkL (mCons (mVal (mC (.int 5))) (mNil)))))) (mCons (mAt 4) (mNil))))) (mVal (mDisp mkT (mCons (mVal (mFz 10)) (mCons (mVal (mOp2 dAdd (mAt 4) (mVal (mCallN (g1 dLen) (mCons (mVal (mCallF [10] 1 m__law_signed (mCons (mAt 10) (mNil)))) (mNil)))))) (mNil))))))))
  (sRt (mC (.bl false)))
  (sNx))
  (sSeq (sSet 12 (mOp2 dAdd (mVal (mC (.int 1))) (mVal (mCallF [1] 2 m__law_roll (mCons (mAt 1) (mCons (mVal (mC (.int 40))) (mNil)))))))
  (sSeq (sSet 13 (mCallF [2, 12] 2 m_rounded_up (mCons (mAt 2) (mCons (mAt 12) (mNil)))))
  (sSeq (sIf (cond (tst (mOp2 dNe (mVal (mOp2 (ints2 modI) (mAt 13) (mAt 12))) (mVal (mC (.int 0))))) (mT true) (cond (mNot (tst (mCh dLe dLt (mAt 2) (mAt 13) (mVal (mOp2 dAdd (mAt 2) (mAt 12)))))) (mT true) (tst (mOp2 dNe (mVal (mCallF [12] 1 m_is_power (mCons (mAt 12) (mNil)))) (mVal (mOp2 dIn (mAt 12) (mVal (mDisp mkL (mCons (mVal (mC (.int 1))) (mCons (mVal (mC (.int 2))) (mCons (mVal (mC (.int 4))) (mCons (mVal (mC (.int 8))) (mCons (mVal (mC (.int 16))) (mCons (mVal (mC (.int 32))) (mNil)))))))))))))))
  (sRt (mC (.bl false)))
  (sNx))
  (sSeq (sSet 14 (mJoin [] (mVal (mComp (stoO 8) (mRange rangeD1 (mCons (mVal (mCallF [1] 2 m__law_roll (mCons (mAt 1) (mCons (mVal (mC (.int 7))) (mNil))))) (mNil))) (mT true) (mOp2 dIx (mVal (mSIGNS)) (mVal (mCallF [1] 2 m__law_roll (mCons (mAt 1) (mCons (mVal (mCallN (g1 dLen) (mCons (mVal (mSIGNS)) (mNil)))) (mNil)))))) [8]))))
  (sSeq (sAsg (stTup [stoO 15, stoO 16, stoO 17]) (mDisp mkT (mCons (mVal (mC (.int 5381))) (mCons (mVal (mC (.int 1))) (mCons (mVal (mC (.int 0))) (mNil))))))
  (sSeq (sFor (stoO 18) (mWalk (mFz 14))
  (sSeq (sPar [stoO 15, stoO 16] (mCons (mVal (mOp2 dAdd (mVal (mOp2 dMul (mAt 15) (mVal (mC (.int 33))))) (mVal (mCallN (g1 dOrd) (mCons (mAt 18) (mNil)))))) (mCons (mVal (mOp2 dAdd (mAt 16) (mVal (mCallN (g1 dOrd) (mCons (mAt 18) (mNil)))))) (mNil))))
  (sSet 17 (mOp2 dAdd (mAt 17) (mAt 16)))))
  (sSeq (sIf (cond (tst (mOp2 dNe (mVal (mCallF [14] 1 m_text_print (mCons (mAt 14) (mNil)))) (mVal (mOp2 (ints2 modI) (mAt 15) (mVal (mOp2 (ints2 powI) (mVal (mC (.int 2))) (mVal (mC (.int 32))))))))) (mT true) (cond (tst (mOp2 dNe (mVal (mCallF [] 1 m_bytes_print (mCons (mVal (mCallF [14] 1 m_text_bytes (mCons (mAt 14) (mNil)))) (mNil)))) (mVal (mOp2 dAdd (mVal (mOp2 dMul (mVal (mOp2 (ints2 modI) (mAt 17) (mVal (mC (.int 65521))))) (mVal (mC (.int 65536))))) (mVal (mOp2 (ints2 modI) (mAt 16) (mVal (mC (.int 65521))))))))) (mT true) (tst (mOp2 dNe (mVal (mCallF [] 1 m_bytes_text (mCons (mVal (mComp (stoO 18) (mWalk (mFz 14)) (mT true) (mCallN (g1 dOrd) (mCons (mAt 18) (mNil))) [18])) (mNil)))) (mAt 14)))))
  (sRt (mC (.bl false)))
  (sNx))
  (sSeq (sPar [stoO 19, stoO 7] (mCons (mVal (mC (.str []))) (mCons (mVal (mFz 2)) (mNil))))
  (sSeq (sFor (stoO 8) (mRange rangeD1 (mCons (mVal (mC (.int 12))) (mNil)))
  (sPar [stoO 19, stoO 7] (mCons (mVal (mOp2 dAdd (mVal (mOp2 dIx (mVal (mC (.str [48, 49, 50, 51, 52, 53, 54, 55, 56, 57, 97, 98, 99, 100, 101, 102]))) (mVal (mOp2 (ints2 modI) (mAt 7) (mVal (mC (.int 16))))))) (mAt 19))) (mCons (mVal (mOp2 (ints2 divI) (mAt 7) (mVal (mC (.int 16))))) (mNil)))))
  (sIf (cond (tst (mOp2 dNe (mVal (mCallF [2] 2 m_told_hex (mCons (mAt 2) (mCons (mVal (mC (.int 12))) (mNil))))) (mAt 19))) (mT true) (tst (mOp2 dNe (mVal (mCallF [3] 1 m_power_of (mCons (mAt 3) (mNil)))) (mVal (mOp2 dMul (mVal (mC (.int 2))) (mVal (mCallF [] 1 m_power_of (mCons (mVal (mOp2 dSub (mAt 3) (mVal (mC (.int 1))))) (mNil)))))))))
  (sRt (mC (.bl false)))
  (sNx)))))))))))))))))))))))
theorem body_ok2 {z0 : Sl} (a b c : Int) : ∃ x δ, lawBody [z0, .s false (.ow (dice a b c)), .un, .un, .un, .un, .un, .un, .un, .un, .un, .un, .un, .un, .un, .un, .un, .un, .un, .un] = .nx (x :: δ) := body_ok a b c
theorem law_run (body : Sls → RS) (P : List DV → RF) (R : List DV → RF) (d dc : D) (hR : R [.fr d, .fr (.int 1)] = .ok (.ow (.lst .deep [dc])) [.un, .un]) (hb : ∃ x δ, body [.s false (.fr d), .s false (.ow dc), .un, .un, .un, .un, .un, .un, .un, .un, .un, .un, .un, .un, .un, .un, .un, .un, .un, .un] = .nx (x :: δ)) (hP : P [] = .ok (.fr (.bl true)) []) :
    ∃ x δ, (sSeq (sFor (stoO 1) (mWalk (mCallF [0] 2 R (mCons (mAt 0) (mCons (mVal (mC (.int 1))) (mNil))))) body) (sRt (mCallF [] 0 P mNil))) [.s false (.fr d), .un, .un, .un, .un, .un, .un, .un, .un, .un, .un, .un, .un, .un, .un, .un, .un, .un, .un, .un] = .rt (.fr (.bl true)) (x :: δ) := by
  obtain ⟨x, δ, e⟩ := hb
  refine ⟨x, δ, ?_⟩
  have h1 : (sFor (stoO 1) (mWalk (mCallF [0] 2 R (mCons (mAt 0) (mCons (mVal (mC (.int 1))) (mNil))))) body) [.s false (.fr d), .un, .un, .un, .un, .un, .un, .un, .un, .un, .un, .un, .un, .un, .un, .un, .un, .un, .un, .un] = .nx (x :: δ) := by
    simp -implicitDefEqProofs only [hR, bind_ok, bind_er, bind_bad, thenS_ok, thenS_er, thenS_bad, then_nx, then_rt, then_bk, then_ct, then_er, fin_some, ofO_some, e_sSeq, e_sIf, e_sRt, e_sSet, e_sto, e_sAug, e_sFor, e_sPar, e_sAsg, e_sEx, e_sNx, e_sRaise, e_sItem, e_sAppend, e_sRtN, e_sBk, e_sCt, e_mC, e_mRd, e_mFz, e_frz, e_mMv, e_mVal, e_mAt, e_mOp2, e_mOp1, e_tst, e_cond, e_mT, e_mCh, e_mNil, e_mCons, e_mCallN, e_mDisp, e_stoO, e_stTup, e_mRange, e_lstAt, e_callIt, e_mCallF, e_mNoP, e_mSomeP, e_mSl, e_mWalk, e_mComp, e_mGen, e_mTold, e_sTry, e_capsOk, e_dLt, e_dLe, e_dGt, e_dGe, e_dSub, e_dMax2, e_dMin2, e_mNot, e_mB, e_mJoin, Pv.mFun, Pv.entry, Pv.argS, Pv.finals, Pv.see, Pv.sees, Pv.vals, Pv.takes, Pv.pinOf, Pv.back, Pv.atsOk, Pv.allFr, Pv.ds, Pv.mkT, Pv.mkL, Pv.fz, Pv.kidVs, Pv.stAll, Pv.rangeD1, Pv.rangeD2, Pv.markOf, Pv.g1, Pv.g2, Pv.dLen, Pv.dAbs, Pv.dInt, Pv.dTup, Pv.dList, Pv.dAdd, Pv.dMul, Pv.dNeg, Pv.ints2, DV.d, Pv.modI_p, Pv.divI_p, Pv.idivI_p, Pv.imulI_r, Pv.mulI_p, Pv.powI_p, Pv.dSl, Pv.fzs, Pv.walkD, Pv.dRev, Pv.dOrd, Pv.kids, Pv.kidsL, Pv.kidsT, Pv.items, Pv.dIx, Pv.dEq, Pv.dNe, Pv.dIn, Pv.dNotIn, Pv.eqD_int, Pv.eqD_str, Pv.eqD_bl, Pv.kAny, Pv.kTupG, Pv.anyD, Pv.gSl, sz0, sy0, sz1, sy1, sz2, sy2, sz3, sy3, sz4, sy4, sz5, sy5, sz6, sy6, sz7, sy7, sz8, sy8, sz9, sy9, sz10, sy10, sz11, sy11, sz12, sy12, decide_true, decide_false, decide_not, ite_true, ite_false, not_true_eq_false, not_false_eq_true, List.map_nil, List.map_cons, List.length_nil, List.length_cons, List.replicate_succ, List.replicate_zero, List.nil_append, List.cons_append, List.append_nil, List.getElem?_cons_zero, List.getElem?_cons_succ, List.getElem?_nil, List.set_cons_zero, List.set_cons_succ, List.length_replicate, Option.map_some, Option.map_none, Option.bind_some, Option.bind_none, Nat.sub_self, Nat.reduceSub, Nat.reduceAdd, Nat.zero_add, eq_self, List.contains_cons, List.contains_nil, Bool.and_true, Bool.true_and, Bool.or_true, Bool.true_or, Bool.or_false, Bool.false_or, Bool.and_false, Bool.false_and, Bool.and_self, beq_self_eq_true, Nat.reduceBEq, if_true, if_false, Bool.false_eq_true, reduceIte, reduceCtorEq, decide_eq_true_eq, Bool.not_true, Bool.not_false]
    simp only [iterS, stoO, List.getElem?_cons_succ, List.getElem?_cons_zero, List.set_cons_succ, List.set_cons_zero, e]
  refine (seq_nx h1).trans ?_
  simp only [sRt, mCallF, mNil, Res.bind, Res.thenS, callIt, takes, atsOk, hP, back, List.length_nil, beq_self_eq_true, Bool.and_self, if_true]
theorem fun_run {body : Sls → RS} {d : D} {x : Sl} {δ : Sls} {v : DV} (n : Nat) (h : body (.s false (.fr d) :: List.replicate n .un) = .rt v (x :: δ)) : mFun (n + 1) body [.fr d] = .ok v [.un] := by
  unfold mFun entry
  simp only [List.map_cons, List.map_nil, argS, List.length_cons, List.length_nil, Nat.zero_add, Nat.add_sub_cancel, List.cons_append, List.nil_append, h, finals, Option.map_some]
theorem b_law_eq : b_law = sSeq (sFor (stoO 1) (mWalk (mCallF [0] 2 m__law_rounds (mCons (mAt 0) (mCons (mVal (mC (.int 1))) (mNil))))) lawBody) (sRt (mCallF [] 0 m__law_plain mNil)) := rfl
theorem plain_law (ns : List Int) : ∃ ys, m_law [.fr (.lst .ex (ns.map D.int))] = .ok (.fr (.bl true)) ys := by
  obtain ⟨a, b, c, e⟩ := rounds_ok ns
  obtain ⟨x, δ, e2⟩ := law_run lawBody m__law_plain m__law_rounds (.lst .ex (ns.map .int)) (dice a b c) e (body_ok2 a b c) plain_ok
  unfold m_law
  rw [b_law_eq]
  exact ⟨_, fun_run 19 e2⟩
end K01

set_option Elab.async false
set_option linter.all false
set_option maxRecDepth 100000
set_option maxHeartbeats 4000000
namespace K01
open PySem PySem.Spec L2 Pv
section
variable {P : Program} {w : World} {C : Cb} {mg : Str → Option Value} {base : Heap} {fa ca pa : Nat → Addr}
theorem ok_power_of (T : Txt C mg base fa ca pa) : OkF P w C mg base 1 (fa 0) ["times"] 1 m_power_of := by
  refine FnT.ok (N := ["times", "found", "turn"]) (ps := ["times"]) (body := b_power_of) T.f_power_of sc_power_of (fun cdv A outer s H vs E hl hr => ?_)
  have sc := sc_power_of
  exact ss_cons (ss_if (st_not (st_chain op_le op_le o2_le o2_le (so_val (se_int)) (so_at 0 (pv 0)) (so_val (se_int))))
        (ss_one (ss_raise (fun W tk => T.x_WordError.ps tk rfl rfl (by rfl))))
        (ss_nil))
        (ss_cons (ss_set (se_int) (fun h => ps_set (i := 1) sc.nd rfl (by first | exact Or.inl rfl | exact Or.inr rfl) h))
        (ss_cons (ss_for po_cx rfl (si_range1 (by rfl) T.b_range (sa_cons (so_at 0 (pv 0)) (sa_nil))) (tg_name (pg_name (i := 2) sc.nd rfl (by first | exact Or.inl rfl | exact Or.inr rfl)))
        (ss_one (ss_aug (se_int) o2_imul (fun h => ps_aug (i := 1) sc.nd rfl (by first | exact Or.inl rfl | exact Or.inr rfl) h iop_mul))))
        (ss_one (ss_ret (se_mv 1 (pv 1))))))
theorem ok_check_bytes (T : Txt C mg base fa ca pa) : OkF P w C mg base 3 (fa 1) ["numbers"] 1 m_check_bytes := by
  refine FnTC.ok (N := ["numbers"]) (ps := ["numbers"]) (body := b_check_bytes) T.f_check_bytes sc_check_bytes (fun A outer s H vs E hl hr => ?_)
  have sc := sc_check_bytes
  exact ss_one (ss_if (st_val (se_any (k := 0) (N := ["number"]) (own := ["number"]) (caps := []) (gside_by (n := s.heap.objs.size + 1) (N0 := ["numbers"]) (sc := defScope s_check_bytes) rfl T.g_check_bytes.tb rfl T.g_check_bytes.mem T.g_check_bytes.lam rfl rfl rfl (by decide +kernel) (by decide) (by decide)) (hr.mono (by first | decide | omega)) (by rfl) T.b_any (si_any rfl (se_fz 0 (pv 0))) (fun _ _ _ _ _ _ _ => tg_name (pg_name (i := 0) (show List.Nodup (["number"] : List Str) by decide) rfl (by first | exact Or.inl rfl | exact Or.inr rfl))) (fun _ _ _ _ _ _ _ hr => sts_nil) (fun _ _ _ _ _ _ _ hr => se_not (se_chain op_le op_le o2_le o2_le (so_val (se_int)) (so_at 0 (pv 0)) (so_val (se_int)))) (by decide) (by intro _; rfl)))
        (ss_one (ss_raise (fun W tk => T.x_WordError.ps tk rfl rfl (by rfl))))
        (ss_nil))
theorem ok_packed (T : Txt C mg base fa ca pa) : OkF P w C mg base 2 (fa 2) ["number", "many"] 2 m_packed := by
  obtain ⟨fd_power_of, F_power_of⟩ := ok_power_of (P := P) (w := w) (base := base) T
  refine FnT.ok (N := ["number", "many", "found", "left", "turn"]) (ps := ["number", "many"]) (body := b_packed) T.f_packed sc_packed (fun cdv A outer s H vs E hl hr => ?_)
  have sc := sc_packed
  exact ss_cons (ss_if (st_bool (sw_or (st_not (st_chain op_le op_le o2_le o2_le (so_val (se_int)) (so_at 1 (pv 1)) (so_val (T.c_MOST_BYTES.se (by rfl))))) (sw_or1 (st_not (st_chain op_le op_lt o2_le o2_lt (so_val (se_int)) (so_at 0 (pv 0)) (so_val (se_call [] F_power_of.1 (hr.mono (by first | decide | omega)) (by rfl) T.f_power_of.g T.f_power_of.k F_power_of.2.1 (sa_cons (so_val (se_op2 op_mulAll o2_mul (so_val (se_int)) (so_at 1 (pv 1)))) (sa_nil)))))))))
        (ss_one (ss_raise (fun W tk => T.x_WordError.ps tk rfl rfl (by rfl))))
        (ss_nil))
        (ss_cons (ss_par2 (sa_cons (so_val (se_lst (sa_nil))) (sa_cons (so_val (se_fz 0 (pv 0))) (sa_nil))) (fun h => ps_par (i := 2) (j := 3) rfl sc.nd rfl rfl (by decide) rfl rfl h (by rfl)))
        (ss_cons (ss_for po_cx rfl (si_range1 (by rfl) T.b_range (sa_cons (so_at 1 (pv 1)) (sa_nil))) (tg_name (pg_name (i := 4) sc.nd rfl (by first | exact Or.inl rfl | exact Or.inr rfl)))
        (ss_cons (ss_append rfl (se_op2 op_mod o2_mod (so_at 3 (pv 3)) (so_val (se_int))) (fun h => ps_expr (pe_bm PySem.F.plainAttrs_list PySem.F.slot_list_append PySem.F.type_list_append mt_append (pv 2) (pa_cons h pa_nil))))
        (ss_one (ss_aug (se_int) o2_idiv (fun h => ps_aug (i := 3) sc.nd rfl (by first | exact Or.inl rfl | exact Or.inr rfl) h iop_fdiv)))))
        (ss_one (ss_ret (se_callN on_tuple (fun W tk => pe_callTy call_tuple_of (by rfl) T.b_tuple PyProof.Rows.boot_tuple ((sa_cons (so_at 2 (pv 2)) (sa_nil)).run W tk)))))))
theorem ok_unpacked (T : Txt C mg base fa ca pa) : OkF P w C mg base 4 (fa 3) ["numbers", "place", "many"] 3 m_unpacked := by
  obtain ⟨fd_check_bytes, F_check_bytes⟩ := ok_check_bytes (P := P) (w := w) (base := base) T
  refine FnT.ok (N := ["numbers", "place", "many", "found", "number"]) (ps := ["numbers", "place", "many"]) (body := b_unpacked) T.f_unpacked sc_unpacked (fun cdv A outer s H vs E hl hr => ?_)
  have sc := sc_unpacked
  exact ss_cons (ss_if (st_bool (sw_or (st_not (st_chain op_le op_le o2_le o2_le (so_val (se_int)) (so_at 2 (pv 2)) (so_val (T.c_MOST_BYTES.se (by rfl))))) (sw_or (st_cmp op_lt o2_lt (so_at 1 (pv 1)) (so_val (se_int)) (nomark _)) (sw_or1 (st_cmp op_gt o2_gt (so_val (se_op2 op_addA o2_add (so_at 1 (pv 1)) (so_at 2 (pv 2)))) (so_val (se_callN on_len (fun W tk => pe_callB call_len (by rfl) T.b_len PySem.boot_len ((sa_cons (so_at 0 (pv 0)) (sa_nil)).run W tk)))) (nomark _))))))
        (ss_one (ss_raise (fun W tk => T.x_WordError.ps tk rfl rfl (by rfl))))
        (ss_nil))
        (ss_cons (ss_expr (se_call [] F_check_bytes.1 (hr.mono (by first | decide | omega)) (by rfl) T.f_check_bytes.g T.f_check_bytes.k F_check_bytes.2.1 (sa_cons (so_val (se_slice rfl (so_at 0 (pv 0)) (sp_some (se_fz 1 (pv 1))) (sp_some (se_op2 op_addA o2_add (so_at 1 (pv 1)) (so_at 2 (pv 2)))))) (sa_nil))))
        (ss_cons (ss_set (se_int) (fun h => ps_set (i := 3) sc.nd rfl (by first | exact Or.inl rfl | exact Or.inr rfl) h))
        (ss_cons (ss_for po_cx rfl (si_any rfl (se_rev rfl (so_val (se_slice rfl (so_at 0 (pv 0)) (sp_some (se_fz 1 (pv 1))) (sp_some (se_op2 op_addA o2_add (so_at 1 (pv 1)) (so_at 2 (pv 2)))))))) (tg_name (pg_name (i := 4) sc.nd rfl (by first | exact Or.inl rfl | exact Or.inr rfl)))
        (ss_one (ss_set (se_op2 op_addA o2_add (so_val (se_op2 op_mulAll o2_mul (so_at 3 (pv 3)) (so_val (se_int)))) (so_at 4 (pv 4))) (fun h => ps_set (i := 3) sc.nd rfl (by first | exact Or.inl rfl | exact Or.inr rfl) h))))
        (ss_one (ss_ret (se_mv 3 (pv 3)))))))
theorem ok_packed_signed (T : Txt C mg base fa ca pa) : OkF P w C mg base 3 (fa 4) ["number", "many"] 2 m_packed_signed := by
  obtain ⟨fd_power_of, F_power_of⟩ := ok_power_of (P := P) (w := w) (base := base) T
  obtain ⟨fd_packed, F_packed⟩ := ok_packed (P := P) (w := w) (base := base) T
  refine FnT.ok (N := ["number", "many", "half"]) (ps := ["number", "many"]) (body := b_packed_signed) T.f_packed_signed sc_packed_signed (fun cdv A outer s H vs E hl hr => ?_)
  have sc := sc_packed_signed
  exact ss_cons (ss_if (st_not (st_chain op_le op_le o2_le o2_le (so_val (se_int)) (so_at 1 (pv 1)) (so_val (T.c_MOST_BYTES.se (by rfl)))))
        (ss_one (ss_raise (fun W tk => T.x_WordError.ps tk rfl rfl (by rfl))))
        (ss_nil))
        (ss_cons (ss_set (se_call [] F_power_of.1 (hr.mono (by first | decide | omega)) (by rfl) T.f_power_of.g T.f_power_of.k F_power_of.2.1 (sa_cons (so_val (se_op2 op_sub o2_sub (so_val (se_op2 op_mulAll o2_mul (so_val (se_int)) (so_at 1 (pv 1)))) (so_val (se_int)))) (sa_nil))) (fun h => ps_set (i := 2) sc.nd rfl (by first | exact Or.inl rfl | exact Or.inr rfl) h))
        (ss_cons (ss_if (st_not (st_chain op_le op_lt o2_le o2_lt (so_val (se_op2 op_sub o2_sub (so_val (se_int)) (so_at 2 (pv 2)))) (so_at 0 (pv 0)) (so_at 2 (pv 2))))
        (ss_one (ss_raise (fun W tk => T.x_WordError.ps tk rfl rfl (by rfl))))
        (ss_nil))
        (ss_one (ss_ret (se_call [1] F_packed.1 (hr.mono (by first | decide | omega)) (by rfl) T.f_packed.g T.f_packed.k F_packed.2.1 (sa_cons (so_val (se_op2 op_mod o2_mod (so_at 0 (pv 0)) (so_val (se_op2 op_mulAll o2_mul (so_val (se_int)) (so_at 2 (pv 2)))))) (sa_cons (so_at 1 (pv 1)) (sa_nil))))))))
theorem ok_unpacked_signed (T : Txt C mg base fa ca pa) : OkF P w C mg base 5 (fa 5) ["numbers", "place", "many"] 3 m_unpacked_signed := by
  obtain ⟨fd_unpacked, F_unpacked⟩ := ok_unpacked (P := P) (w := w) (base := base) T
  obtain ⟨fd_power_of, F_power_of⟩ := ok_power_of (P := P) (w := w) (base := base) T
  refine FnT.ok (N := ["numbers", "place", "many", "found", "half"]) (ps := ["numbers", "place", "many"]) (body := b_unpacked_signed) T.f_unpacked_signed sc_unpacked_signed (fun cdv A outer s H vs E hl hr => ?_)
  have sc := sc_unpacked_signed
  exact ss_cons (ss_set (se_call [0, 1, 2] F_unpacked.1 (hr.mono (by first | decide | omega)) (by rfl) T.f_unpacked.g T.f_unpacked.k F_unpacked.2.1 (sa_cons (so_at 0 (pv 0)) (sa_cons (so_at 1 (pv 1)) (sa_cons (so_at 2 (pv 2)) (sa_nil))))) (fun h => ps_set (i := 3) sc.nd rfl (by first | exact Or.inl rfl | exact Or.inr rfl) h))
        (ss_cons (ss_set (se_call [] F_power_of.1 (hr.mono (by first | decide | omega)) (by rfl) T.f_power_of.g T.f_power_of.k F_power_of.2.1 (sa_cons (so_val (se_op2 op_sub o2_sub (so_val (se_op2 op_mulAll o2_mul (so_val (se_int)) (so_at 2 (pv 2)))) (so_val (se_int)))) (sa_nil))) (fun h => ps_set (i := 4) sc.nd rfl (by first | exact Or.inl rfl | exact Or.inr rfl) h))
        (ss_one (ss_ret (se_if (st_cmp op_ge o2_ge (so_at 3 (pv 3)) (so_at 4 (pv 4)) (nomark _)) (se_op2 op_sub o2_sub (so_at 3 (pv 3)) (so_val (se_op2 op_mulAll o2_mul (so_val (se_int)) (so_at 4 (pv 4))))) (se_fz 3 (pv 3))))))
theorem ok_fits_signed (T : Txt C mg base fa ca pa) : OkF P w C mg base 2 (fa 6) ["number", "many"] 2 m_fits_signed := by
  obtain ⟨fd_power_of, F_power_of⟩ := ok_power_of (P := P) (w := w) (base := base) T
  refine FnT.ok (N := ["number", "many", "half"]) (ps := ["number", "many"]) (body := b_fits_signed) T.f_fits_signed sc_fits_signed (fun cdv A outer s H vs E hl hr => ?_)
  have sc := sc_fits_signed
  exact ss_cons (ss_if (st_not (st_chain op_le op_le o2_le o2_le (so_val (se_int)) (so_at 1 (pv 1)) (so_val (T.c_MOST_BYTES.se (by rfl)))))
        (ss_one (ss_raise (fun W tk => T.x_WordError.ps tk rfl rfl (by rfl))))
        (ss_nil))
        (ss_cons (ss_set (se_call [] F_power_of.1 (hr.mono (by first | decide | omega)) (by rfl) T.f_power_of.g T.f_power_of.k F_power_of.2.1 (sa_cons (so_val (se_op2 op_sub o2_sub (so_val (se_op2 op_mulAll o2_mul (so_val (se_int)) (so_at 1 (pv 1)))) (so_val (se_int)))) (sa_nil))) (fun h => ps_set (i := 2) sc.nd rfl (by first | exact Or.inl rfl | exact Or.inr rfl) h))
        (ss_one (ss_ret (se_chain op_le op_lt o2_le o2_lt (so_val (se_op2 op_sub o2_sub (so_val (se_int)) (so_at 2 (pv 2)))) (so_at 0 (pv 0)) (so_at 2 (pv 2))))))
theorem ok_seven (T : Txt C mg base fa ca pa) : OkF P w C mg base 1 (fa 7) ["number"] 1 m_seven := by
  refine FnT.ok (N := ["number", "found", "left"]) (ps := ["number"]) (body := b_seven) T.f_seven sc_seven (fun cdv A outer s H vs E hl hr => ?_)
  have sc := sc_seven
  exact ss_cons (ss_if (st_cmp op_lt o2_lt (so_at 0 (pv 0)) (so_val (se_int)) (nomark _))
        (ss_one (ss_raise (fun W tk => T.x_WordError.ps tk rfl rfl (by rfl))))
        (ss_nil))
        (ss_cons (ss_par2 (sa_cons (so_val (se_lst (sa_nil))) (sa_cons (so_val (se_fz 0 (pv 0))) (sa_nil))) (fun h => ps_par (i := 1) (j := 2) rfl sc.nd rfl rfl (by decide) rfl rfl h (by rfl)))
        (ss_cons (ss_while po_cx (st_cmp op_ge o2_ge (so_at 2 (pv 2)) (so_val (se_int)) (nomark _)) (ss_cons (ss_append rfl (se_op2 op_addA o2_add (so_val (se_op2 op_mod o2_mod (so_at 2 (pv 2)) (so_val (se_int)))) (so_val (se_int))) (fun h => ps_expr (pe_bm PySem.F.plainAttrs_list PySem.F.slot_list_append PySem.F.type_list_append mt_append (pv 1) (pa_cons h pa_nil))))
        (ss_one (ss_aug (se_int) o2_idiv (fun h => ps_aug (i := 2) sc.nd rfl (by first | exact Or.inl rfl | exact Or.inr rfl) h iop_fdiv)))))
        (ss_one (ss_ret (se_callN on_tuple (fun W tk => pe_callTy call_tuple_of (by rfl) T.b_tuple PyProof.Rows.boot_tuple ((sa_cons (so_val (se_op2 op_addA o2_add (so_at 1 (pv 1)) (so_val (se_lst (sa_cons (so_val (se_fz 2 (pv 2))) (sa_nil)))))) (sa_nil)).run W tk)))))))
theorem ok_read_seven (T : Txt C mg base fa ca pa) : OkF P w C mg base 4 (fa 8) ["numbers", "place"] 2 m_read_seven := by
  obtain ⟨fd_check_bytes, F_check_bytes⟩ := ok_check_bytes (P := P) (w := w) (base := base) T
  refine FnT.ok (N := ["numbers", "place", "found", "worth", "turn"]) (ps := ["numbers", "place"]) (body := b_read_seven) T.f_read_seven sc_read_seven (fun cdv A outer s H vs E hl hr => ?_)
  have sc := sc_read_seven
  exact ss_cons (ss_asg (se_tup (sa_cons (so_val (se_int)) (sa_cons (so_val (se_int)) (sa_nil)))) (tg_tup rfl rfl (tgs_cons (tg_name (pg_name (i := 2) sc.nd rfl (by first | exact Or.inl rfl | exact Or.inr rfl))) (tgs_cons (tg_name (pg_name (i := 3) sc.nd rfl (by first | exact Or.inl rfl | exact Or.inr rfl))) (tgs_nil)))) (fun h g => ps_asg h g))
        (ss_cons (ss_for po_cx rfl (si_range1 (by rfl) T.b_range (sa_cons (so_val (se_int)) (sa_nil))) (tg_name (pg_name (i := 4) sc.nd rfl (by first | exact Or.inl rfl | exact Or.inr rfl)))
        (ss_cons (ss_if (st_not (st_chain op_le op_lt o2_le o2_lt (so_val (se_int)) (so_val (se_op2 op_addA o2_add (so_at 1 (pv 1)) (so_at 4 (pv 4)))) (so_val (se_callN on_len (fun W tk => pe_callB call_len (by rfl) T.b_len PySem.boot_len ((sa_cons (so_at 0 (pv 0)) (sa_nil)).run W tk))))))
        (ss_one (ss_raise (fun W tk => T.x_WordError.ps tk rfl rfl (by rfl))))
        (ss_nil))
        (ss_cons (ss_expr (se_call [] F_check_bytes.1 (hr.mono (by first | decide | omega)) (by rfl) T.f_check_bytes.g T.f_check_bytes.k F_check_bytes.2.1 (sa_cons (so_val (se_tup (sa_cons (so_val (se_ix ix_seq o2_ix (so_at 0 (pv 0)) (so_val (se_op2 op_addA o2_add (so_at 1 (pv 1)) (so_at 4 (pv 4)))) (fun _ _ => rfl))) (sa_nil)))) (sa_nil))))
        (ss_cons (ss_aug (se_op2 op_mulAll o2_mul (so_val (se_op2 op_mod o2_mod (so_val (se_ix ix_seq o2_ix (so_at 0 (pv 0)) (so_val (se_op2 op_addA o2_add (so_at 1 (pv 1)) (so_at 4 (pv 4)))) (fun _ _ => rfl))) (so_val (se_int)))) (so_at 3 (pv 3))) o2_addS' (fun h => ps_aug (i := 2) sc.nd rfl (by first | exact Or.inl rfl | exact Or.inr rfl) h iop_addS))
        (ss_cons (ss_aug (se_int) o2_imul (fun h => ps_aug (i := 3) sc.nd rfl (by first | exact Or.inl rfl | exact Or.inr rfl) h iop_mul))
        (ss_one (ss_if (st_cmp op_lt o2_lt (so_val (se_ix ix_seq o2_ix (so_at 0 (pv 0)) (so_val (se_op2 op_addA o2_add (so_at 1 (pv 1)) (so_at 4 (pv 4)))) (fun _ _ => rfl))) (so_val (se_int)) (nomark _))
        (ss_one (ss_ret (se_tup (sa_cons (so_val (se_fz 2 (pv 2))) (sa_cons (so_val (se_op2 op_addA o2_add (so_val (se_op2 op_addA o2_add (so_at 1 (pv 1)) (so_at 4 (pv 4)))) (so_val (se_int)))) (sa_nil))))))
        (ss_nil))))))))
        (ss_one (ss_raise (fun W tk => T.x_WordError.ps tk rfl rfl (by rfl)))))
theorem ok_seven_signed (T : Txt C mg base fa ca pa) : OkF P w C mg base 1 (fa 9) ["number"] 1 m_seven_signed := by
  refine FnT.ok (N := ["number", "found", "left", "low"]) (ps := ["number"]) (body := b_seven_signed) T.f_seven_signed sc_seven_signed (fun cdv A outer s H vs E hl hr => ?_)
  have sc := sc_seven_signed
  exact ss_cons (ss_par2 (sa_cons (so_val (se_lst (sa_nil))) (sa_cons (so_val (se_fz 0 (pv 0))) (sa_nil))) (fun h => ps_par (i := 1) (j := 2) rfl sc.nd rfl rfl (by decide) rfl rfl h (by rfl)))
        (ss_one (ss_while po_cx (st_val (se_bl)) (ss_cons (ss_set (se_op2 op_mod o2_mod (so_at 2 (pv 2)) (so_val (se_int))) (fun h => ps_set (i := 3) sc.nd rfl (by first | exact Or.inl rfl | exact Or.inr rfl) h))
        (ss_cons (ss_set (se_op2 op_fdivW o2_div (so_at 2 (pv 2)) (so_val (se_int))) (fun h => ps_set (i := 2) sc.nd rfl (by first | exact Or.inl rfl | exact Or.inr rfl) h))
        (ss_cons (ss_if (st_bool (sw_or (st_bool (sw_and (st_cmp (op_eqA (hu64 hr)) o2_eq (so_at 2 (pv 2)) (so_val (se_int)) (nomark _)) (sw_and1 (st_cmp op_lt o2_lt (so_at 3 (pv 3)) (so_val (se_int)) (nomark _))))) (sw_or1 (st_bool (sw_and (st_cmp (op_eqA (hu64 hr)) o2_eq (so_at 2 (pv 2)) (so_val (se_op2 op_sub o2_sub (so_val (se_int)) (so_val (se_int)))) (nomark _)) (sw_and1 (st_cmp op_ge o2_ge (so_at 3 (pv 3)) (so_val (se_int)) (nomark _))))))))
        (ss_one (ss_ret (se_callN on_tuple (fun W tk => pe_callTy call_tuple_of (by rfl) T.b_tuple PyProof.Rows.boot_tuple ((sa_cons (so_val (se_op2 op_addA o2_add (so_at 1 (pv 1)) (so_val (se_lst (sa_cons (so_val (se_fz 3 (pv 3))) (sa_nil)))))) (sa_nil)).run W tk)))))
        (ss_nil))
        (ss_one (ss_append rfl (se_op2 op_addA o2_add (so_at 3 (pv 3)) (so_val (se_int))) (fun h => ps_expr (pe_bm PySem.F.plainAttrs_list PySem.F.slot_list_append PySem.F.type_list_append mt_append (pv 1) (pa_cons h pa_nil))))))))))
theorem ok_read_seven_signed (T : Txt C mg base fa ca pa) : OkF P w C mg base 5 (fa 10) ["numbers", "place"] 2 m_read_seven_signed := by
  obtain ⟨fd_read_seven, F_read_seven⟩ := ok_read_seven (P := P) (w := w) (base := base) T
  refine FnT.ok (N := ["numbers", "place", "found", "behind", "worth", "turn"]) (ps := ["numbers", "place"]) (body := b_read_seven_signed) T.f_read_seven_signed sc_read_seven_signed (fun cdv A outer s H vs E hl hr => ?_)
  have sc := sc_read_seven_signed
  exact ss_cons (ss_asg (se_call [0, 1] F_read_seven.1 (hr.mono (by first | decide | omega)) (by rfl) T.f_read_seven.g T.f_read_seven.k F_read_seven.2.1 (sa_cons (so_at 0 (pv 0)) (sa_cons (so_at 1 (pv 1)) (sa_nil)))) (tg_tup rfl rfl (tgs_cons (tg_name (pg_name (i := 2) sc.nd rfl (by first | exact Or.inl rfl | exact Or.inr rfl))) (tgs_cons (tg_name (pg_name (i := 3) sc.nd rfl (by first | exact Or.inl rfl | exact Or.inr rfl))) (tgs_nil)))) (fun h g => ps_asg h g))
        (ss_cons (ss_set (se_int) (fun h => ps_set (i := 4) sc.nd rfl (by first | exact Or.inl rfl | exact Or.inr rfl) h))
        (ss_cons (ss_for po_cx rfl (si_range1 (by rfl) T.b_range (sa_cons (so_val (se_op2 op_sub o2_sub (so_at 3 (pv 3)) (so_at 1 (pv 1)))) (sa_nil))) (tg_name (pg_name (i := 5) sc.nd rfl (by first | exact Or.inl rfl | exact Or.inr rfl)))
        (ss_one (ss_aug (se_int) o2_imul (fun h => ps_aug (i := 4) sc.nd rfl (by first | exact Or.inl rfl | exact Or.inr rfl) h iop_mul))))
        (ss_one (ss_ret (se_tup (sa_cons (so_val (se_if (st_cmp op_ge o2_ge (so_val (se_ix ix_seq o2_ix (so_at 0 (pv 0)) (so_val (se_op2 op_sub o2_sub (so_at 3 (pv 3)) (so_val (se_int)))) (fun _ _ => rfl))) (so_val (se_int)) (nomark _)) (se_op2 op_sub o2_sub (so_at 2 (pv 2)) (so_at 4 (pv 4))) (se_fz 2 (pv 2)))) (sa_cons (so_val (se_fz 3 (pv 3))) (sa_nil))))))))
theorem ok_rounded_up (T : Txt C mg base fa ca pa) : OkF P w C mg base 1 (fa 11) ["place", "step"] 2 m_rounded_up := by
  refine FnT.ok (N := ["place", "step"]) (ps := ["place", "step"]) (body := b_rounded_up) T.f_rounded_up sc_rounded_up (fun cdv A outer s H vs E hl hr => ?_)
  have sc := sc_rounded_up
  exact ss_cons (ss_if (st_bool (sw_or (st_cmp op_lt o2_lt (so_at 1 (pv 1)) (so_val (se_int)) (nomark _)) (sw_or1 (st_cmp op_lt o2_lt (so_at 0 (pv 0)) (so_val (se_int)) (nomark _)))))
        (ss_one (ss_raise (fun W tk => T.x_WordError.ps tk rfl rfl (by rfl))))
        (ss_nil))
        (ss_one (ss_ret (se_op2 op_mulAll o2_mul (so_val (se_op2 op_fdivW o2_div (so_val (se_op2 op_sub o2_sub (so_val (se_op2 op_addA o2_add (so_at 0 (pv 0)) (so_at 1 (pv 1)))) (so_val (se_int)))) (so_at 1 (pv 1)))) (so_at 1 (pv 1)))))
theorem ok_is_power (T : Txt C mg base fa ca pa) : OkF P w C mg base 1 (fa 12) ["number"] 1 m_is_power := by
  refine FnT.ok (N := ["number", "here"]) (ps := ["number"]) (body := b_is_power) T.f_is_power sc_is_power (fun cdv A outer s H vs E hl hr => ?_)
  have sc := sc_is_power
  exact ss_cons (ss_set (se_int) (fun h => ps_set (i := 1) sc.nd rfl (by first | exact Or.inl rfl | exact Or.inr rfl) h))
        (ss_cons (ss_while po_cx (st_cmp op_lt o2_lt (so_at 1 (pv 1)) (so_at 0 (pv 0)) (nomark _)) (ss_one (ss_aug (se_int) o2_imul (fun h => ps_aug (i := 1) sc.nd rfl (by first | exact Or.inl rfl | exact Or.inr rfl) h iop_mul))))
        (ss_one (ss_ret (se_cmp (op_eqA (hu64 hr)) o2_eq (so_at 1 (pv 1)) (so_at 0 (pv 0)) (nomark _)))))
theorem ok_text_bytes (T : Txt C mg base fa ca pa) : OkF P w C mg base 3 (fa 13) ["text"] 1 m_text_bytes := by
  refine FnTC.ok (N := ["text"]) (ps := ["text"]) (body := b_text_bytes) T.f_text_bytes sc_text_bytes (fun A outer s H vs E hl hr => ?_)
  have sc := sc_text_bytes
  exact ss_cons (ss_if (st_val (se_any (k := 0) (N := ["sign"]) (own := ["sign"]) (caps := []) (gside_by (n := s.heap.objs.size + 1) (N0 := ["text"]) (sc := defScope s_text_bytes) rfl T.g_text_bytes.tb rfl T.g_text_bytes.mem T.g_text_bytes.lam rfl rfl rfl (by decide +kernel) (by decide) (by decide)) (hr.mono (by first | decide | omega)) (by rfl) T.b_any (si_any rfl (se_fz 0 (pv 0))) (fun _ _ _ _ _ _ _ => tg_name (pg_name (i := 0) (show List.Nodup (["sign"] : List Str) by decide) rfl (by first | exact Or.inl rfl | exact Or.inr rfl))) (fun _ _ _ _ _ _ _ hr => sts_nil) (fun _ _ _ _ _ _ _ hr => se_cmp op_notInA o2_notIn (so_at 0 (pv 0)) (so_val (T.c_SIGNS.se (by rfl))) (by rfl)) (by decide) (by intro _; rfl)))
        (ss_one (ss_raise (fun W tk => T.x_WordError.ps tk rfl rfl (by rfl))))
        (ss_nil))
        (ss_one (ss_ret (se_tupG (k := 0) (N := ["sign"]) (own := ["sign"]) (caps := []) (gside_by (n := s.heap.objs.size + 1) (N0 := ["text"]) (sc := defScope s_text_bytes) rfl T.g_text_bytes.tb rfl T.g_text_bytes.mem T.g_text_bytes.lam rfl rfl rfl (by decide +kernel) (by decide) (by decide)) (hr.mono (by first | decide | omega)) (by rfl) T.b_tuple (si_any rfl (se_fz 0 (pv 0))) (fun _ _ _ _ _ _ _ => tg_name (pg_name (i := 0) (show List.Nodup (["sign"] : List Str) by decide) rfl (by first | exact Or.inl rfl | exact Or.inr rfl))) (fun _ _ _ _ _ _ _ hr => sts_nil) (fun _ _ _ _ _ _ _ hr => se_callN on_ord (fun W tk => pe_callB call_ord (by rfl) T.b_ord PyProof.Rows.boot_ord ((sa_cons (so_at 0 (pv 0)) (sa_nil)).run W tk))) (by decide) (by intro _; rfl))))
theorem ok_text_print (T : Txt C mg base fa ca pa) : OkF P w C mg base 4 (fa 14) ["text"] 1 m_text_print := by
  obtain ⟨fd_text_bytes, F_text_bytes⟩ := ok_text_bytes (P := P) (w := w) (base := base) T
  refine FnT.ok (N := ["text", "found", "number"]) (ps := ["text"]) (body := b_text_print) T.f_text_print sc_text_print (fun cdv A outer s H vs E hl hr => ?_)
  have sc := sc_text_print
  exact ss_cons (ss_set (se_int) (fun h => ps_set (i := 1) sc.nd rfl (by first | exact Or.inl rfl | exact Or.inr rfl) h))
        (ss_cons (ss_for po_cx rfl (si_any rfl (se_call [0] F_text_bytes.1 (hr.mono (by first | decide | omega)) (by rfl) T.f_text_bytes.g T.f_text_bytes.k F_text_bytes.2.1 (sa_cons (so_at 0 (pv 0)) (sa_nil)))) (tg_name (pg_name (i := 2) sc.nd rfl (by first | exact Or.inl rfl | exact Or.inr rfl)))
        (ss_one (ss_set (se_op2 op_mod o2_mod (so_val (se_op2 op_addA o2_add (so_val (se_op2 op_mulAll o2_mul (so_at 1 (pv 1)) (so_val (se_int)))) (so_at 2 (pv 2)))) (so_val (se_int))) (fun h => ps_set (i := 1) sc.nd rfl (by first | exact Or.inl rfl | exact Or.inr rfl) h))))
        (ss_one (ss_ret (se_mv 1 (pv 1)))))
theorem ok_bytes_print (T : Txt C mg base fa ca pa) : OkF P w C mg base 4 (fa 15) ["numbers"] 1 m_bytes_print := by
  obtain ⟨fd_check_bytes, F_check_bytes⟩ := ok_check_bytes (P := P) (w := w) (base := base) T
  refine FnT.ok (N := ["numbers", "one", "two", "number"]) (ps := ["numbers"]) (body := b_bytes_print) T.f_bytes_print sc_bytes_print (fun cdv A outer s H vs E hl hr => ?_)
  have sc := sc_bytes_print
  exact ss_cons (ss_expr (se_call [0] F_check_bytes.1 (hr.mono (by first | decide | omega)) (by rfl) T.f_check_bytes.g T.f_check_bytes.k F_check_bytes.2.1 (sa_cons (so_at 0 (pv 0)) (sa_nil))))
        (ss_cons (ss_asg (se_tup (sa_cons (so_val (se_int)) (sa_cons (so_val (se_int)) (sa_nil)))) (tg_tup rfl rfl (tgs_cons (tg_name (pg_name (i := 1) sc.nd rfl (by first | exact Or.inl rfl | exact Or.inr rfl))) (tgs_cons (tg_name (pg_name (i := 2) sc.nd rfl (by first | exact Or.inl rfl | exact Or.inr rfl))) (tgs_nil)))) (fun h g => ps_asg h g))
        (ss_cons (ss_for po_cx rfl (si_any rfl (se_fz 0 (pv 0))) (tg_name (pg_name (i := 3) sc.nd rfl (by first | exact Or.inl rfl | exact Or.inr rfl)))
        (ss_cons (ss_set (se_op2 op_mod o2_mod (so_val (se_op2 op_addA o2_add (so_at 1 (pv 1)) (so_at 3 (pv 3)))) (so_val (se_int))) (fun h => ps_set (i := 1) sc.nd rfl (by first | exact Or.inl rfl | exact Or.inr rfl) h))
        (ss_one (ss_set (se_op2 op_mod o2_mod (so_val (se_op2 op_addA o2_add (so_at 2 (pv 2)) (so_at 1 (pv 1)))) (so_val (se_int))) (fun h => ps_set (i := 2) sc.nd rfl (by first | exact Or.inl rfl | exact Or.inr rfl) h)))))
        (ss_one (ss_ret (se_op2 op_addA o2_add (so_val (se_op2 op_mulAll o2_mul (so_at 2 (pv 2)) (so_val (se_int)))) (so_at 1 (pv 1)))))))
theorem ok_told_hex (T : Txt C mg base fa ca pa) : OkF P w C mg base 2 (fa 16) ["number", "many"] 2 m_told_hex := by
  obtain ⟨fd_power_of, F_power_of⟩ := ok_power_of (P := P) (w := w) (base := base) T
  refine FnT.ok (N := ["number", "many", "found", "left", "turn"]) (ps := ["number", "many"]) (body := b_told_hex) T.f_told_hex sc_told_hex (fun cdv A outer s H vs E hl hr => ?_)
  have sc := sc_told_hex
  exact ss_cons (ss_if (st_bool (sw_or (st_not (st_chain op_le op_le o2_le o2_le (so_val (se_int)) (so_at 1 (pv 1)) (so_val (se_int)))) (sw_or1 (st_not (st_chain op_le op_lt o2_le o2_lt (so_val (se_int)) (so_at 0 (pv 0)) (so_val (se_call [] F_power_of.1 (hr.mono (by first | decide | omega)) (by rfl) T.f_power_of.g T.f_power_of.k F_power_of.2.1 (sa_cons (so_val (se_op2 op_mulAll o2_mul (so_val (se_int)) (so_at 1 (pv 1)))) (sa_nil)))))))))
        (ss_one (ss_raise (fun W tk => T.x_WordError.ps tk rfl rfl (by rfl))))
        (ss_nil))
        (ss_cons (ss_par2 (sa_cons (so_val (se_str (by rfl))) (sa_cons (so_val (se_fz 0 (pv 0))) (sa_nil))) (fun h => ps_par (i := 2) (j := 3) rfl sc.nd rfl rfl (by decide) rfl rfl h (by rfl)))
        (ss_cons (ss_for po_cx rfl (si_range1 (by rfl) T.b_range (sa_cons (so_at 1 (pv 1)) (sa_nil))) (tg_name (pg_name (i := 4) sc.nd rfl (by first | exact Or.inl rfl | exact Or.inr rfl)))
        (ss_cons (ss_set (se_op2 op_addA o2_add (so_val (se_ix ix_seq o2_ix (so_val (se_str (by rfl))) (so_val (se_op2 op_mod o2_mod (so_at 3 (pv 3)) (so_val (se_int)))) (fun _ _ => rfl))) (so_at 2 (pv 2))) (fun h => ps_set (i := 2) sc.nd rfl (by first | exact Or.inl rfl | exact Or.inr rfl) h))
        (ss_one (ss_aug (se_int) o2_idiv (fun h => ps_aug (i := 3) sc.nd rfl (by first | exact Or.inl rfl | exact Or.inr rfl) h iop_fdiv)))))
        (ss_one (ss_ret (se_mv 2 (pv 2))))))
theorem ok_sign_of (T : Txt C mg base fa ca pa) : OkF P w C mg base 1 (fa 17) ["number"] 1 m_sign_of := by
  refine FnT.ok (N := ["number", "found", "sign"]) (ps := ["number"]) (body := b_sign_of) T.f_sign_of sc_sign_of (fun cdv A outer s H vs E hl hr => ?_)
  have sc := sc_sign_of
  exact ss_cons (ss_setLc (own := [("sign", 2)]) rfl sc.nd (i := 1) rfl rfl (by first | exact sw_true rfl rfl rfl rfl) (si_any rfl (T.c_SIGNS.se (by rfl))) (blkOk_by (N := ["number", "found", "sign"]) (sc := defScope s_sign_of) (by decide +kernel)) (fun _ _ _ _ _ => tg_name (pg_name (i := 2) sc.nd rfl (by first | exact Or.inl rfl | exact Or.inr rfl))) (fun _ _ _ _ _ => sts_one (st_cmp (op_eqA (hu64 hr)) o2_eq (so_val (se_callN on_ord (fun W tk => pe_callB call_ord (by rfl) T.b_ord PyProof.Rows.boot_ord ((sa_cons (so_at 2 (pv 2)) (sa_nil)).run W tk)))) (so_at 0 (pv 0)) (nomark _))) (fun _ _ _ _ _ => se_fz 2 (pv 2)))
        (ss_one (ss_ret (se_if (st_cmp (op_neA (hu64 hr)) o2_ne (so_at 1 (pv 1)) (so_val (se_lst (sa_nil))) (nomark _)) (se_ix ix_seq o2_ix (so_at 1 (pv 1)) (so_val (se_int)) (fun _ _ => rfl)) (se_str (by rfl)))))
theorem ok_bytes_text (T : Txt C mg base fa ca pa) : OkF P w C mg base 2 (fa 18) ["numbers"] 1 m_bytes_text := by
  obtain ⟨fd_sign_of, F_sign_of⟩ := ok_sign_of (P := P) (w := w) (base := base) T
  refine FnT.ok (N := ["numbers", "signs", "number"]) (ps := ["numbers"]) (body := b_bytes_text) T.f_bytes_text sc_bytes_text (fun cdv A outer s H vs E hl hr => ?_)
  have sc := sc_bytes_text
  exact ss_cons (ss_setLc (own := [("number", 2)]) rfl sc.nd (i := 1) rfl rfl (by first | exact sw_true rfl rfl rfl rfl) (si_any rfl (se_fz 0 (pv 0))) (blkOk_by (N := ["numbers", "signs", "number"]) (sc := defScope s_bytes_text) (by decide +kernel)) (fun _ _ _ _ _ => tg_name (pg_name (i := 2) sc.nd rfl (by first | exact Or.inl rfl | exact Or.inr rfl))) (fun _ _ _ _ _ => sts_nil) (fun _ _ _ _ _ => se_call [2] F_sign_of.1 (hr.mono (by first | decide | omega)) (by rfl) T.f_sign_of.g T.f_sign_of.k F_sign_of.2.1 (sa_cons (so_at 2 (pv 2)) (sa_nil))))
        (ss_cons (ss_if (st_cmp op_inA o2_in (so_val (se_str (by rfl))) (so_at 1 (pv 1)) (by rfl))
        (ss_one (ss_raise (fun W tk => T.x_WordError.ps tk rfl rfl (by rfl))))
        (ss_nil))
        (ss_one (ss_ret (se_join rfl (by rfl) (so_at 1 (pv 1))))))
theorem ok__law_dice (T : Txt C mg base fa ca pa) : OkF P w C mg base 1 (fa 19) ["cell"] 1 m__law_dice := by
  refine FnT.ok (N := ["cell"]) (ps := ["cell"]) (body := b__law_dice) T.f__law_dice sc__law_dice (fun cdv A outer s H vs E hl hr => ?_)
  have sc := sc__law_dice
  exact ss_cons (ss_if (st_chain op_lt op_lt o2_lt o2_lt (so_val (se_op2 op_sub o2_sub (so_val (se_int)) (so_val (se_int)))) (so_at 0 (pv 0)) (so_val (se_int)))
        (ss_one (ss_ret (se_lst (sa_cons (so_val (se_callN on_abs (fun W tk => pe_callB call_abs (by rfl) T.b_abs PyProof.Rows.boot_abs ((sa_cons (so_at 0 (pv 0)) (sa_nil)).run W tk)))) (sa_cons (so_val (se_int)) (sa_cons (so_val (se_int)) (sa_nil)))))))
        (ss_nil))
        (ss_one (ss_ret (se_lst (sa_cons (so_val (se_fz 0 (pv 0))) (sa_cons (so_val (se_op2 op_addA o2_add (so_val (se_int)) (so_val (se_op2 op_mod o2_mod (so_val (se_callN on_int (fun W tk => pe_callTy call_int1 (by rfl) T.b_int PyProof.Rows.boot_int ((sa_cons (so_at 0 (pv 0)) (sa_nil)).run W tk)))) (so_val (se_int)))))) (sa_cons (so_val (se_callN on_int (fun W tk => pe_callTy call_int1 (by rfl) T.b_int PyProof.Rows.boot_int ((sa_cons (so_val (se_cmp op_ge o2_ge (so_at 0 (pv 0)) (so_val (se_op2 op_pow o2_pow (so_val (se_int)) (so_val (se_int)))) (nomark _))) (sa_nil)).run W tk)))) (sa_nil)))))))
theorem ok__law_rollN (T : Txt C mg base fa ca pa) : ∀ n : Nat, OkF P w C mg base (n + 0) (fa 20) ["dice", "many"] 2 (m__law_rollN n)
  | 0 => FnT.bad T.f__law_roll
  | n + 1 => by
    obtain ⟨fd_r, Fr⟩ := ok__law_rollN T n
    rw [show n + 1 + 0 = (n + 0) + 1 by omega]
    refine FnT.ok (N := ["dice", "many", "found"]) (ps := ["dice", "many"]) (body := b__law_roll (m__law_rollN n)) T.f__law_roll sc__law_roll (fun cdv A outer s H vs E hl hr => ?_)
    have sc := sc__law_roll
    exact ss_cons (ss_if (st_bool (sw_or (st_cmp (op_eqA (hu64 hr)) o2_eq (so_val (se_ix ix_seq o2_ix (so_at 0 (pv 0)) (so_val (se_int)) (fun _ _ => rfl))) (so_val (se_int)) (nomark _)) (sw_or1 (st_bool (sw_and (st_cmp (op_eqA (hu64 hr)) o2_eq (so_val (se_ix ix_seq o2_ix (so_at 0 (pv 0)) (so_val (se_int)) (fun _ _ => rfl))) (so_val (se_int)) (nomark _)) (sw_and1 (st_cmp op_gt o2_gt (so_val (se_ix ix_seq o2_ix (so_at 0 (pv 0)) (so_val (se_int)) (fun _ _ => rfl))) (so_val (se_int)) (nomark _))))))))
        (ss_cons (ss_set (se_op2 op_mod o2_mod (so_val (se_callN on_int (fun W tk => pe_callTy call_int1 (by rfl) T.b_int PyProof.Rows.boot_int ((sa_cons (so_val (se_ix ix_seq o2_ix (so_at 0 (pv 0)) (so_val (se_int)) (fun _ _ => rfl))) (sa_nil)).run W tk)))) (so_at 1 (pv 1))) (fun h => ps_set (i := 2) sc.nd rfl (by first | exact Or.inl rfl | exact Or.inr rfl) h))
        (ss_cons (ss_item (se_op2 op_fdivW o2_div (so_val (se_ix ix_seq o2_ix (so_at 0 (pv 0)) (so_val (se_int)) (fun _ _ => rfl))) (so_at 1 (pv 1))) (se_int) (fun h g => ps_asg h (pg_sub (pv 0) g set_list (by intro _; rfl))))
        (ss_one (ss_ret (se_mv 2 (pv 2))))))
        (ss_nil))
        (ss_cons (ss_item (se_int) (se_int) (fun h g => ps_asg h (pg_sub (pv 0) g set_list (by intro _; rfl))))
        (ss_cons (ss_if (st_cmp op_gt o2_gt (so_at 1 (pv 1)) (so_val (se_int)) (nomark _))
        (ss_one (ss_ret (se_op2 op_mod o2_mod (so_val (se_callN on_int (fun W tk => pe_callTy call_int1 (by rfl) T.b_int PyProof.Rows.boot_int ((sa_cons (so_val (se_op2 op_addA o2_add (so_val (se_op2 op_mulAll o2_mul (so_val (se_call [0] Fr.1 (hr.mono (by first | decide | omega)) (by rfl) T.f__law_roll.g T.f__law_roll.k Fr.2.1 (sa_cons (so_at 0 (pv 0)) (sa_cons (so_val (se_op2 op_addA o2_add (so_val (se_op2 op_fdivW o2_div (so_at 1 (pv 1)) (so_val (se_int)))) (so_val (se_int)))) (sa_nil))))) (so_val (se_int)))) (so_val (se_call [0] Fr.1 (hr.mono (by first | decide | omega)) (by rfl) T.f__law_roll.g T.f__law_roll.k Fr.2.1 (sa_cons (so_at 0 (pv 0)) (sa_cons (so_val (se_int)) (sa_nil))))))) (sa_nil)).run W tk)))) (so_at 1 (pv 1)))))
        (ss_nil))
        (ss_cons (ss_item (se_op2 op_mod o2_mod (so_val (se_callN on_int (fun W tk => pe_callTy call_int1 (by rfl) T.b_int PyProof.Rows.boot_int ((sa_cons (so_val (se_op2 op_addA o2_add (so_val (se_op2 op_addA o2_add (so_val (se_op2 op_mulAll o2_mul (so_val (se_ix ix_seq o2_ix (so_at 0 (pv 0)) (so_val (se_int)) (fun _ _ => rfl))) (so_val (se_int)))) (so_val (se_op2 op_mulAll o2_mul (so_val (se_ix ix_seq o2_ix (so_at 0 (pv 0)) (so_val (se_int)) (fun _ _ => rfl))) (so_val (se_int)))))) (so_val (se_int)))) (sa_nil)).run W tk)))) (so_val (se_int))) (se_int) (fun h g => ps_asg h (pg_sub (pv 0) g set_list (by intro _; rfl))))
        (ss_cons (ss_item (se_op2 op_addA o2_add (so_val (se_ix ix_seq o2_ix (so_at 0 (pv 0)) (so_val (se_int)) (fun _ _ => rfl))) (so_val (se_int))) (se_int) (fun h g => ps_asg h (pg_sub (pv 0) g set_list (by intro _; rfl))))
        (ss_one (ss_ret (se_op2 op_mod o2_mod (so_val (se_callN on_int (fun W tk => pe_callTy call_int1 (by rfl) T.b_int PyProof.Rows.boot_int ((sa_cons (so_val (se_op2 op_fdivW o2_div (so_val (se_ix ix_seq o2_ix (so_at 0 (pv 0)) (so_val (se_int)) (fun _ _ => rfl))) (so_val (se_int)))) (sa_nil)).run W tk)))) (so_at 1 (pv 1)))))))))
theorem ok__law_roll (T : Txt C mg base fa ca pa) : OkF P w C mg base 4 (fa 20) ["dice", "many"] 2 m__law_roll := ok__law_rollN T 4
theorem ok__law_rounds (T : Txt C mg base fa ca pa) : OkF P w C mg base 2 (fa 21) ["script", "most"] 2 m__law_rounds := by
  obtain ⟨fd__law_dice, F__law_dice⟩ := ok__law_dice (P := P) (w := w) (base := base) T
  refine FnT.ok (N := ["script", "most", "cells", "cell"]) (ps := ["script", "most"]) (body := b__law_rounds) T.f__law_rounds sc__law_rounds (fun cdv A outer s H vs E hl hr => ?_)
  have sc := sc__law_rounds
  exact ss_cons (ss_set (se_slice rfl (so_at 0 (pv 0)) (sp_none) (sp_some (se_fz 1 (pv 1)))) (fun h => ps_set (i := 2) sc.nd rfl (by first | exact Or.inl rfl | exact Or.inr rfl) h))
        (ss_cons (ss_if (st_cmp (op_eqA (hu64 hr)) o2_eq (so_at 2 (pv 2)) (so_val (se_lst (sa_nil))) (nomark _))
        (ss_one (ss_set (se_lst (sa_cons (so_val (se_int)) (sa_nil))) (fun h => ps_set (i := 2) sc.nd rfl (by first | exact Or.inl rfl | exact Or.inr rfl) h)))
        (ss_nil))
        (ss_one (ss_ret (se_lc (own := [("cell", 3)]) rfl sc.nd (si_any rfl (se_fz 2 (pv 2))) (blkOk_by (N := ["script", "most", "cells", "cell"]) (sc := defScope s__law_rounds) (by decide +kernel)) (fun _ _ _ _ _ => tg_name (pg_name (i := 3) sc.nd rfl (by first | exact Or.inl rfl | exact Or.inr rfl))) (fun _ _ _ _ _ => sts_nil) (fun _ _ _ _ _ => se_call [3] F__law_dice.1 (hr.mono (by first | decide | omega)) (by rfl) T.f__law_dice.g T.f__law_dice.k F__law_dice.2.1 (sa_cons (so_at 3 (pv 3)) (sa_nil)))))))
theorem ok__law_number (T : Txt C mg base fa ca pa) : OkF P w C mg base 5 (fa 22) ["dice"] 1 m__law_number := by
  obtain ⟨fd__law_roll, F__law_roll⟩ := ok__law_roll (P := P) (w := w) (base := base) T
  refine FnT.ok (N := ["dice"]) (ps := ["dice"]) (body := b__law_number) T.f__law_number sc__law_number (fun cdv A outer s H vs E hl hr => ?_)
  have sc := sc__law_number
  exact ss_one (ss_ret (se_ix ix_seq o2_ix (so_val (se_lst (sa_cons (so_val (se_call [0] F__law_roll.1 (hr.mono (by first | decide | omega)) (by rfl) T.f__law_roll.g T.f__law_roll.k F__law_roll.2.1 (sa_cons (so_at 0 (pv 0)) (sa_cons (so_val (se_int)) (sa_nil))))) (sa_cons (so_val (se_call [0] F__law_roll.1 (hr.mono (by first | decide | omega)) (by rfl) T.f__law_roll.g T.f__law_roll.k F__law_roll.2.1 (sa_cons (so_at 0 (pv 0)) (sa_cons (so_val (se_int)) (sa_nil))))) (sa_cons (so_val (se_call [0] F__law_roll.1 (hr.mono (by first | decide | omega)) (by rfl) T.f__law_roll.g T.f__law_roll.k F__law_roll.2.1 (sa_cons (so_at 0 (pv 0)) (sa_cons (so_val (se_int)) (sa_nil))))) (sa_cons (so_val (se_call [0] F__law_roll.1 (hr.mono (by first | decide | omega)) (by rfl) T.f__law_roll.g T.f__law_roll.k F__law_roll.2.1 (sa_cons (so_at 0 (pv 0)) (sa_cons (so_val (se_op2 op_pow o2_pow (so_val (se_int)) (so_val (se_int)))) (sa_nil))))) (sa_nil))))))) (so_val (se_call [0] F__law_roll.1 (hr.mono (by first | decide | omega)) (by rfl) T.f__law_roll.g T.f__law_roll.k F__law_roll.2.1 (sa_cons (so_at 0 (pv 0)) (sa_cons (so_val (se_int)) (sa_nil))))) (fun _ _ => rfl)))
theorem ok__law_sevenN (T : Txt C mg base fa ca pa) : ∀ n : Nat, OkF P w C mg base (n + 0) (fa 23) ["number"] 1 (m__law_sevenN n)
  | 0 => FnT.bad T.f__law_seven
  | n + 1 => by
    obtain ⟨fd_r, Fr⟩ := ok__law_sevenN T n
    rw [show n + 1 + 0 = (n + 0) + 1 by omega]
    refine FnT.ok (N := ["number"]) (ps := ["number"]) (body := b__law_seven (m__law_sevenN n)) T.f__law_seven sc__law_seven (fun cdv A outer s H vs E hl hr => ?_)
    have sc := sc__law_seven
    exact ss_one (ss_ret (se_if (st_cmp op_lt o2_lt (so_at 0 (pv 0)) (so_val (se_int)) (nomark _)) (se_lst (sa_cons (so_val (se_fz 0 (pv 0))) (sa_nil))) (se_op2 op_addA o2_add (so_val (se_lst (sa_cons (so_val (se_op2 op_addA o2_add (so_val (se_op2 op_mod o2_mod (so_at 0 (pv 0)) (so_val (se_int)))) (so_val (se_int)))) (sa_nil)))) (so_val (se_call [] Fr.1 (hr.mono (by first | decide | omega)) (by rfl) T.f__law_seven.g T.f__law_seven.k Fr.2.1 (sa_cons (so_val (se_op2 op_fdivW o2_div (so_at 0 (pv 0)) (so_val (se_int)))) (sa_nil)))))))
theorem ok__law_seven (T : Txt C mg base fa ca pa) : OkF P w C mg base 12 (fa 23) ["number"] 1 m__law_seven := ok__law_sevenN T 12
theorem ok__law_signedN (T : Txt C mg base fa ca pa) : ∀ n : Nat, OkF P w C mg base (n + 0) (fa 24) ["number"] 1 (m__law_signedN n)
  | 0 => FnT.bad T.f__law_signed
  | n + 1 => by
    obtain ⟨fd_r, Fr⟩ := ok__law_signedN T n
    rw [show n + 1 + 0 = (n + 0) + 1 by omega]
    refine FnT.ok (N := ["number", "low", "left"]) (ps := ["number"]) (body := b__law_signed (m__law_signedN n)) T.f__law_signed sc__law_signed (fun cdv A outer s H vs E hl hr => ?_)
    have sc := sc__law_signed
    exact ss_cons (ss_par2 (sa_cons (so_val (se_op2 op_mod o2_mod (so_at 0 (pv 0)) (so_val (se_int)))) (sa_cons (so_val (se_op2 op_fdivW o2_div (so_at 0 (pv 0)) (so_val (se_int)))) (sa_nil))) (fun h => ps_par (i := 1) (j := 2) rfl sc.nd rfl rfl (by decide) rfl rfl h (by rfl)))
        (ss_one (ss_ret (se_if (st_bool (sw_or (st_bool (sw_and (st_cmp (op_eqA (hu64 hr)) o2_eq (so_at 2 (pv 2)) (so_val (se_int)) (nomark _)) (sw_and1 (st_cmp op_lt o2_lt (so_at 1 (pv 1)) (so_val (se_int)) (nomark _))))) (sw_or1 (st_bool (sw_and (st_cmp (op_eqA (hu64 hr)) o2_eq (so_at 2 (pv 2)) (so_val (se_un un_neg o1_neg (so_val (se_int)))) (nomark _)) (sw_and1 (st_cmp op_gt o2_gt (so_at 1 (pv 1)) (so_val (se_int)) (nomark _)))))))) (se_lst (sa_cons (so_val (se_fz 1 (pv 1))) (sa_nil))) (se_op2 op_addA o2_add (so_val (se_lst (sa_cons (so_val (se_op2 op_addA o2_add (so_at 1 (pv 1)) (so_val (se_int)))) (sa_nil)))) (so_val (se_call [2] Fr.1 (hr.mono (by first | decide | omega)) (by rfl) T.f__law_signed.g T.f__law_signed.k Fr.2.1 (sa_cons (so_at 2 (pv 2)) (sa_nil))))))))
theorem ok__law_signed (T : Txt C mg base fa ca pa) : OkF P w C mg base 12 (fa 24) ["number"] 1 m__law_signed := ok__law_signedN T 12
theorem ok__law_refused (T : Txt C mg base fa ca pa) : OkF P w C mg base 8 (fa 25) [] 0 m__law_refused := by
  obtain ⟨fd_power_of, F_power_of⟩ := ok_power_of (P := P) (w := w) (base := base) T
  obtain ⟨fd_check_bytes, F_check_bytes⟩ := ok_check_bytes (P := P) (w := w) (base := base) T
  obtain ⟨fd_packed, F_packed⟩ := ok_packed (P := P) (w := w) (base := base) T
  obtain ⟨fd_unpacked, F_unpacked⟩ := ok_unpacked (P := P) (w := w) (base := base) T
  obtain ⟨fd_packed_signed, F_packed_signed⟩ := ok_packed_signed (P := P) (w := w) (base := base) T
  obtain ⟨fd_unpacked_signed, F_unpacked_signed⟩ := ok_unpacked_signed (P := P) (w := w) (base := base) T
  obtain ⟨fd_fits_signed, F_fits_signed⟩ := ok_fits_signed (P := P) (w := w) (base := base) T
  obtain ⟨fd_seven, F_seven⟩ := ok_seven (P := P) (w := w) (base := base) T
  obtain ⟨fd_read_seven, F_read_seven⟩ := ok_read_seven (P := P) (w := w) (base := base) T
  obtain ⟨fd_read_seven_signed, F_read_seven_signed⟩ := ok_read_seven_signed (P := P) (w := w) (base := base) T
  obtain ⟨fd_rounded_up, F_rounded_up⟩ := ok_rounded_up (P := P) (w := w) (base := base) T
  obtain ⟨fd_text_print, F_text_print⟩ := ok_text_print (P := P) (w := w) (base := base) T
  obtain ⟨fd_bytes_print, F_bytes_print⟩ := ok_bytes_print (P := P) (w := w) (base := base) T
  obtain ⟨fd_told_hex, F_told_hex⟩ := ok_told_hex (P := P) (w := w) (base := base) T
  obtain ⟨fd_text_bytes, F_text_bytes⟩ := ok_text_bytes (P := P) (w := w) (base := base) T
  obtain ⟨fd_bytes_text, F_bytes_text⟩ := ok_bytes_text (P := P) (w := w) (base := base) T
  refine FnTC.okL (tab := tab__law_refused) (N := ["bad", "k", "f"]) (ps := []) (body := b__law_refused) T.f__law_refused sc__law_refused (fun A outer s H vs E hl hr => ?_)
  have sc := sc__law_refused
  exact ss_cons (ss_lamset (i := 0) (ids := [0, 1, 2, 3, 4]) rfl (pa_lcons (tab := tab__law_refused) ⟨T.l__law_refused.tb, rfl, T.l__law_refused.mem, T.l__law_refused.one, T.l__law_refused.gen⟩ rfl ⟨LamX.lamS_by (sc := defScope s__law_refused) (by decide +kernel), rfl, fun _ _ _ _ _ => rfl⟩ rfl (pa_lcons (tab := tab__law_refused) ⟨T.l__law_refused.tb, rfl, T.l__law_refused.mem, T.l__law_refused.one, T.l__law_refused.gen⟩ rfl ⟨LamX.lamS_by (sc := defScope s__law_refused) (by decide +kernel), rfl, fun _ _ _ _ _ => rfl⟩ rfl (pa_lcons (tab := tab__law_refused) ⟨T.l__law_refused.tb, rfl, T.l__law_refused.mem, T.l__law_refused.one, T.l__law_refused.gen⟩ rfl ⟨LamX.lamS_by (sc := defScope s__law_refused) (by decide +kernel), rfl, fun _ _ _ _ _ => rfl⟩ rfl (pa_lcons (tab := tab__law_refused) ⟨T.l__law_refused.tb, rfl, T.l__law_refused.mem, T.l__law_refused.one, T.l__law_refused.gen⟩ rfl ⟨LamX.lamS_by (sc := defScope s__law_refused) (by decide +kernel), rfl, fun _ _ _ _ _ => rfl⟩ rfl (pa_lcons (tab := tab__law_refused) ⟨T.l__law_refused.tb, rfl, T.l__law_refused.mem, T.l__law_refused.one, T.l__law_refused.gen⟩ rfl ⟨LamX.lamS_by (sc := defScope s__law_refused) (by decide +kernel), rfl, fun _ _ _ _ _ => rfl⟩ rfl (pa_lnil)))))) (fun h => ps_set (i := 0) sc.nd rfl (by first | exact Or.inl rfl | exact Or.inr rfl) h))
        (ss_cons (ss_lamcat (i := 0) (ids := [5, 6, 7, 8, 9]) rfl (pv 0) (pa_lcons (tab := tab__law_refused) ⟨T.l__law_refused.tb, rfl, T.l__law_refused.mem, T.l__law_refused.one, T.l__law_refused.gen⟩ rfl ⟨LamX.lamS_by (sc := defScope s__law_refused) (by decide +kernel), rfl, fun _ _ _ _ _ => rfl⟩ rfl (pa_lcons (tab := tab__law_refused) ⟨T.l__law_refused.tb, rfl, T.l__law_refused.mem, T.l__law_refused.one, T.l__law_refused.gen⟩ rfl ⟨LamX.lamS_by (sc := defScope s__law_refused) (by decide +kernel), rfl, fun _ _ _ _ _ => rfl⟩ rfl (pa_lcons (tab := tab__law_refused) ⟨T.l__law_refused.tb, rfl, T.l__law_refused.mem, T.l__law_refused.one, T.l__law_refused.gen⟩ rfl ⟨LamX.lamS_by (sc := defScope s__law_refused) (by decide +kernel), rfl, fun _ _ _ _ _ => rfl⟩ rfl (pa_lcons (tab := tab__law_refused) ⟨T.l__law_refused.tb, rfl, T.l__law_refused.mem, T.l__law_refused.one, T.l__law_refused.gen⟩ rfl ⟨LamX.lamS_by (sc := defScope s__law_refused) (by decide +kernel), rfl, fun _ _ _ _ _ => rfl⟩ rfl (pa_lcons (tab := tab__law_refused) ⟨T.l__law_refused.tb, rfl, T.l__law_refused.mem, T.l__law_refused.one, T.l__law_refused.gen⟩ rfl ⟨LamX.lamS_by (sc := defScope s__law_refused) (by decide +kernel), rfl, fun _ _ _ _ _ => rfl⟩ rfl (pa_lnil)))))) (fun h => ps_set (i := 0) sc.nd rfl (by first | exact Or.inl rfl | exact Or.inr rfl) h))
        (ss_cons (ss_lamcat (i := 0) (ids := [10, 11, 12, 13, 14]) rfl (pv 0) (pa_lcons (tab := tab__law_refused) ⟨T.l__law_refused.tb, rfl, T.l__law_refused.mem, T.l__law_refused.one, T.l__law_refused.gen⟩ rfl ⟨LamX.lamS_by (sc := defScope s__law_refused) (by decide +kernel), rfl, fun _ _ _ _ _ => rfl⟩ rfl (pa_lcons (tab := tab__law_refused) ⟨T.l__law_refused.tb, rfl, T.l__law_refused.mem, T.l__law_refused.one, T.l__law_refused.gen⟩ rfl ⟨LamX.lamS_by (sc := defScope s__law_refused) (by decide +kernel), rfl, fun _ _ _ _ _ => rfl⟩ rfl (pa_lcons (tab := tab__law_refused) ⟨T.l__law_refused.tb, rfl, T.l__law_refused.mem, T.l__law_refused.one, T.l__law_refused.gen⟩ rfl ⟨LamX.lamS_by (sc := defScope s__law_refused) (by decide +kernel), rfl, fun _ _ _ _ _ => rfl⟩ rfl (pa_lcons (tab := tab__law_refused) ⟨T.l__law_refused.tb, rfl, T.l__law_refused.mem, T.l__law_refused.one, T.l__law_refused.gen⟩ rfl ⟨LamX.lamS_by (sc := defScope s__law_refused) (by decide +kernel), rfl, fun _ _ _ _ _ => rfl⟩ rfl (pa_lcons (tab := tab__law_refused) ⟨T.l__law_refused.tb, rfl, T.l__law_refused.mem, T.l__law_refused.one, T.l__law_refused.gen⟩ rfl ⟨LamX.lamS_by (sc := defScope s__law_refused) (by decide +kernel), rfl, fun _ _ _ _ _ => rfl⟩ rfl (pa_lnil)))))) (fun h => ps_set (i := 0) sc.nd rfl (by first | exact Or.inl rfl | exact Or.inr rfl) h))
        (ss_cons (ss_lamcat (i := 0) (ids := [15, 16, 17, 18, 19]) rfl (pv 0) (pa_lcons (tab := tab__law_refused) ⟨T.l__law_refused.tb, rfl, T.l__law_refused.mem, T.l__law_refused.one, T.l__law_refused.gen⟩ rfl ⟨LamX.lamS_by (sc := defScope s__law_refused) (by decide +kernel), rfl, fun _ _ _ _ _ => rfl⟩ rfl (pa_lcons (tab := tab__law_refused) ⟨T.l__law_refused.tb, rfl, T.l__law_refused.mem, T.l__law_refused.one, T.l__law_refused.gen⟩ rfl ⟨LamX.lamS_by (sc := defScope s__law_refused) (by decide +kernel), rfl, fun _ _ _ _ _ => rfl⟩ rfl (pa_lcons (tab := tab__law_refused) ⟨T.l__law_refused.tb, rfl, T.l__law_refused.mem, T.l__law_refused.one, T.l__law_refused.gen⟩ rfl ⟨LamX.lamS_by (sc := defScope s__law_refused) (by decide +kernel), rfl, fun _ _ _ _ _ => rfl⟩ rfl (pa_lcons (tab := tab__law_refused) ⟨T.l__law_refused.tb, rfl, T.l__law_refused.mem, T.l__law_refused.one, T.l__law_refused.gen⟩ rfl ⟨LamX.lamS_by (sc := defScope s__law_refused) (by decide +kernel), rfl, fun _ _ _ _ _ => rfl⟩ rfl (pa_lcons (tab := tab__law_refused) ⟨T.l__law_refused.tb, rfl, T.l__law_refused.mem, T.l__law_refused.one, T.l__law_refused.gen⟩ rfl ⟨LamX.lamS_by (sc := defScope s__law_refused) (by decide +kernel), rfl, fun _ _ _ _ _ => rfl⟩ rfl (pa_lnil)))))) (fun h => ps_set (i := 0) sc.nd rfl (by first | exact Or.inl rfl | exact Or.inr rfl) h))
        (ss_cons (ss_lamcat (i := 0) (ids := [20, 21, 22, 23, 24]) rfl (pv 0) (pa_lcons (tab := tab__law_refused) ⟨T.l__law_refused.tb, rfl, T.l__law_refused.mem, T.l__law_refused.one, T.l__law_refused.gen⟩ rfl ⟨LamX.lamS_by (sc := defScope s__law_refused) (by decide +kernel), rfl, fun _ _ _ _ _ => rfl⟩ rfl (pa_lcons (tab := tab__law_refused) ⟨T.l__law_refused.tb, rfl, T.l__law_refused.mem, T.l__law_refused.one, T.l__law_refused.gen⟩ rfl ⟨LamX.lamS_by (sc := defScope s__law_refused) (by decide +kernel), rfl, fun _ _ _ _ _ => rfl⟩ rfl (pa_lcons (tab := tab__law_refused) ⟨T.l__law_refused.tb, rfl, T.l__law_refused.mem, T.l__law_refused.one, T.l__law_refused.gen⟩ rfl ⟨LamX.lamS_by (sc := defScope s__law_refused) (by decide +kernel), rfl, fun _ _ _ _ _ => rfl⟩ rfl (pa_lcons (tab := tab__law_refused) ⟨T.l__law_refused.tb, rfl, T.l__law_refused.mem, T.l__law_refused.one, T.l__law_refused.gen⟩ rfl ⟨LamX.lamS_by (sc := defScope s__law_refused) (by decide +kernel), rfl, fun _ _ _ _ _ => rfl⟩ rfl (pa_lcons (tab := tab__law_refused) ⟨T.l__law_refused.tb, rfl, T.l__law_refused.mem, T.l__law_refused.one, T.l__law_refused.gen⟩ rfl ⟨LamX.lamS_by (sc := defScope s__law_refused) (by decide +kernel), rfl, fun _ _ _ _ _ => rfl⟩ rfl (pa_lnil)))))) (fun h => ps_set (i := 0) sc.nd rfl (by first | exact Or.inl rfl | exact Or.inr rfl) h))
        (ss_cons (ss_lamcat (i := 0) (ids := [25, 26, 27, 28, 29]) rfl (pv 0) (pa_lcons (tab := tab__law_refused) ⟨T.l__law_refused.tb, rfl, T.l__law_refused.mem, T.l__law_refused.one, T.l__law_refused.gen⟩ rfl ⟨LamX.lamS_by (sc := defScope s__law_refused) (by decide +kernel), rfl, fun _ _ _ _ _ => rfl⟩ rfl (pa_lcons (tab := tab__law_refused) ⟨T.l__law_refused.tb, rfl, T.l__law_refused.mem, T.l__law_refused.one, T.l__law_refused.gen⟩ rfl ⟨LamX.lamS_by (sc := defScope s__law_refused) (by decide +kernel), rfl, fun _ _ _ _ _ => rfl⟩ rfl (pa_lcons (tab := tab__law_refused) ⟨T.l__law_refused.tb, rfl, T.l__law_refused.mem, T.l__law_refused.one, T.l__law_refused.gen⟩ rfl ⟨LamX.lamS_by (sc := defScope s__law_refused) (by decide +kernel), rfl, fun _ _ _ _ _ => rfl⟩ rfl (pa_lcons (tab := tab__law_refused) ⟨T.l__law_refused.tb, rfl, T.l__law_refused.mem, T.l__law_refused.one, T.l__law_refused.gen⟩ rfl ⟨LamX.lamS_by (sc := defScope s__law_refused) (by decide +kernel), rfl, fun _ _ _ _ _ => rfl⟩ rfl (pa_lcons (tab := tab__law_refused) ⟨T.l__law_refused.tb, rfl, T.l__law_refused.mem, T.l__law_refused.one, T.l__law_refused.gen⟩ rfl ⟨LamX.lamS_by (sc := defScope s__law_refused) (by decide +kernel), rfl, fun _ _ _ _ _ => rfl⟩ rfl (pa_lnil)))))) (fun h => ps_set (i := 0) sc.nd rfl (by first | exact Or.inl rfl | exact Or.inr rfl) h))
        (ss_cons (ss_lamcat (i := 0) (ids := [30, 31, 32, 33, 34, 35]) rfl (pv 0) (pa_lcons (tab := tab__law_refused) ⟨T.l__law_refused.tb, rfl, T.l__law_refused.mem, T.l__law_refused.one, T.l__law_refused.gen⟩ rfl ⟨LamX.lamS_by (sc := defScope s__law_refused) (by decide +kernel), rfl, fun _ _ _ _ _ => rfl⟩ rfl (pa_lcons (tab := tab__law_refused) ⟨T.l__law_refused.tb, rfl, T.l__law_refused.mem, T.l__law_refused.one, T.l__law_refused.gen⟩ rfl ⟨LamX.lamS_by (sc := defScope s__law_refused) (by decide +kernel), rfl, fun _ _ _ _ _ => rfl⟩ rfl (pa_lcons (tab := tab__law_refused) ⟨T.l__law_refused.tb, rfl, T.l__law_refused.mem, T.l__law_refused.one, T.l__law_refused.gen⟩ rfl ⟨LamX.lamS_by (sc := defScope s__law_refused) (by decide +kernel), rfl, fun _ _ _ _ _ => rfl⟩ rfl (pa_lcons (tab := tab__law_refused) ⟨T.l__law_refused.tb, rfl, T.l__law_refused.mem, T.l__law_refused.one, T.l__law_refused.gen⟩ rfl ⟨LamX.lamS_by (sc := defScope s__law_refused) (by decide +kernel), rfl, fun _ _ _ _ _ => rfl⟩ rfl (pa_lcons (tab := tab__law_refused) ⟨T.l__law_refused.tb, rfl, T.l__law_refused.mem, T.l__law_refused.one, T.l__law_refused.gen⟩ rfl ⟨LamX.lamS_by (sc := defScope s__law_refused) (by decide +kernel), rfl, fun _ _ _ _ _ => rfl⟩ rfl (pa_lcons (tab := tab__law_refused) ⟨T.l__law_refused.tb, rfl, T.l__law_refused.mem, T.l__law_refused.one, T.l__law_refused.gen⟩ rfl ⟨LamX.lamS_by (sc := defScope s__law_refused) (by decide +kernel), rfl, fun _ _ _ _ _ => rfl⟩ rfl (pa_lnil))))))) (fun h => ps_set (i := 0) sc.nd rfl (by first | exact Or.inl rfl | exact Or.inr rfl) h))
        (ss_one (ss_ret (se_cmp (op_eqA (hu64 hr)) o2_eq (so_val (se_refs (k := 5) (tab := tab__law_refused) (own := [("k", 1), ("f", 2)]) (i := 0) (ki := 1) (fi := 2) (fes := fes__law_refused) rfl sc.nd rfl T.t__law_told rfl (hr.mono (by first | decide | omega)) (.cons ⟨LamX.lamS_by (sc := defScope s__law_refused) (by decide +kernel), fun _ _ _ _ _ => rfl, ⟨_, fun _ _ _ _ _ _ _ hr => se_call [] F_power_of.1 (hr.mono (by first | decide | omega)) (by rfl) T.f_power_of.g T.f_power_of.k F_power_of.2.1 (sa_cons (so_val (se_un un_neg o1_neg (so_val (se_int)))) (sa_nil))⟩⟩
      (.cons ⟨LamX.lamS_by (sc := defScope s__law_refused) (by decide +kernel), fun _ _ _ _ _ => rfl, ⟨_, fun _ _ _ _ _ _ _ hr => se_call [] F_power_of.1 (hr.mono (by first | decide | omega)) (by rfl) T.f_power_of.g T.f_power_of.k F_power_of.2.1 (sa_cons (so_val (se_int)) (sa_nil))⟩⟩
      (.cons ⟨LamX.lamS_by (sc := defScope s__law_refused) (by decide +kernel), fun _ _ _ _ _ => rfl, ⟨_, fun _ _ _ _ _ _ _ hr => se_call [] F_check_bytes.1 (hr.mono (by first | decide | omega)) (by rfl) T.f_check_bytes.g T.f_check_bytes.k F_check_bytes.2.1 (sa_cons (so_val (se_tup (sa_cons (so_val (se_int)) (sa_nil)))) (sa_nil))⟩⟩
      (.cons ⟨LamX.lamS_by (sc := defScope s__law_refused) (by decide +kernel), fun _ _ _ _ _ => rfl, ⟨_, fun _ _ _ _ _ _ _ hr => se_call [] F_check_bytes.1 (hr.mono (by first | decide | omega)) (by rfl) T.f_check_bytes.g T.f_check_bytes.k F_check_bytes.2.1 (sa_cons (so_val (se_tup (sa_cons (so_val (se_un un_neg o1_neg (so_val (se_int)))) (sa_nil)))) (sa_nil))⟩⟩
      (.cons ⟨LamX.lamS_by (sc := defScope s__law_refused) (by decide +kernel), fun _ _ _ _ _ => rfl, ⟨_, fun _ _ _ _ _ _ _ hr => se_call [] F_packed.1 (hr.mono (by first | decide | omega)) (by rfl) T.f_packed.g T.f_packed.k F_packed.2.1 (sa_cons (so_val (se_int)) (sa_cons (so_val (se_int)) (sa_nil)))⟩⟩
      (.cons ⟨LamX.lamS_by (sc := defScope s__law_refused) (by decide +kernel), fun _ _ _ _ _ => rfl, ⟨_, fun _ _ _ _ _ _ _ hr => se_call [] F_packed.1 (hr.mono (by first | decide | omega)) (by rfl) T.f_packed.g T.f_packed.k F_packed.2.1 (sa_cons (so_val (se_un un_neg o1_neg (so_val (se_int)))) (sa_cons (so_val (se_int)) (sa_nil)))⟩⟩
      (.cons ⟨LamX.lamS_by (sc := defScope s__law_refused) (by decide +kernel), fun _ _ _ _ _ => rfl, ⟨_, fun _ _ _ _ _ _ _ hr => se_call [] F_packed.1 (hr.mono (by first | decide | omega)) (by rfl) T.f_packed.g T.f_packed.k F_packed.2.1 (sa_cons (so_val (se_int)) (sa_cons (so_val (se_int)) (sa_nil)))⟩⟩
      (.cons ⟨LamX.lamS_by (sc := defScope s__law_refused) (by decide +kernel), fun _ _ _ _ _ => rfl, ⟨_, fun _ _ _ _ _ _ _ hr => se_call [] F_packed.1 (hr.mono (by first | decide | omega)) (by rfl) T.f_packed.g T.f_packed.k F_packed.2.1 (sa_cons (so_val (se_int)) (sa_cons (so_val (se_int)) (sa_nil)))⟩⟩
      (.cons ⟨LamX.lamS_by (sc := defScope s__law_refused) (by decide +kernel), fun _ _ _ _ _ => rfl, ⟨_, fun _ _ _ _ _ _ _ hr => se_call [] F_unpacked.1 (hr.mono (by first | decide | omega)) (by rfl) T.f_unpacked.g T.f_unpacked.k F_unpacked.2.1 (sa_cons (so_val (se_tup (sa_cons (so_val (se_int)) (sa_nil)))) (sa_cons (so_val (se_int)) (sa_cons (so_val (se_int)) (sa_nil))))⟩⟩
      (.cons ⟨LamX.lamS_by (sc := defScope s__law_refused) (by decide +kernel), fun _ _ _ _ _ => rfl, ⟨_, fun _ _ _ _ _ _ _ hr => se_call [] F_unpacked.1 (hr.mono (by first | decide | omega)) (by rfl) T.f_unpacked.g T.f_unpacked.k F_unpacked.2.1 (sa_cons (so_val (se_tup (sa_cons (so_val (se_int)) (sa_nil)))) (sa_cons (so_val (se_un un_neg o1_neg (so_val (se_int)))) (sa_cons (so_val (se_int)) (sa_nil))))⟩⟩
      (.cons ⟨LamX.lamS_by (sc := defScope s__law_refused) (by decide +kernel), fun _ _ _ _ _ => rfl, ⟨_, fun _ _ _ _ _ _ _ hr => se_call [] F_unpacked.1 (hr.mono (by first | decide | omega)) (by rfl) T.f_unpacked.g T.f_unpacked.k F_unpacked.2.1 (sa_cons (so_val (se_tup (sa_cons (so_val (se_int)) (sa_nil)))) (sa_cons (so_val (se_int)) (sa_cons (so_val (se_int)) (sa_nil))))⟩⟩
      (.cons ⟨LamX.lamS_by (sc := defScope s__law_refused) (by decide +kernel), fun _ _ _ _ _ => rfl, ⟨_, fun _ _ _ _ _ _ _ hr => se_call [] F_packed_signed.1 (hr.mono (by first | decide | omega)) (by rfl) T.f_packed_signed.g T.f_packed_signed.k F_packed_signed.2.1 (sa_cons (so_val (se_int)) (sa_cons (so_val (se_int)) (sa_nil)))⟩⟩
      (.cons ⟨LamX.lamS_by (sc := defScope s__law_refused) (by decide +kernel), fun _ _ _ _ _ => rfl, ⟨_, fun _ _ _ _ _ _ _ hr => se_call [] F_packed_signed.1 (hr.mono (by first | decide | omega)) (by rfl) T.f_packed_signed.g T.f_packed_signed.k F_packed_signed.2.1 (sa_cons (so_val (se_un un_neg o1_neg (so_val (se_int)))) (sa_cons (so_val (se_int)) (sa_nil)))⟩⟩
      (.cons ⟨LamX.lamS_by (sc := defScope s__law_refused) (by decide +kernel), fun _ _ _ _ _ => rfl, ⟨_, fun _ _ _ _ _ _ _ hr => se_call [] F_packed_signed.1 (hr.mono (by first | decide | omega)) (by rfl) T.f_packed_signed.g T.f_packed_signed.k F_packed_signed.2.1 (sa_cons (so_val (se_int)) (sa_cons (so_val (se_int)) (sa_nil)))⟩⟩
      (.cons ⟨LamX.lamS_by (sc := defScope s__law_refused) (by decide +kernel), fun _ _ _ _ _ => rfl, ⟨_, fun _ _ _ _ _ _ _ hr => se_call [] F_unpacked_signed.1 (hr.mono (by first | decide | omega)) (by rfl) T.f_unpacked_signed.g T.f_unpacked_signed.k F_unpacked_signed.2.1 (sa_cons (so_val (se_tup (sa_cons (so_val (se_int)) (sa_nil)))) (sa_cons (so_val (se_int)) (sa_cons (so_val (se_int)) (sa_nil))))⟩⟩
      (.cons ⟨LamX.lamS_by (sc := defScope s__law_refused) (by decide +kernel), fun _ _ _ _ _ => rfl, ⟨_, fun _ _ _ _ _ _ _ hr => se_call [] F_fits_signed.1 (hr.mono (by first | decide | omega)) (by rfl) T.f_fits_signed.g T.f_fits_signed.k F_fits_signed.2.1 (sa_cons (so_val (se_int)) (sa_cons (so_val (se_int)) (sa_nil)))⟩⟩
      (.cons ⟨LamX.lamS_by (sc := defScope s__law_refused) (by decide +kernel), fun _ _ _ _ _ => rfl, ⟨_, fun _ _ _ _ _ _ _ hr => se_call [] F_seven.1 (hr.mono (by first | decide | omega)) (by rfl) T.f_seven.g T.f_seven.k F_seven.2.1 (sa_cons (so_val (se_un un_neg o1_neg (so_val (se_int)))) (sa_nil))⟩⟩
      (.cons ⟨LamX.lamS_by (sc := defScope s__law_refused) (by decide +kernel), fun _ _ _ _ _ => rfl, ⟨_, fun _ _ _ _ _ _ _ hr => se_call [] F_read_seven.1 (hr.mono (by first | decide | omega)) (by rfl) T.f_read_seven.g T.f_read_seven.k F_read_seven.2.1 (sa_cons (so_val (se_tup (sa_nil))) (sa_cons (so_val (se_int)) (sa_nil)))⟩⟩
      (.cons ⟨LamX.lamS_by (sc := defScope s__law_refused) (by decide +kernel), fun _ _ _ _ _ => rfl, ⟨_, fun _ _ _ _ _ _ _ hr => se_call [] F_read_seven.1 (hr.mono (by first | decide | omega)) (by rfl) T.f_read_seven.g T.f_read_seven.k F_read_seven.2.1 (sa_cons (so_val (se_tup (sa_cons (so_val (se_int)) (sa_nil)))) (sa_cons (so_val (se_int)) (sa_nil)))⟩⟩
      (.cons ⟨LamX.lamS_by (sc := defScope s__law_refused) (by decide +kernel), fun _ _ _ _ _ => rfl, ⟨_, fun _ _ _ _ _ _ _ hr => se_call [] F_read_seven.1 (hr.mono (by first | decide | omega)) (by rfl) T.f_read_seven.g T.f_read_seven.k F_read_seven.2.1 (sa_cons (so_val (se_tup (sa_cons (so_val (se_int)) (sa_nil)))) (sa_cons (so_val (se_int)) (sa_nil)))⟩⟩
      (.cons ⟨LamX.lamS_by (sc := defScope s__law_refused) (by decide +kernel), fun _ _ _ _ _ => rfl, ⟨_, fun _ _ _ _ _ _ _ hr => se_call [] F_read_seven.1 (hr.mono (by first | decide | omega)) (by rfl) T.f_read_seven.g T.f_read_seven.k F_read_seven.2.1 (sa_cons (so_val (se_op2 op_mulAll o2_mul (so_val (se_tup (sa_cons (so_val (se_int)) (sa_nil)))) (so_val (se_int)))) (sa_cons (so_val (se_int)) (sa_nil)))⟩⟩
      (.cons ⟨LamX.lamS_by (sc := defScope s__law_refused) (by decide +kernel), fun _ _ _ _ _ => rfl, ⟨_, fun _ _ _ _ _ _ _ hr => se_call [] F_read_seven.1 (hr.mono (by first | decide | omega)) (by rfl) T.f_read_seven.g T.f_read_seven.k F_read_seven.2.1 (sa_cons (so_val (se_tup (sa_cons (so_val (se_int)) (sa_nil)))) (sa_cons (so_val (se_un un_neg o1_neg (so_val (se_int)))) (sa_nil)))⟩⟩
      (.cons ⟨LamX.lamS_by (sc := defScope s__law_refused) (by decide +kernel), fun _ _ _ _ _ => rfl, ⟨_, fun _ _ _ _ _ _ _ hr => se_call [] F_read_seven_signed.1 (hr.mono (by first | decide | omega)) (by rfl) T.f_read_seven_signed.g T.f_read_seven_signed.k F_read_seven_signed.2.1 (sa_cons (so_val (se_tup (sa_cons (so_val (se_int)) (sa_nil)))) (sa_cons (so_val (se_int)) (sa_nil)))⟩⟩
      (.cons ⟨LamX.lamS_by (sc := defScope s__law_refused) (by decide +kernel), fun _ _ _ _ _ => rfl, ⟨_, fun _ _ _ _ _ _ _ hr => se_call [] F_rounded_up.1 (hr.mono (by first | decide | omega)) (by rfl) T.f_rounded_up.g T.f_rounded_up.k F_rounded_up.2.1 (sa_cons (so_val (se_int)) (sa_cons (so_val (se_int)) (sa_nil)))⟩⟩
      (.cons ⟨LamX.lamS_by (sc := defScope s__law_refused) (by decide +kernel), fun _ _ _ _ _ => rfl, ⟨_, fun _ _ _ _ _ _ _ hr => se_call [] F_rounded_up.1 (hr.mono (by first | decide | omega)) (by rfl) T.f_rounded_up.g T.f_rounded_up.k F_rounded_up.2.1 (sa_cons (so_val (se_un un_neg o1_neg (so_val (se_int)))) (sa_cons (so_val (se_int)) (sa_nil)))⟩⟩
      (.cons ⟨LamX.lamS_by (sc := defScope s__law_refused) (by decide +kernel), fun _ _ _ _ _ => rfl, ⟨_, fun _ _ _ _ _ _ _ hr => se_call [] F_text_print.1 (hr.mono (by first | decide | omega)) (by rfl) T.f_text_print.g T.f_text_print.k F_text_print.2.1 (sa_cons (so_val (se_str (by rfl))) (sa_nil))⟩⟩
      (.cons ⟨LamX.lamS_by (sc := defScope s__law_refused) (by decide +kernel), fun _ _ _ _ _ => rfl, ⟨_, fun _ _ _ _ _ _ _ hr => se_call [] F_text_print.1 (hr.mono (by first | decide | omega)) (by rfl) T.f_text_print.g T.f_text_print.k F_text_print.2.1 (sa_cons (so_val (se_str (by rfl))) (sa_nil))⟩⟩
      (.cons ⟨LamX.lamS_by (sc := defScope s__law_refused) (by decide +kernel), fun _ _ _ _ _ => rfl, ⟨_, fun _ _ _ _ _ _ _ hr => se_call [] F_bytes_print.1 (hr.mono (by first | decide | omega)) (by rfl) T.f_bytes_print.g T.f_bytes_print.k F_bytes_print.2.1 (sa_cons (so_val (se_tup (sa_cons (so_val (se_int)) (sa_nil)))) (sa_nil))⟩⟩
      (.cons ⟨LamX.lamS_by (sc := defScope s__law_refused) (by decide +kernel), fun _ _ _ _ _ => rfl, ⟨_, fun _ _ _ _ _ _ _ hr => se_call [] F_told_hex.1 (hr.mono (by first | decide | omega)) (by rfl) T.f_told_hex.g T.f_told_hex.k F_told_hex.2.1 (sa_cons (so_val (se_int)) (sa_cons (so_val (se_int)) (sa_nil)))⟩⟩
      (.cons ⟨LamX.lamS_by (sc := defScope s__law_refused) (by decide +kernel), fun _ _ _ _ _ => rfl, ⟨_, fun _ _ _ _ _ _ _ hr => se_call [] F_told_hex.1 (hr.mono (by first | decide | omega)) (by rfl) T.f_told_hex.g T.f_told_hex.k F_told_hex.2.1 (sa_cons (so_val (se_int)) (sa_cons (so_val (se_int)) (sa_nil)))⟩⟩
      (.cons ⟨LamX.lamS_by (sc := defScope s__law_refused) (by decide +kernel), fun _ _ _ _ _ => rfl, ⟨_, fun _ _ _ _ _ _ _ hr => se_call [] F_told_hex.1 (hr.mono (by first | decide | omega)) (by rfl) T.f_told_hex.g T.f_told_hex.k F_told_hex.2.1 (sa_cons (so_val (se_int)) (sa_cons (so_val (se_int)) (sa_nil)))⟩⟩
      (.cons ⟨LamX.lamS_by (sc := defScope s__law_refused) (by decide +kernel), fun _ _ _ _ _ => rfl, ⟨_, fun _ _ _ _ _ _ _ hr => se_call [] F_told_hex.1 (hr.mono (by first | decide | omega)) (by rfl) T.f_told_hex.g T.f_told_hex.k F_told_hex.2.1 (sa_cons (so_val (se_un un_neg o1_neg (so_val (se_int)))) (sa_cons (so_val (se_int)) (sa_nil)))⟩⟩
      (.cons ⟨LamX.lamS_by (sc := defScope s__law_refused) (by decide +kernel), fun _ _ _ _ _ => rfl, ⟨_, fun _ _ _ _ _ _ _ hr => se_call [] F_text_bytes.1 (hr.mono (by first | decide | omega)) (by rfl) T.f_text_bytes.g T.f_text_bytes.k F_text_bytes.2.1 (sa_cons (so_val (se_str (by rfl))) (sa_nil))⟩⟩
      (.cons ⟨LamX.lamS_by (sc := defScope s__law_refused) (by decide +kernel), fun _ _ _ _ _ => rfl, ⟨_, fun _ _ _ _ _ _ _ hr => se_call [] F_bytes_text.1 (hr.mono (by first | decide | omega)) (by rfl) T.f_bytes_text.g T.f_bytes_text.k F_bytes_text.2.1 (sa_cons (so_val (se_tup (sa_cons (so_val (se_int)) (sa_nil)))) (sa_nil))⟩⟩
      (.cons ⟨LamX.lamS_by (sc := defScope s__law_refused) (by decide +kernel), fun _ _ _ _ _ => rfl, ⟨_, fun _ _ _ _ _ _ _ hr => se_call [] F_bytes_text.1 (hr.mono (by first | decide | omega)) (by rfl) T.f_bytes_text.g T.f_bytes_text.k F_bytes_text.2.1 (sa_cons (so_val (se_tup (sa_cons (so_val (se_int)) (sa_nil)))) (sa_nil))⟩⟩
      (.cons ⟨LamX.lamS_by (sc := defScope s__law_refused) (by decide +kernel), fun _ _ _ _ _ => rfl, ⟨_, fun _ _ _ _ _ _ _ hr => se_call [] F_bytes_text.1 (hr.mono (by first | decide | omega)) (by rfl) T.f_bytes_text.g T.f_bytes_text.k F_bytes_text.2.1 (sa_cons (so_val (se_tup (sa_cons (so_val (se_int)) (sa_nil)))) (sa_nil))⟩⟩
      (.nil))))))))))))))))))))))))))))))))))))) (by rfl) T.b_enumerate (pv 0) (blkOk_by (N := ["bad", "k", "f"]) (sc := defScope s__law_refused) (by decide +kernel)) (fun _ _ _ _ _ => pg_tup rfl (pgs_cons (pg_name (i := 1) sc.nd rfl (by first | exact Or.inl rfl | exact Or.inr rfl)) (pgs_cons (pg_name (i := 2) sc.nd rfl (by first | exact Or.inl rfl | exact Or.inr rfl)) pgs_nil))) (fun _ _ _ _ _ => pv 2) (fun _ _ _ _ _ => by rfl) (by decide) (by decide) (by decide) (by show 2 < (["bad", "k", "f"] : List Str).length; decide) (by intro _; rfl))) (so_val (se_lst (sa_nil))) (nomark _))))))))))
end
end K01

set_option Elab.async false
set_option linter.all false
set_option maxRecDepth 100000
set_option maxHeartbeats 4000000
namespace K01
open PySem PySem.Spec L2 Pv
section
variable {P : Program} {w : World} {C : Cb} {mg : Str → Option Value} {base : Heap} {fa ca pa : Nat → Addr}
theorem ok__law_plain (T : Txt C mg base fa ca pa) : OkF P w C mg base 9 (fa 26) [] 0 m__law_plain := by
  obtain ⟨fd_power_of, F_power_of⟩ := ok_power_of (P := P) (w := w) (base := base) T
  obtain ⟨fd_check_bytes, F_check_bytes⟩ := ok_check_bytes (P := P) (w := w) (base := base) T
  obtain ⟨fd_packed, F_packed⟩ := ok_packed (P := P) (w := w) (base := base) T
  obtain ⟨fd_unpacked, F_unpacked⟩ := ok_unpacked (P := P) (w := w) (base := base) T
  obtain ⟨fd_packed_signed, F_packed_signed⟩ := ok_packed_signed (P := P) (w := w) (base := base) T
  obtain ⟨fd_unpacked_signed, F_unpacked_signed⟩ := ok_unpacked_signed (P := P) (w := w) (base := base) T
  obtain ⟨fd_fits_signed, F_fits_signed⟩ := ok_fits_signed (P := P) (w := w) (base := base) T
  obtain ⟨fd_seven, F_seven⟩ := ok_seven (P := P) (w := w) (base := base) T
  obtain ⟨fd_read_seven, F_read_seven⟩ := ok_read_seven (P := P) (w := w) (base := base) T
  obtain ⟨fd_seven_signed, F_seven_signed⟩ := ok_seven_signed (P := P) (w := w) (base := base) T
  obtain ⟨fd_read_seven_signed, F_read_seven_signed⟩ := ok_read_seven_signed (P := P) (w := w) (base := base) T
  obtain ⟨fd_rounded_up, F_rounded_up⟩ := ok_rounded_up (P := P) (w := w) (base := base) T
  obtain ⟨fd_is_power, F_is_power⟩ := ok_is_power (P := P) (w := w) (base := base) T
  obtain ⟨fd_text_print, F_text_print⟩ := ok_text_print (P := P) (w := w) (base := base) T
  obtain ⟨fd_bytes_print, F_bytes_print⟩ := ok_bytes_print (P := P) (w := w) (base := base) T
  obtain ⟨fd_told_hex, F_told_hex⟩ := ok_told_hex (P := P) (w := w) (base := base) T
  obtain ⟨fd_text_bytes, F_text_bytes⟩ := ok_text_bytes (P := P) (w := w) (base := base) T
  obtain ⟨fd_bytes_text, F_bytes_text⟩ := ok_bytes_text (P := P) (w := w) (base := base) T
  obtain ⟨fd_sign_of, F_sign_of⟩ := ok_sign_of (P := P) (w := w) (base := base) T
  obtain ⟨fd__law_refused, F__law_refused⟩ := ok__law_refused (P := P) (w := w) (base := base) T
  refine FnT.ok (N := ["told", "sign", "number"]) (ps := []) (body := b__law_plain) T.f__law_plain sc__law_plain (fun cdv A outer s H vs E hl hr => ?_)
  have sc := sc__law_plain
  exact ss_cons (ss_set (se_lst (sa_cons (so_val (se_call [] F_power_of.1 (hr.mono (by first | decide | omega)) (by rfl) T.f_power_of.g T.f_power_of.k F_power_of.2.1 (sa_cons (so_val (se_int)) (sa_nil)))) (sa_cons (so_val (se_call [] F_power_of.1 (hr.mono (by first | decide | omega)) (by rfl) T.f_power_of.g T.f_power_of.k F_power_of.2.1 (sa_cons (so_val (se_int)) (sa_nil)))) (sa_cons (so_val (se_call [] F_check_bytes.1 (hr.mono (by first | decide | omega)) (by rfl) T.f_check_bytes.g T.f_check_bytes.k F_check_bytes.2.1 (sa_cons (so_val (se_tup (sa_cons (so_val (se_int)) (sa_cons (so_val (se_int)) (sa_nil))))) (sa_nil)))) (sa_cons (so_val (se_call [] F_packed.1 (hr.mono (by first | decide | omega)) (by rfl) T.f_packed.g T.f_packed.k F_packed.2.1 (sa_cons (so_val (se_int)) (sa_cons (so_val (se_int)) (sa_nil))))) (sa_cons (so_val (se_call [] F_unpacked.1 (hr.mono (by first | decide | omega)) (by rfl) T.f_unpacked.g T.f_unpacked.k F_unpacked.2.1 (sa_cons (so_val (se_tup (sa_cons (so_val (se_int)) (sa_cons (so_val (se_int)) (sa_cons (so_val (se_int)) (sa_cons (so_val (se_int)) (sa_nil))))))) (sa_cons (so_val (se_int)) (sa_cons (so_val (se_int)) (sa_nil)))))) (sa_cons (so_val (se_call [] F_packed_signed.1 (hr.mono (by first | decide | omega)) (by rfl) T.f_packed_signed.g T.f_packed_signed.k F_packed_signed.2.1 (sa_cons (so_val (se_un un_neg o1_neg (so_val (se_int)))) (sa_cons (so_val (se_int)) (sa_nil))))) (sa_cons (so_val (se_call [] F_unpacked_signed.1 (hr.mono (by first | decide | omega)) (by rfl) T.f_unpacked_signed.g T.f_unpacked_signed.k F_unpacked_signed.2.1 (sa_cons (so_val (se_tup (sa_cons (so_val (se_int)) (sa_cons (so_val (se_int)) (sa_nil))))) (sa_cons (so_val (se_int)) (sa_cons (so_val (se_int)) (sa_nil)))))) (sa_cons (so_val (se_call [] F_fits_signed.1 (hr.mono (by first | decide | omega)) (by rfl) T.f_fits_signed.g T.f_fits_signed.k F_fits_signed.2.1 (sa_cons (so_val (se_int)) (sa_cons (so_val (se_int)) (sa_nil))))) (sa_nil)))))))))) (fun h => ps_set (i := 0) sc.nd rfl (by first | exact Or.inl rfl | exact Or.inr rfl) h))
        (ss_cons (ss_set (se_op2 op_addA o2_add (so_at 0 (pv 0)) (so_val (se_lst (sa_cons (so_val (se_call [] F_fits_signed.1 (hr.mono (by first | decide | omega)) (by rfl) T.f_fits_signed.g T.f_fits_signed.k F_fits_signed.2.1 (sa_cons (so_val (se_int)) (sa_cons (so_val (se_int)) (sa_nil))))) (sa_cons (so_val (se_call [] F_seven.1 (hr.mono (by first | decide | omega)) (by rfl) T.f_seven.g T.f_seven.k F_seven.2.1 (sa_cons (so_val (se_int)) (sa_nil)))) (sa_cons (so_val (se_call [] F_seven.1 (hr.mono (by first | decide | omega)) (by rfl) T.f_seven.g T.f_seven.k F_seven.2.1 (sa_cons (so_val (se_int)) (sa_nil)))) (sa_cons (so_val (se_call [] F_read_seven.1 (hr.mono (by first | decide | omega)) (by rfl) T.f_read_seven.g T.f_read_seven.k F_read_seven.2.1 (sa_cons (so_val (se_tup (sa_cons (so_val (se_int)) (sa_cons (so_val (se_int)) (sa_cons (so_val (se_int)) (sa_nil)))))) (sa_cons (so_val (se_int)) (sa_nil))))) (sa_cons (so_val (se_call [] F_read_seven.1 (hr.mono (by first | decide | omega)) (by rfl) T.f_read_seven.g T.f_read_seven.k F_read_seven.2.1 (sa_cons (so_val (se_tup (sa_cons (so_val (se_int)) (sa_cons (so_val (se_int)) (sa_nil))))) (sa_cons (so_val (se_int)) (sa_nil))))) (sa_cons (so_val (se_call [] F_seven_signed.1 (hr.mono (by first | decide | omega)) (by rfl) T.f_seven_signed.g T.f_seven_signed.k F_seven_signed.2.1 (sa_cons (so_val (se_un un_neg o1_neg (so_val (se_int)))) (sa_nil)))) (sa_cons (so_val (se_call [] F_seven_signed.1 (hr.mono (by first | decide | omega)) (by rfl) T.f_seven_signed.g T.f_seven_signed.k F_seven_signed.2.1 (sa_cons (so_val (se_int)) (sa_nil)))) (sa_cons (so_val (se_call [] F_seven_signed.1 (hr.mono (by first | decide | omega)) (by rfl) T.f_seven_signed.g T.f_seven_signed.k F_seven_signed.2.1 (sa_cons (so_val (se_un un_neg o1_neg (so_val (se_int)))) (sa_nil)))) (sa_cons (so_val (se_call [] F_seven_signed.1 (hr.mono (by first | decide | omega)) (by rfl) T.f_seven_signed.g T.f_seven_signed.k F_seven_signed.2.1 (sa_cons (so_val (se_int)) (sa_nil)))) (sa_cons (so_val (se_call [] F_read_seven_signed.1 (hr.mono (by first | decide | omega)) (by rfl) T.f_read_seven_signed.g T.f_read_seven_signed.k F_read_seven_signed.2.1 (sa_cons (so_val (se_tup (sa_cons (so_val (se_int)) (sa_nil)))) (sa_cons (so_val (se_int)) (sa_nil))))) (sa_nil)))))))))))))) (fun h => ps_set (i := 0) sc.nd rfl (by first | exact Or.inl rfl | exact Or.inr rfl) h))
        (ss_cons (ss_set (se_op2 op_addA o2_add (so_at 0 (pv 0)) (so_val (se_lst (sa_cons (so_val (se_call [] F_read_seven_signed.1 (hr.mono (by first | decide | omega)) (by rfl) T.f_read_seven_signed.g T.f_read_seven_signed.k F_read_seven_signed.2.1 (sa_cons (so_val (se_tup (sa_cons (so_val (se_int)) (sa_cons (so_val (se_int)) (sa_nil))))) (sa_cons (so_val (se_int)) (sa_nil))))) (sa_cons (so_val (se_call [] F_rounded_up.1 (hr.mono (by first | decide | omega)) (by rfl) T.f_rounded_up.g T.f_rounded_up.k F_rounded_up.2.1 (sa_cons (so_val (se_int)) (sa_cons (so_val (se_int)) (sa_nil))))) (sa_cons (so_val (se_call [] F_rounded_up.1 (hr.mono (by first | decide | omega)) (by rfl) T.f_rounded_up.g T.f_rounded_up.k F_rounded_up.2.1 (sa_cons (so_val (se_int)) (sa_cons (so_val (se_int)) (sa_nil))))) (sa_cons (so_val (se_call [] F_rounded_up.1 (hr.mono (by first | decide | omega)) (by rfl) T.f_rounded_up.g T.f_rounded_up.k F_rounded_up.2.1 (sa_cons (so_val (se_int)) (sa_cons (so_val (se_int)) (sa_nil))))) (sa_cons (so_val (se_call [] F_is_power.1 (hr.mono (by first | decide | omega)) (by rfl) T.f_is_power.g T.f_is_power.k F_is_power.2.1 (sa_cons (so_val (se_int)) (sa_nil)))) (sa_cons (so_val (se_call [] F_is_power.1 (hr.mono (by first | decide | omega)) (by rfl) T.f_is_power.g T.f_is_power.k F_is_power.2.1 (sa_cons (so_val (se_int)) (sa_nil)))) (sa_cons (so_val (se_call [] F_is_power.1 (hr.mono (by first | decide | omega)) (by rfl) T.f_is_power.g T.f_is_power.k F_is_power.2.1 (sa_cons (so_val (se_int)) (sa_nil)))) (sa_cons (so_val (se_call [] F_is_power.1 (hr.mono (by first | decide | omega)) (by rfl) T.f_is_power.g T.f_is_power.k F_is_power.2.1 (sa_cons (so_val (se_int)) (sa_nil)))) (sa_cons (so_val (se_call [] F_text_print.1 (hr.mono (by first | decide | omega)) (by rfl) T.f_text_print.g T.f_text_print.k F_text_print.2.1 (sa_cons (so_val (se_str (by rfl))) (sa_nil)))) (sa_cons (so_val (se_call [] F_text_print.1 (hr.mono (by first | decide | omega)) (by rfl) T.f_text_print.g T.f_text_print.k F_text_print.2.1 (sa_cons (so_val (se_str (by rfl))) (sa_nil)))) (sa_nil)))))))))))))) (fun h => ps_set (i := 0) sc.nd rfl (by first | exact Or.inl rfl | exact Or.inr rfl) h))
        (ss_cons (ss_set (se_op2 op_addA o2_add (so_at 0 (pv 0)) (so_val (se_lst (sa_cons (so_val (se_call [] F_bytes_print.1 (hr.mono (by first | decide | omega)) (by rfl) T.f_bytes_print.g T.f_bytes_print.k F_bytes_print.2.1 (sa_cons (so_val (se_tup (sa_nil))) (sa_nil)))) (sa_cons (so_val (se_call [] F_bytes_print.1 (hr.mono (by first | decide | omega)) (by rfl) T.f_bytes_print.g T.f_bytes_print.k F_bytes_print.2.1 (sa_cons (so_val (se_tup (sa_cons (so_val (se_int)) (sa_cons (so_val (se_int)) (sa_cons (so_val (se_int)) (sa_nil)))))) (sa_nil)))) (sa_cons (so_val (se_call [] F_told_hex.1 (hr.mono (by first | decide | omega)) (by rfl) T.f_told_hex.g T.f_told_hex.k F_told_hex.2.1 (sa_cons (so_val (se_int)) (sa_cons (so_val (se_int)) (sa_nil))))) (sa_cons (so_val (se_call [] F_text_bytes.1 (hr.mono (by first | decide | omega)) (by rfl) T.f_text_bytes.g T.f_text_bytes.k F_text_bytes.2.1 (sa_cons (so_val (se_str (by rfl))) (sa_nil)))) (sa_cons (so_val (se_call [] F_bytes_text.1 (hr.mono (by first | decide | omega)) (by rfl) T.f_bytes_text.g T.f_bytes_text.k F_bytes_text.2.1 (sa_cons (so_val (se_tup (sa_cons (so_val (se_int)) (sa_cons (so_val (se_int)) (sa_nil))))) (sa_nil)))) (sa_cons (so_val (se_call [] F_text_bytes.1 (hr.mono (by first | decide | omega)) (by rfl) T.f_text_bytes.g T.f_text_bytes.k F_text_bytes.2.1 (sa_cons (so_val (se_str (by rfl))) (sa_nil)))) (sa_cons (so_val (se_call [] F_sign_of.1 (hr.mono (by first | decide | omega)) (by rfl) T.f_sign_of.g T.f_sign_of.k F_sign_of.2.1 (sa_cons (so_val (se_int)) (sa_nil)))) (sa_cons (so_val (se_call [] F_sign_of.1 (hr.mono (by first | decide | omega)) (by rfl) T.f_sign_of.g T.f_sign_of.k F_sign_of.2.1 (sa_cons (so_val (se_int)) (sa_nil)))) (sa_cons (so_val (se_call [] F_sign_of.1 (hr.mono (by first | decide | omega)) (by rfl) T.f_sign_of.g T.f_sign_of.k F_sign_of.2.1 (sa_cons (so_val (se_int)) (sa_nil)))) (sa_nil))))))))))))) (fun h => ps_set (i := 0) sc.nd rfl (by first | exact Or.inl rfl | exact Or.inr rfl) h))
        (ss_cons (ss_if (st_bool (sw_or (st_not (st_val (se_call0 F__law_refused.1 (hr.mono (by first | decide | omega)) (by rfl) T.f__law_refused.g T.f__law_refused.k F__law_refused.2.1))) (sw_or (st_cmp (op_neA (hu64 hr)) o2_ne (so_val (T.c_MOST_BYTES.se (by rfl))) (so_val (se_int)) (nomark _)) (sw_or1 (st_cmp (op_neA (hu64 hr)) o2_ne (so_val (se_lc (own := [("sign", 1)]) rfl sc.nd (si_any rfl (T.c_SIGNS.se (by rfl))) (blkOk_by (N := ["told", "sign", "number"]) (sc := defScope s__law_plain) (by decide +kernel)) (fun _ _ _ _ _ => tg_name (pg_name (i := 1) sc.nd rfl (by first | exact Or.inl rfl | exact Or.inr rfl))) (fun _ _ _ _ _ => sts_nil) (fun _ _ _ _ _ => se_callN on_ord (fun W tk => pe_callB call_ord (by rfl) T.b_ord PyProof.Rows.boot_ord ((sa_cons (so_at 1 (pv 1)) (sa_nil)).run W tk))))) (so_val (se_lc (own := [("number", 2)]) rfl sc.nd (si_range2 (sa_cons (so_val (se_int)) (sa_cons (so_val (se_int)) (sa_nil))) (fun h => pi_range2 (by rfl) T.b_range h)) (blkOk_by (N := ["told", "sign", "number"]) (sc := defScope s__law_plain) (by decide +kernel)) (fun _ _ _ _ _ => tg_name (pg_name (i := 2) sc.nd rfl (by first | exact Or.inl rfl | exact Or.inr rfl))) (fun _ _ _ _ _ => sts_one (st_cmp (op_neA (hu64 hr)) o2_ne (so_at 2 (pv 2)) (so_val (se_int)) (nomark _))) (fun _ _ _ _ _ => se_fz 2 (pv 2)))) (nomark _))))))
        (ss_one (ss_ret (se_bl)))
        (ss_nil))
        (ss_one (ss_ret (se_cmp (op_eqA (hu64 hr)) o2_eq (so_at 0 (pv 0)) (so_val (se_lst (sa_cons (so_val (se_int)) (sa_cons (so_val (se_int)) (sa_cons (so_val (se_non)) (sa_cons (so_val (se_tup (sa_cons (so_val (se_int)) (sa_cons (so_val (se_int)) (sa_cons (so_val (se_int)) (sa_cons (so_val (se_int)) (sa_nil))))))) (sa_cons (so_val (se_int)) (sa_cons (so_val (se_tup (sa_cons (so_val (se_int)) (sa_cons (so_val (se_int)) (sa_cons (so_val (se_int)) (sa_cons (so_val (se_int)) (sa_nil))))))) (sa_cons (so_val (se_un un_neg o1_neg (so_val (se_int)))) (sa_cons (so_val (se_bl)) (sa_cons (so_val (se_bl)) (sa_cons (so_val (se_tup (sa_cons (so_val (se_int)) (sa_cons (so_val (se_int)) (sa_nil))))) (sa_cons (so_val (se_tup (sa_cons (so_val (se_int)) (sa_nil)))) (sa_cons (so_val (se_tup (sa_cons (so_val (se_int)) (sa_cons (so_val (se_int)) (sa_nil))))) (sa_cons (so_val (se_tup (sa_cons (so_val (se_int)) (sa_cons (so_val (se_int)) (sa_nil))))) (sa_cons (so_val (se_tup (sa_cons (so_val (se_int)) (sa_nil)))) (sa_cons (so_val (se_tup (sa_cons (so_val (se_int)) (sa_cons (so_val (se_int)) (sa_nil))))) (sa_cons (so_val (se_tup (sa_cons (so_val (se_int)) (sa_cons (so_val (se_int)) (sa_nil))))) (sa_cons (so_val (se_tup (sa_cons (so_val (se_int)) (sa_nil)))) (sa_cons (so_val (se_tup (sa_cons (so_val (se_un un_neg o1_neg (so_val (se_int)))) (sa_cons (so_val (se_int)) (sa_nil))))) (sa_cons (so_val (se_tup (sa_cons (so_val (se_int)) (sa_cons (so_val (se_int)) (sa_nil))))) (sa_cons (so_val (se_int)) (sa_cons (so_val (se_int)) (sa_cons (so_val (se_int)) (sa_cons (so_val (se_bl)) (sa_cons (so_val (se_bl)) (sa_cons (so_val (se_bl)) (sa_cons (so_val (se_bl)) (sa_cons (so_val (se_int)) (sa_cons (so_val (se_int)) (sa_cons (so_val (se_int)) (sa_cons (so_val (se_int)) (sa_cons (so_val (se_str (by rfl))) (sa_cons (so_val (se_tup (sa_cons (so_val (se_int)) (sa_cons (so_val (se_int)) (sa_cons (so_val (se_int)) (sa_nil)))))) (sa_cons (so_val (se_str (by rfl))) (sa_cons (so_val (se_tup (sa_nil))) (sa_cons (so_val (se_str (by rfl))) (sa_cons (so_val (se_str (by rfl))) (sa_cons (so_val (se_str (by rfl))) (sa_nil)))))))))))))))))))))))))))))))))))))))) (nomark _))))))))
end
end K01

set_option Elab.async false
set_option linter.all false
set_option maxRecDepth 100000
set_option maxHeartbeats 4000000
namespace K01
open PySem PySem.Spec L2 Pv
section
variable {P : Program} {w : World} {C : Cb} {mg : Str → Option Value} {base : Heap} {fa ca pa : Nat → Addr}
theorem ok_law (T : Txt C mg base fa ca pa) : OkF P w C mg base 13 (fa 27) ["script"] 1 m_law := by
  obtain ⟨fd__law_rounds, F__law_rounds⟩ := ok__law_rounds (P := P) (w := w) (base := base) T
  obtain ⟨fd__law_number, F__law_number⟩ := ok__law_number (P := P) (w := w) (base := base) T
  obtain ⟨fd__law_roll, F__law_roll⟩ := ok__law_roll (P := P) (w := w) (base := base) T
  obtain ⟨fd_packed, F_packed⟩ := ok_packed (P := P) (w := w) (base := base) T
  obtain ⟨fd_unpacked, F_unpacked⟩ := ok_unpacked (P := P) (w := w) (base := base) T
  obtain ⟨fd_fits_signed, F_fits_signed⟩ := ok_fits_signed (P := P) (w := w) (base := base) T
  obtain ⟨fd_packed_signed, F_packed_signed⟩ := ok_packed_signed (P := P) (w := w) (base := base) T
  obtain ⟨fd_unpacked_signed, F_unpacked_signed⟩ := ok_unpacked_signed (P := P) (w := w) (base := base) T
  obtain ⟨fd_seven, F_seven⟩ := ok_seven (P := P) (w := w) (base := base) T
  obtain ⟨fd__law_seven, F__law_seven⟩ := ok__law_seven (P := P) (w := w) (base := base) T
  obtain ⟨fd_read_seven, F_read_seven⟩ := ok_read_seven (P := P) (w := w) (base := base) T
  obtain ⟨fd_seven_signed, F_seven_signed⟩ := ok_seven_signed (P := P) (w := w) (base := base) T
  obtain ⟨fd__law_signed, F__law_signed⟩ := ok__law_signed (P := P) (w := w) (base := base) T
  obtain ⟨fd_read_seven_signed, F_read_seven_signed⟩ := ok_read_seven_signed (P := P) (w := w) (base := base) T
  obtain ⟨fd_rounded_up, F_rounded_up⟩ := ok_rounded_up (P := P) (w := w) (base := base) T
  obtain ⟨fd_is_power, F_is_power⟩ := ok_is_power (P := P) (w := w) (base := base) T
  obtain ⟨fd_text_print, F_text_print⟩ := ok_text_print (P := P) (w := w) (base := base) T
  obtain ⟨fd_bytes_print, F_bytes_print⟩ := ok_bytes_print (P := P) (w := w) (base := base) T
  obtain ⟨fd_text_bytes, F_text_bytes⟩ := ok_text_bytes (P := P) (w := w) (base := base) T
  obtain ⟨fd_bytes_text, F_bytes_text⟩ := ok_bytes_text (P := P) (w := w) (base := base) T
  obtain ⟨fd_told_hex, F_told_hex⟩ := ok_told_hex (P := P) (w := w) (base := base) T
  obtain ⟨fd_power_of, F_power_of⟩ := ok_power_of (P := P) (w := w) (base := base) T
  obtain ⟨fd__law_plain, F__law_plain⟩ := ok__law_plain (P := P) (w := w) (base := base) T
  refine FnTC.ok (N := ["script", "dice", "number", "many", "place", "row", "half", "left", "k", "fits", "signed", "inside", "step", "up", "text", "told", "first", "second", "sign", "figures"]) (ps := ["script"]) (body := b_law) T.f_law sc_law (fun A outer s H vs E hl hr => ?_)
  have sc := sc_law
  exact ss_cons (ss_for po_cx rfl (si_any rfl (se_call [0] F__law_rounds.1 (hr.mono (by first | decide | omega)) (by rfl) T.f__law_rounds.g T.f__law_rounds.k F__law_rounds.2.1 (sa_cons (so_at 0 (pv 0)) (sa_cons (so_val (se_int)) (sa_nil))))) (tg_name (pg_name (i := 1) sc.nd rfl (by first | exact Or.inl rfl | exact Or.inr rfl)))
        (ss_cons (ss_asg (se_tup (sa_cons (so_val (se_call [1] F__law_number.1 (hr.mono (by first | decide | omega)) (by rfl) T.f__law_number.g T.f__law_number.k F__law_number.2.1 (sa_cons (so_at 1 (pv 1)) (sa_nil)))) (sa_cons (so_val (se_op2 op_addA o2_add (so_val (se_int)) (so_val (se_call [1] F__law_roll.1 (hr.mono (by first | decide | omega)) (by rfl) T.f__law_roll.g T.f__law_roll.k F__law_roll.2.1 (sa_cons (so_at 1 (pv 1)) (sa_cons (so_val (se_int)) (sa_nil))))))) (sa_cons (so_val (se_call [1] F__law_roll.1 (hr.mono (by first | decide | omega)) (by rfl) T.f__law_roll.g T.f__law_roll.k F__law_roll.2.1 (sa_cons (so_at 1 (pv 1)) (sa_cons (so_val (se_int)) (sa_nil))))) (sa_nil))))) (tg_tup rfl rfl (tgs_cons (tg_name (pg_name (i := 2) sc.nd rfl (by first | exact Or.inl rfl | exact Or.inr rfl))) (tgs_cons (tg_name (pg_name (i := 3) sc.nd rfl (by first | exact Or.inl rfl | exact Or.inr rfl))) (tgs_cons (tg_name (pg_name (i := 4) sc.nd rfl (by first | exact Or.inl rfl | exact Or.inr rfl))) (tgs_nil))))) (fun h g => ps_asg h g))
        (ss_cons (ss_par3 (sa_cons (so_val (se_lst (sa_nil))) (sa_cons (so_val (se_int)) (sa_cons (so_val (se_fz 2 (pv 2))) (sa_nil)))) (fun h => ps_par3 (i := 5) (j := 6) (l := 7) rfl sc.nd rfl rfl rfl (by decide) (by decide) (by decide) rfl rfl rfl h (by rfl)))
        (ss_cons (ss_for po_cx rfl (si_range1 (by rfl) T.b_range (sa_cons (so_at 3 (pv 3)) (sa_nil))) (tg_name (pg_name (i := 8) sc.nd rfl (by first | exact Or.inl rfl | exact Or.inr rfl)))
        (ss_one (ss_par3 (sa_cons (so_val (se_op2 op_addA o2_add (so_at 5 (pv 5)) (so_val (se_lst (sa_cons (so_val (se_op2 op_mod o2_mod (so_at 7 (pv 7)) (so_val (se_int)))) (sa_nil)))))) (sa_cons (so_val (se_op2 op_fdivW o2_div (so_at 7 (pv 7)) (so_val (se_int)))) (sa_cons (so_val (se_op2 op_mulAll o2_mul (so_at 6 (pv 6)) (so_val (se_int)))) (sa_nil)))) (fun h => ps_par3 (i := 5) (j := 7) (l := 6) rfl sc.nd rfl rfl rfl (by decide) (by decide) (by decide) rfl rfl rfl h (by rfl)))))
        (ss_cons (ss_set (se_op2 op_fdivW o2_div (so_at 6 (pv 6)) (so_val (se_int))) (fun h => ps_set (i := 6) sc.nd rfl (by first | exact Or.inl rfl | exact Or.inr rfl) h))
        (ss_cons (ss_set (se_cmp op_lt o2_lt (so_at 2 (pv 2)) (so_val (se_op2 op_mulAll o2_mul (so_val (se_int)) (so_at 6 (pv 6)))) (nomark _)) (fun h => ps_set (i := 9) sc.nd rfl (by first | exact Or.inl rfl | exact Or.inr rfl) h))
        (ss_cons (ss_if (st_cmp (op_neA (hu64 hr)) o2_ne (so_val (se_told (k := 2) ⟨T.l_law.tb, rfl, T.l_law.mem, T.l_law.one, T.l_law.gen⟩ T.t__law_told rfl (by rfl) (LamX.lamS_by (sc := defScope s_law) (by decide +kernel)) rfl (fun _ _ _ _ _ => rfl) (hr.mono (by first | decide | omega)) (fun _ _ _ _ _ _ _ hr => se_call [2, 3] F_packed.1 (hr.mono (by first | decide | omega)) (by rfl) T.f_packed.g T.f_packed.k F_packed.2.1 (sa_cons (so_at 2 (pv 2)) (sa_cons (so_at 3 (pv 3)) (sa_nil)))))) (so_val (se_if (st_val (se_rd 9 (pv 9))) (se_callN on_tuple (fun W tk => pe_callTy call_tuple_of (by rfl) T.b_tuple PyProof.Rows.boot_tuple ((sa_cons (so_at 5 (pv 5)) (sa_nil)).run W tk))) (se_str (by rfl)))) (nomark _))
        (ss_one (ss_ret (se_bl)))
        (ss_nil))
        (ss_cons (ss_if (st_bool (sw_and (st_val (se_rd 9 (pv 9))) (sw_and1 (st_cmp (op_neA (hu64 hr)) o2_ne (so_val (se_call [4, 3] F_unpacked.1 (hr.mono (by first | decide | omega)) (by rfl) T.f_unpacked.g T.f_unpacked.k F_unpacked.2.1 (sa_cons (so_val (se_op2 op_addA o2_add (so_val (se_op2 op_addA o2_add (so_val (se_op2 op_mulAll o2_mul (so_val (se_lst (sa_cons (so_val (se_int)) (sa_nil)))) (so_at 4 (pv 4)))) (so_at 5 (pv 5)))) (so_val (se_lst (sa_cons (so_val (se_int)) (sa_nil)))))) (sa_cons (so_at 4 (pv 4)) (sa_cons (so_at 3 (pv 3)) (sa_nil)))))) (so_at 2 (pv 2)) (nomark _)))))
        (ss_one (ss_ret (se_bl)))
        (ss_nil))
        (ss_cons (ss_set (se_op2 op_mulAll o2_mul (so_at 2 (pv 2)) (so_val (se_ix ix_seq o2_ix (so_val (se_lst (sa_cons (so_val (se_int)) (sa_cons (so_val (se_un un_neg o1_neg (so_val (se_int)))) (sa_nil))))) (so_val (se_call [1] F__law_roll.1 (hr.mono (by first | decide | omega)) (by rfl) T.f__law_roll.g T.f__law_roll.k F__law_roll.2.1 (sa_cons (so_at 1 (pv 1)) (sa_cons (so_val (se_int)) (sa_nil))))) (fun _ _ => rfl)))) (fun h => ps_set (i := 10) sc.nd rfl (by first | exact Or.inl rfl | exact Or.inr rfl) h))
        (ss_cons (ss_set (se_chain op_le op_lt o2_le o2_lt (so_val (se_un un_neg o1_neg (so_at 6 (pv 6)))) (so_at 10 (pv 10)) (so_at 6 (pv 6))) (fun h => ps_set (i := 11) sc.nd rfl (by first | exact Or.inl rfl | exact Or.inr rfl) h))
        (ss_cons (ss_if (st_bool (sw_or (st_cmp (op_neA (hu64 hr)) o2_ne (so_val (se_call [10, 3] F_fits_signed.1 (hr.mono (by first | decide | omega)) (by rfl) T.f_fits_signed.g T.f_fits_signed.k F_fits_signed.2.1 (sa_cons (so_at 10 (pv 10)) (sa_cons (so_at 3 (pv 3)) (sa_nil))))) (so_at 11 (pv 11)) (nomark _)) (sw_or1 (st_cmp (op_eqA (hu64 hr)) o2_eq (so_val (se_cmp (op_eqA (hu64 hr)) o2_eq (so_val (se_told (k := 3) ⟨T.l_law.tb, rfl, T.l_law.mem, T.l_law.one, T.l_law.gen⟩ T.t__law_told rfl (by rfl) (LamX.lamS_by (sc := defScope s_law) (by decide +kernel)) rfl (fun _ _ _ _ _ => rfl) (hr.mono (by first | decide | omega)) (fun _ _ _ _ _ _ _ hr => se_call [10, 3] F_packed_signed.1 (hr.mono (by first | decide | omega)) (by rfl) T.f_packed_signed.g T.f_packed_signed.k F_packed_signed.2.1 (sa_cons (so_at 10 (pv 10)) (sa_cons (so_at 3 (pv 3)) (sa_nil)))))) (so_val (se_str (by rfl))) (nomark _))) (so_at 11 (pv 11)) (nomark _)))))
        (ss_one (ss_ret (se_bl)))
        (ss_nil))
        (ss_cons (ss_if (st_bool (sw_and (st_val (se_rd 11 (pv 11))) (sw_and1 (st_bool (sw_or (st_cmp (op_neA (hu64 hr)) o2_ne (so_val (se_call [4, 3] F_unpacked_signed.1 (hr.mono (by first | decide | omega)) (by rfl) T.f_unpacked_signed.g T.f_unpacked_signed.k F_unpacked_signed.2.1 (sa_cons (so_val (se_op2 op_addA o2_add (so_val (se_op2 op_mulAll o2_mul (so_val (se_lst (sa_cons (so_val (se_int)) (sa_nil)))) (so_at 4 (pv 4)))) (so_val (se_callN on_list (fun W tk => pe_callTy call_list_of (by rfl) T.b_list PyProof.Rows.boot_list ((sa_cons (so_val (se_call [10, 3] F_packed_signed.1 (hr.mono (by first | decide | omega)) (by rfl) T.f_packed_signed.g T.f_packed_signed.k F_packed_signed.2.1 (sa_cons (so_at 10 (pv 10)) (sa_cons (so_at 3 (pv 3)) (sa_nil))))) (sa_nil)).run W tk)))))) (sa_cons (so_at 4 (pv 4)) (sa_cons (so_at 3 (pv 3)) (sa_nil)))))) (so_at 10 (pv 10)) (nomark _)) (sw_or1 (st_bool (sw_and (st_cmp op_ge o2_ge (so_at 10 (pv 10)) (so_val (se_int)) (nomark _)) (sw_and1 (st_cmp (op_neA (hu64 hr)) o2_ne (so_val (se_callN on_list (fun W tk => pe_callTy call_list_of (by rfl) T.b_list PyProof.Rows.boot_list ((sa_cons (so_val (se_call [10, 3] F_packed_signed.1 (hr.mono (by first | decide | omega)) (by rfl) T.f_packed_signed.g T.f_packed_signed.k F_packed_signed.2.1 (sa_cons (so_at 10 (pv 10)) (sa_cons (so_at 3 (pv 3)) (sa_nil))))) (sa_nil)).run W tk)))) (so_at 5 (pv 5)) (nomark _)))))))))))
        (ss_one (ss_ret (se_bl)))
        (ss_nil))
        (ss_cons (ss_if (st_bool (sw_or (st_cmp (op_neA (hu64 hr)) o2_ne (so_val (se_callN on_list (fun W tk => pe_callTy call_list_of (by rfl) T.b_list PyProof.Rows.boot_list ((sa_cons (so_val (se_call [2] F_seven.1 (hr.mono (by first | decide | omega)) (by rfl) T.f_seven.g T.f_seven.k F_seven.2.1 (sa_cons (so_at 2 (pv 2)) (sa_nil)))) (sa_nil)).run W tk)))) (so_val (se_call [2] F__law_seven.1 (hr.mono (by first | decide | omega)) (by rfl) T.f__law_seven.g T.f__law_seven.k F__law_seven.2.1 (sa_cons (so_at 2 (pv 2)) (sa_nil)))) (nomark _)) (sw_or1 (st_cmp (op_neA (hu64 hr)) o2_ne (so_val (se_call [4] F_read_seven.1 (hr.mono (by first | decide | omega)) (by rfl) T.f_read_seven.g T.f_read_seven.k F_read_seven.2.1 (sa_cons (so_val (se_op2 op_addA o2_add (so_val (se_op2 op_addA o2_add (so_val (se_op2 op_mulAll o2_mul (so_val (se_lst (sa_cons (so_val (se_int)) (sa_nil)))) (so_at 4 (pv 4)))) (so_val (se_call [2] F__law_seven.1 (hr.mono (by first | decide | omega)) (by rfl) T.f__law_seven.g T.f__law_seven.k F__law_seven.2.1 (sa_cons (so_at 2 (pv 2)) (sa_nil)))))) (so_val (se_lst (sa_cons (so_val (se_int)) (sa_nil)))))) (sa_cons (so_at 4 (pv 4)) (sa_nil))))) (so_val (se_tup (sa_cons (so_val (se_fz 2 (pv 2))) (sa_cons (so_val (se_op2 op_addA o2_add (so_at 4 (pv 4)) (so_val (se_callN on_len (fun W tk => pe_callB call_len (by rfl) T.b_len PySem.boot_len ((sa_cons (so_val (se_call [2] F__law_seven.1 (hr.mono (by first | decide | omega)) (by rfl) T.f__law_seven.g T.f__law_seven.k F__law_seven.2.1 (sa_cons (so_at 2 (pv 2)) (sa_nil)))) (sa_nil)).run W tk)))))) (sa_nil))))) (nomark _)))))
        (ss_one (ss_ret (se_bl)))
        (ss_nil))
        (ss_cons (ss_if (st_bool (sw_or (st_cmp (op_neA (hu64 hr)) o2_ne (so_val (se_callN on_list (fun W tk => pe_callTy call_list_of (by rfl) T.b_list PyProof.Rows.boot_list ((sa_cons (so_val (se_call [10] F_seven_signed.1 (hr.mono (by first | decide | omega)) (by rfl) T.f_seven_signed.g T.f_seven_signed.k F_seven_signed.2.1 (sa_cons (so_at 10 (pv 10)) (sa_nil)))) (sa_nil)).run W tk)))) (so_val (se_call [10] F__law_signed.1 (hr.mono (by first | decide | omega)) (by rfl) T.f__law_signed.g T.f__law_signed.k F__law_signed.2.1 (sa_cons (so_at 10 (pv 10)) (sa_nil)))) (nomark _)) (sw_or1 (st_cmp (op_neA (hu64 hr)) o2_ne (so_val (se_call [4] F_read_seven_signed.1 (hr.mono (by first | decide | omega)) (by rfl) T.f_read_seven_signed.g T.f_read_seven_signed.k F_read_seven_signed.2.1 (sa_cons (so_val (se_op2 op_addA o2_add (so_val (se_op2 op_addA o2_add (so_val (se_op2 op_mulAll o2_mul (so_val (se_lst (sa_cons (so_val (se_int)) (sa_nil)))) (so_at 4 (pv 4)))) (so_val (se_call [10] F__law_signed.1 (hr.mono (by first | decide | omega)) (by rfl) T.f__law_signed.g T.f__law_signed.k F__law_signed.2.1 (sa_cons (so_at 10 (pv 10)) (sa_nil)))))) (so_val (se_lst (sa_cons (so_val (se_int)) (sa_nil)))))) (sa_cons (so_at 4 (pv 4)) (sa_nil))))) (so_val (se_tup (sa_cons (so_val (se_fz 10 (pv 10))) (sa_cons (so_val (se_op2 op_addA o2_add (so_at 4 (pv 4)) (so_val (se_callN on_len (fun W tk => pe_callB call_len (by rfl) T.b_len PySem.boot_len ((sa_cons (so_val (se_call [10] F__law_signed.1 (hr.mono (by first | decide | omega)) (by rfl) T.f__law_signed.g T.f__law_signed.k F__law_signed.2.1 (sa_cons (so_at 10 (pv 10)) (sa_nil)))) (sa_nil)).run W tk)))))) (sa_nil))))) (nomark _)))))
        (ss_one (ss_ret (se_bl)))
        (ss_nil))
        (ss_cons (ss_set (se_op2 op_addA o2_add (so_val (se_int)) (so_val (se_call [1] F__law_roll.1 (hr.mono (by first | decide | omega)) (by rfl) T.f__law_roll.g T.f__law_roll.k F__law_roll.2.1 (sa_cons (so_at 1 (pv 1)) (sa_cons (so_val (se_int)) (sa_nil)))))) (fun h => ps_set (i := 12) sc.nd rfl (by first | exact Or.inl rfl | exact Or.inr rfl) h))
        (ss_cons (ss_set (se_call [2, 12] F_rounded_up.1 (hr.mono (by first | decide | omega)) (by rfl) T.f_rounded_up.g T.f_rounded_up.k F_rounded_up.2.1 (sa_cons (so_at 2 (pv 2)) (sa_cons (so_at 12 (pv 12)) (sa_nil)))) (fun h => ps_set (i := 13) sc.nd rfl (by first | exact Or.inl rfl | exact Or.inr rfl) h))
        (ss_cons (ss_if (st_bool (sw_or (st_cmp (op_neA (hu64 hr)) o2_ne (so_val (se_op2 op_mod o2_mod (so_at 13 (pv 13)) (so_at 12 (pv 12)))) (so_val (se_int)) (nomark _)) (sw_or (st_not (st_chain op_le op_lt o2_le o2_lt (so_at 2 (pv 2)) (so_at 13 (pv 13)) (so_val (se_op2 op_addA o2_add (so_at 2 (pv 2)) (so_at 12 (pv 12)))))) (sw_or1 (st_cmp (op_neA (hu64 hr)) o2_ne (so_val (se_call [12] F_is_power.1 (hr.mono (by first | decide | omega)) (by rfl) T.f_is_power.g T.f_is_power.k F_is_power.2.1 (sa_cons (so_at 12 (pv 12)) (sa_nil)))) (so_val (se_cmp op_inA o2_in (so_at 12 (pv 12)) (so_val (se_lst (sa_cons (so_val (se_int)) (sa_cons (so_val (se_int)) (sa_cons (so_val (se_int)) (sa_cons (so_val (se_int)) (sa_cons (so_val (se_int)) (sa_cons (so_val (se_int)) (sa_nil))))))))) (by rfl))) (nomark _))))))
        (ss_one (ss_ret (se_bl)))
        (ss_nil))
        (ss_cons (ss_set (se_join rfl (by rfl) (so_val (se_lc (own := [("k", 8)]) rfl sc.nd (si_range1 (by rfl) T.b_range (sa_cons (so_val (se_call [1] F__law_roll.1 (hr.mono (by first | decide | omega)) (by rfl) T.f__law_roll.g T.f__law_roll.k F__law_roll.2.1 (sa_cons (so_at 1 (pv 1)) (sa_cons (so_val (se_int)) (sa_nil))))) (sa_nil))) (blkOk_by (N := ["script", "dice", "number", "many", "place", "row", "half", "left", "k", "fits", "signed", "inside", "step", "up", "text", "told", "first", "second", "sign", "figures"]) (sc := defScope s_law) (by decide +kernel)) (fun _ _ _ _ _ => tg_name (pg_name (i := 8) sc.nd rfl (by first | exact Or.inl rfl | exact Or.inr rfl))) (fun _ _ _ _ _ => sts_nil) (fun _ _ _ _ _ => se_ix ix_seq o2_ix (so_val (T.c_SIGNS.se (by rfl))) (so_val (se_call [1] F__law_roll.1 (hr.mono (by first | decide | omega)) (by rfl) T.f__law_roll.g T.f__law_roll.k F__law_roll.2.1 (sa_cons (so_at 1 (pv 1)) (sa_cons (so_val (se_callN on_len (fun W tk => pe_callB call_len (by rfl) T.b_len PySem.boot_len ((sa_cons (so_val (T.c_SIGNS.se (by rfl))) (sa_nil)).run W tk)))) (sa_nil))))) (fun _ _ => rfl))))) (fun h => ps_set (i := 14) sc.nd rfl (by first | exact Or.inl rfl | exact Or.inr rfl) h))
        (ss_cons (ss_asg (se_tup (sa_cons (so_val (se_int)) (sa_cons (so_val (se_int)) (sa_cons (so_val (se_int)) (sa_nil))))) (tg_tup rfl rfl (tgs_cons (tg_name (pg_name (i := 15) sc.nd rfl (by first | exact Or.inl rfl | exact Or.inr rfl))) (tgs_cons (tg_name (pg_name (i := 16) sc.nd rfl (by first | exact Or.inl rfl | exact Or.inr rfl))) (tgs_cons (tg_name (pg_name (i := 17) sc.nd rfl (by first | exact Or.inl rfl | exact Or.inr rfl))) (tgs_nil))))) (fun h g => ps_asg h g))
        (ss_cons (ss_for po_cx rfl (si_any rfl (se_fz 14 (pv 14))) (tg_name (pg_name (i := 18) sc.nd rfl (by first | exact Or.inl rfl | exact Or.inr rfl)))
        (ss_cons (ss_par2 (sa_cons (so_val (se_op2 op_addA o2_add (so_val (se_op2 op_mulAll o2_mul (so_at 15 (pv 15)) (so_val (se_int)))) (so_val (se_callN on_ord (fun W tk => pe_callB call_ord (by rfl) T.b_ord PyProof.Rows.boot_ord ((sa_cons (so_at 18 (pv 18)) (sa_nil)).run W tk)))))) (sa_cons (so_val (se_op2 op_addA o2_add (so_at 16 (pv 16)) (so_val (se_callN on_ord (fun W tk => pe_callB call_ord (by rfl) T.b_ord PyProof.Rows.boot_ord ((sa_cons (so_at 18 (pv 18)) (sa_nil)).run W tk)))))) (sa_nil))) (fun h => ps_par (i := 15) (j := 16) rfl sc.nd rfl rfl (by decide) rfl rfl h (by rfl)))
        (ss_one (ss_set (se_op2 op_addA o2_add (so_at 17 (pv 17)) (so_at 16 (pv 16))) (fun h => ps_set (i := 17) sc.nd rfl (by first | exact Or.inl rfl | exact Or.inr rfl) h)))))
        (ss_cons (ss_if (st_bool (sw_or (st_cmp (op_neA (hu64 hr)) o2_ne (so_val (se_call [14] F_text_print.1 (hr.mono (by first | decide | omega)) (by rfl) T.f_text_print.g T.f_text_print.k F_text_print.2.1 (sa_cons (so_at 14 (pv 14)) (sa_nil)))) (so_val (se_op2 op_mod o2_mod (so_at 15 (pv 15)) (so_val (se_op2 op_pow o2_pow (so_val (se_int)) (so_val (se_int)))))) (nomark _)) (sw_or (st_cmp (op_neA (hu64 hr)) o2_ne (so_val (se_call [] F_bytes_print.1 (hr.mono (by first | decide | omega)) (by rfl) T.f_bytes_print.g T.f_bytes_print.k F_bytes_print.2.1 (sa_cons (so_val (se_call [14] F_text_bytes.1 (hr.mono (by first | decide | omega)) (by rfl) T.f_text_bytes.g T.f_text_bytes.k F_text_bytes.2.1 (sa_cons (so_at 14 (pv 14)) (sa_nil)))) (sa_nil)))) (so_val (se_op2 op_addA o2_add (so_val (se_op2 op_mulAll o2_mul (so_val (se_op2 op_mod o2_mod (so_at 17 (pv 17)) (so_val (se_int)))) (so_val (se_int)))) (so_val (se_op2 op_mod o2_mod (so_at 16 (pv 16)) (so_val (se_int)))))) (nomark _)) (sw_or1 (st_cmp (op_neA (hu64 hr)) o2_ne (so_val (se_call [] F_bytes_text.1 (hr.mono (by first | decide | omega)) (by rfl) T.f_bytes_text.g T.f_bytes_text.k F_bytes_text.2.1 (sa_cons (so_val (se_lc (own := [("sign", 18)]) rfl sc.nd (si_any rfl (se_fz 14 (pv 14))) (blkOk_by (N := ["script", "dice", "number", "many", "place", "row", "half", "left", "k", "fits", "signed", "inside", "step", "up", "text", "told", "first", "second", "sign", "figures"]) (sc := defScope s_law) (by decide +kernel)) (fun _ _ _ _ _ => tg_name (pg_name (i := 18) sc.nd rfl (by first | exact Or.inl rfl | exact Or.inr rfl))) (fun _ _ _ _ _ => sts_nil) (fun _ _ _ _ _ => se_callN on_ord (fun W tk => pe_callB call_ord (by rfl) T.b_ord PyProof.Rows.boot_ord ((sa_cons (so_at 18 (pv 18)) (sa_nil)).run W tk))))) (sa_nil)))) (so_at 14 (pv 14)) (nomark _))))))
        (ss_one (ss_ret (se_bl)))
        (ss_nil))
        (ss_cons (ss_par2 (sa_cons (so_val (se_str (by rfl))) (sa_cons (so_val (se_fz 2 (pv 2))) (sa_nil))) (fun h => ps_par (i := 19) (j := 7) rfl sc.nd rfl rfl (by decide) rfl rfl h (by rfl)))
        (ss_cons (ss_for po_cx rfl (si_range1 (by rfl) T.b_range (sa_cons (so_val (se_int)) (sa_nil))) (tg_name (pg_name (i := 8) sc.nd rfl (by first | exact Or.inl rfl | exact Or.inr rfl)))
        (ss_one (ss_par2 (sa_cons (so_val (se_op2 op_addA o2_add (so_val (se_ix ix_seq o2_ix (so_val (se_str (by rfl))) (so_val (se_op2 op_mod o2_mod (so_at 7 (pv 7)) (so_val (se_int)))) (fun _ _ => rfl))) (so_at 19 (pv 19)))) (sa_cons (so_val (se_op2 op_fdivW o2_div (so_at 7 (pv 7)) (so_val (se_int)))) (sa_nil))) (fun h => ps_par (i := 19) (j := 7) rfl sc.nd rfl rfl (by decide) rfl rfl h (by rfl)))))
        (ss_one (ss_if (st_bool (sw_or (st_cmp (op_neA (hu64 hr)) o2_ne (so_val (se_call [2] F_told_hex.1 (hr.mono (by first | decide | omega)) (by rfl) T.f_told_hex.g T.f_told_hex.k F_told_hex.2.1 (sa_cons (so_at 2 (pv 2)) (sa_cons (so_val (se_int)) (sa_nil))))) (so_at 19 (pv 19)) (nomark _)) (sw_or1 (st_cmp (op_neA (hu64 hr)) o2_ne (so_val (se_call [3] F_power_of.1 (hr.mono (by first | decide | omega)) (by rfl) T.f_power_of.g T.f_power_of.k F_power_of.2.1 (sa_cons (so_at 3 (pv 3)) (sa_nil)))) (so_val (se_op2 op_mulAll o2_mul (so_val (se_int)) (so_val (se_call [] F_power_of.1 (hr.mono (by first | decide | omega)) (by rfl) T.f_power_of.g T.f_power_of.k F_power_of.2.1 (sa_cons (so_val (se_op2 op_sub o2_sub (so_at 3 (pv 3)) (so_val (se_int)))) (sa_nil)))))) (nomark _)))))
        (ss_one (ss_ret (se_bl)))
        (ss_nil))))))))))))))))))))))))))
        (ss_one (ss_ret (se_call0 F__law_plain.1 (hr.mono (by first | decide | omega)) (by rfl) T.f__law_plain.g T.f__law_plain.k F__law_plain.2.1)))
end
end K01

set_option Elab.async false
set_option linter.all false
set_option maxRecDepth 100000
set_option maxHeartbeats 0
namespace K01
open PySem PySem.Spec PyProof.Rows L2 Pv
abbrev s__law_told : Stmt := top 29
def d_power_of : He.DefD := ⟨("power_of", none), "power_of", "power_of", defArgs s_power_of, defBody s_power_of, defScope s_power_of, [], []⟩
def d_check_bytes : He.DefD := ⟨("check_bytes", none), "check_bytes", "check_bytes", defArgs s_check_bytes, defBody s_check_bytes, defScope s_check_bytes, [], []⟩
def d_packed : He.DefD := ⟨("packed", none), "packed", "packed", defArgs s_packed, defBody s_packed, defScope s_packed, [], []⟩
def d_unpacked : He.DefD := ⟨("unpacked", none), "unpacked", "unpacked", defArgs s_unpacked, defBody s_unpacked, defScope s_unpacked, [], []⟩
def d_packed_signed : He.DefD := ⟨("packed_signed", none), "packed_signed", "packed_signed", defArgs s_packed_signed, defBody s_packed_signed, defScope s_packed_signed, [], []⟩
def d_unpacked_signed : He.DefD := ⟨("unpacked_signed", none), "unpacked_signed", "unpacked_signed", defArgs s_unpacked_signed, defBody s_unpacked_signed, defScope s_unpacked_signed, [], []⟩
def d_fits_signed : He.DefD := ⟨("fits_signed", none), "fits_signed", "fits_signed", defArgs s_fits_signed, defBody s_fits_signed, defScope s_fits_signed, [], []⟩
def d_seven : He.DefD := ⟨("seven", none), "seven", "seven", defArgs s_seven, defBody s_seven, defScope s_seven, [], []⟩
def d_read_seven : He.DefD := ⟨("read_seven", none), "read_seven", "read_seven", defArgs s_read_seven, defBody s_read_seven, defScope s_read_seven, [], []⟩
def d_seven_signed : He.DefD := ⟨("seven_signed", none), "seven_signed", "seven_signed", defArgs s_seven_signed, defBody s_seven_signed, defScope s_seven_signed, [], []⟩
def d_read_seven_signed : He.DefD := ⟨("read_seven_signed", none), "read_seven_signed", "read_seven_signed", defArgs s_read_seven_signed, defBody s_read_seven_signed, defScope s_read_seven_signed, [], []⟩
def d_rounded_up : He.DefD := ⟨("rounded_up", none), "rounded_up", "rounded_up", defArgs s_rounded_up, defBody s_rounded_up, defScope s_rounded_up, [], []⟩
def d_is_power : He.DefD := ⟨("is_power", none), "is_power", "is_power", defArgs s_is_power, defBody s_is_power, defScope s_is_power, [], []⟩
def d_text_bytes : He.DefD := ⟨("text_bytes", none), "text_bytes", "text_bytes", defArgs s_text_bytes, defBody s_text_bytes, defScope s_text_bytes, [], []⟩
def d_text_print : He.DefD := ⟨("text_print", none), "text_print", "text_print", defArgs s_text_print, defBody s_text_print, defScope s_text_print, [], []⟩
def d_bytes_print : He.DefD := ⟨("bytes_print", none), "bytes_print", "bytes_print", defArgs s_bytes_print, defBody s_bytes_print, defScope s_bytes_print, [], []⟩
def d_told_hex : He.DefD := ⟨("told_hex", none), "told_hex", "told_hex", defArgs s_told_hex, defBody s_told_hex, defScope s_told_hex, [], []⟩
def d_sign_of : He.DefD := ⟨("sign_of", none), "sign_of", "sign_of", defArgs s_sign_of, defBody s_sign_of, defScope s_sign_of, [], []⟩
def d_bytes_text : He.DefD := ⟨("bytes_text", none), "bytes_text", "bytes_text", defArgs s_bytes_text, defBody s_bytes_text, defScope s_bytes_text, [], []⟩
def d__law_dice : He.DefD := ⟨("_law_dice", none), "_law_dice", "_law_dice", defArgs s__law_dice, defBody s__law_dice, defScope s__law_dice, [], []⟩
def d__law_roll : He.DefD := ⟨("_law_roll", none), "_law_roll", "_law_roll", defArgs s__law_roll, defBody s__law_roll, defScope s__law_roll, [], []⟩
def d__law_rounds : He.DefD := ⟨("_law_rounds", none), "_law_rounds", "_law_rounds", defArgs s__law_rounds, defBody s__law_rounds, defScope s__law_rounds, [], []⟩
def d__law_number : He.DefD := ⟨("_law_number", none), "_law_number", "_law_number", defArgs s__law_number, defBody s__law_number, defScope s__law_number, [], []⟩
def d__law_seven : He.DefD := ⟨("_law_seven", none), "_law_seven", "_law_seven", defArgs s__law_seven, defBody s__law_seven, defScope s__law_seven, [], []⟩
def d__law_signed : He.DefD := ⟨("_law_signed", none), "_law_signed", "_law_signed", defArgs s__law_signed, defBody s__law_signed, defScope s__law_signed, [], []⟩
def d__law_refused : He.DefD := ⟨("_law_refused", none), "_law_refused", "_law_refused", defArgs s__law_refused, defBody s__law_refused, defScope s__law_refused, [], []⟩
def d__law_plain : He.DefD := ⟨("_law_plain", none), "_law_plain", "_law_plain", defArgs s__law_plain, defBody s__law_plain, defScope s__law_plain, [], []⟩
def d_law : He.DefD := ⟨("law", none), "law", "law", defArgs s_law, defBody s_law, defScope s_law, [], []⟩
def d__law_told : He.DefD := ⟨("_law_told", none), "_law_told", "_law_told", defArgs s__law_told, defBody s__law_told, defScope s__law_told, [], []⟩
def hfn : List He.DefD := [d_power_of, d_check_bytes, d_packed, d_unpacked, d_packed_signed, d_unpacked_signed, d_fits_signed, d_seven, d_read_seven, d_seven_signed, d_read_seven_signed, d_rounded_up, d_is_power, d_text_bytes, d_text_print, d_bytes_print, d_told_hex, d_sign_of, d_bytes_text, d__law_dice, d__law_roll, d__law_rounds, d__law_number, d__law_seven, d__law_signed, d__law_refused, d__law_plain, d_law, d__law_told]
def hfa : List He.Fa := ([.glo "power_of", .glo "check_bytes", .glo "packed", .glo "unpacked", .glo "packed_signed", .glo "unpacked_signed", .glo "fits_signed", .glo "seven", .glo "read_seven", .glo "seven_signed", .glo "read_seven_signed", .glo "rounded_up", .glo "is_power", .glo "text_bytes", .glo "text_print", .glo "bytes_print", .glo "told_hex", .glo "sign_of", .glo "bytes_text", .glo "_law_dice", .glo "_law_roll", .glo "_law_rounds", .glo "_law_number", .glo "_law_seven", .glo "_law_signed", .glo "_law_refused", .glo "_law_plain", .glo "law", .glo "_law_told", .glo "WordError"] : List He.Fa) ++ ([.exc "WordError", .glo "LinkFault", .exc "LinkFault", .exm "WordError" "WordError" true, .exm "LinkFault" "WordError" false, .free "range", .free "any", .free "tuple", .free "len", .free "ord", .free "abs", .free "int", .free "enumerate", .free "list", .str "__name__" (strV [108, 97, 119, 95, 108, 105, 110, 107, 115, 116, 97, 99, 107, 95, 107, 48, 49, 95, 119, 111, 114, 100, 115, 95, 97, 115, 95, 98, 121, 116, 101, 115]), .int "MOST_BYTES" 8, .str "SIGNS" (strV [32, 33, 34, 35, 36, 38, 39, 40, 41, 42, 43, 44, 45, 46, 47, 48, 49, 50, 51, 52, 53, 54, 55, 56, 57, 58, 59, 60, 61, 62, 63, 64, 65, 66, 67, 68, 69, 70, 71, 72, 73, 74, 75, 76, 77, 78, 79, 80, 81, 82, 83, 84, 85, 86, 87, 88, 89, 90, 91, 92, 93, 94, 95, 96, 97, 98, 99, 100, 101, 102, 103, 104, 105, 106, 107, 108, 109, 110, 111, 112, 113, 114, 115, 116, 117, 118, 119, 120, 121, 122, 123, 124, 125, 126])] : List He.Fa)
def htf : List He.Defn := [("check_bytes", none), ("text_bytes", none), ("_law_refused", none), ("law", none)]
def hex (K : PySem.W.Frag) : Bool := decide ((htf.map fun p => (He.cT K p).2).Nodup)
def names : List Str := ["power_of", "check_bytes", "packed", "unpacked", "packed_signed", "unpacked_signed", "fits_signed", "seven", "read_seven", "seven_signed", "read_seven_signed", "rounded_up", "is_power", "text_bytes", "text_print", "bytes_print", "told_hex", "sign_of", "bytes_text", "_law_dice", "_law_roll", "_law_rounds", "_law_number", "_law_seven", "_law_signed", "_law_refused", "_law_plain", "law", "_law_told"]
def fa (K : PySem.W.Frag) (i : Nat) : Addr := He.ga K (names.getD i "")
def ca (K : PySem.W.Frag) (i : Nat) : Addr := He.codeOf K (names.getD i "", none)
def pa (K : PySem.W.Frag) (i : Nat) : Addr := He.tabOf K (ca K i)
def CC (K : PySem.W.Frag) : Cb := ⟨K, fun _ => 0, fun i => He.ga K ((["WordError", "LinkFault"] : List Str).getD i ""), [(pa K 25, ("_law_refused" ++ ".<locals>." : Str) ++ "<lambda>"), (pa K 27, ("law" ++ ".<locals>." : Str) ++ "<lambda>")], [pa K 1, pa K 13]⟩
theorem bnd_power_of : Bnd "power_of" s_power_of ["times"] := fun _ _ _ _ _ _ us hl => match us, hl with | [_], _ => rfl
theorem bnd_check_bytes : Bnd "check_bytes" s_check_bytes ["numbers"] := fun _ _ _ _ _ _ us hl => match us, hl with | [_], _ => rfl
theorem bnd_packed : Bnd "packed" s_packed ["number", "many"] := fun _ _ _ _ _ _ us hl => match us, hl with | [_, _], _ => rfl
theorem bnd_unpacked : Bnd "unpacked" s_unpacked ["numbers", "place", "many"] := fun _ _ _ _ _ _ us hl => match us, hl with | [_, _, _], _ => rfl
theorem bnd_packed_signed : Bnd "packed_signed" s_packed_signed ["number", "many"] := fun _ _ _ _ _ _ us hl => match us, hl with | [_, _], _ => rfl
theorem bnd_unpacked_signed : Bnd "unpacked_signed" s_unpacked_signed ["numbers", "place", "many"] := fun _ _ _ _ _ _ us hl => match us, hl with | [_, _, _], _ => rfl
theorem bnd_fits_signed : Bnd "fits_signed" s_fits_signed ["number", "many"] := fun _ _ _ _ _ _ us hl => match us, hl with | [_, _], _ => rfl
theorem bnd_seven : Bnd "seven" s_seven ["number"] := fun _ _ _ _ _ _ us hl => match us, hl with | [_], _ => rfl
theorem bnd_read_seven : Bnd "read_seven" s_read_seven ["numbers", "place"] := fun _ _ _ _ _ _ us hl => match us, hl with | [_, _], _ => rfl
theorem bnd_seven_signed : Bnd "seven_signed" s_seven_signed ["number"] := fun _ _ _ _ _ _ us hl => match us, hl with | [_], _ => rfl
theorem bnd_read_seven_signed : Bnd "read_seven_signed" s_read_seven_signed ["numbers", "place"] := fun _ _ _ _ _ _ us hl => match us, hl with | [_, _], _ => rfl
theorem bnd_rounded_up : Bnd "rounded_up" s_rounded_up ["place", "step"] := fun _ _ _ _ _ _ us hl => match us, hl with | [_, _], _ => rfl
theorem bnd_is_power : Bnd "is_power" s_is_power ["number"] := fun _ _ _ _ _ _ us hl => match us, hl with | [_], _ => rfl
theorem bnd_text_bytes : Bnd "text_bytes" s_text_bytes ["text"] := fun _ _ _ _ _ _ us hl => match us, hl with | [_], _ => rfl
theorem bnd_text_print : Bnd "text_print" s_text_print ["text"] := fun _ _ _ _ _ _ us hl => match us, hl with | [_], _ => rfl
theorem bnd_bytes_print : Bnd "bytes_print" s_bytes_print ["numbers"] := fun _ _ _ _ _ _ us hl => match us, hl with | [_], _ => rfl
theorem bnd_told_hex : Bnd "told_hex" s_told_hex ["number", "many"] := fun _ _ _ _ _ _ us hl => match us, hl with | [_, _], _ => rfl
theorem bnd_sign_of : Bnd "sign_of" s_sign_of ["number"] := fun _ _ _ _ _ _ us hl => match us, hl with | [_], _ => rfl
theorem bnd_bytes_text : Bnd "bytes_text" s_bytes_text ["numbers"] := fun _ _ _ _ _ _ us hl => match us, hl with | [_], _ => rfl
theorem bnd__law_dice : Bnd "_law_dice" s__law_dice ["cell"] := fun _ _ _ _ _ _ us hl => match us, hl with | [_], _ => rfl
theorem bnd__law_roll : Bnd "_law_roll" s__law_roll ["dice", "many"] := fun _ _ _ _ _ _ us hl => match us, hl with | [_, _], _ => rfl
theorem bnd__law_rounds : Bnd "_law_rounds" s__law_rounds ["script", "most"] := fun _ _ _ _ _ _ us hl => match us, hl with | [_, _], _ => rfl
theorem bnd__law_number : Bnd "_law_number" s__law_number ["dice"] := fun _ _ _ _ _ _ us hl => match us, hl with | [_], _ => rfl
theorem bnd__law_seven : Bnd "_law_seven" s__law_seven ["number"] := fun _ _ _ _ _ _ us hl => match us, hl with | [_], _ => rfl
theorem bnd__law_signed : Bnd "_law_signed" s__law_signed ["number"] := fun _ _ _ _ _ _ us hl => match us, hl with | [_], _ => rfl
theorem bnd__law_refused : Bnd "_law_refused" s__law_refused [] := fun _ _ _ _ _ _ us hl => match us, hl with | [], _ => rfl
theorem bnd__law_plain : Bnd "_law_plain" s__law_plain [] := fun _ _ _ _ _ _ us hl => match us, hl with | [], _ => rfl
theorem bnd_law : Bnd "law" s_law ["script"] := fun _ _ _ _ _ _ us hl => match us, hl with | [_], _ => rfl
theorem bnd__law_told : Bnd "_law_told" s__law_told ["what"] := fun _ _ _ _ _ _ us hl => match us, hl with | [_], _ => rfl
section
variable {K : PySem.W.Frag} {h h0 base : Heap} {mg : Str → Option Value} {w : World}
theorem tabs_ne (e : hex K = true) : [pa K 1, pa K 13, pa K 25, pa K 27].Nodup := of_decide_eq_true e
theorem txt (X : K.In base) (G : base.Ns mainGlobals mg) (c : He.SaysX hfa hfn [] htf hex w h0 K) (tb : ∀ p ∈ htf.map (He.cT K), LamX.TabB base mg p.1 p.2) : Txt (CC K) mg base (fa K) (ca K) (pa K) := by
  have D := c.t.d
  have nd := tabs_ne c.more
  have n0_1 : pa K 1 ≠ pa K 13 := fun e => by simp [e] at nd
  have n0_2 : pa K 1 ≠ pa K 25 := fun e => by simp [e] at nd
  have n0_3 : pa K 1 ≠ pa K 27 := fun e => by simp [e] at nd
  have n1_2 : pa K 13 ≠ pa K 25 := fun e => by simp [e] at nd
  have n1_3 : pa K 13 ≠ pa K 27 := fun e => by simp [e] at nd
  have n2_3 : pa K 25 ≠ pa K 27 := fun e => by simp [e] at nd
  have F : ∀ (i : Nat) {f : He.Fa}, hfa[i]? = some f → f.ok K = true := fun i _ e => D.fact i e
  have tb_check_bytes : LamX.TabB base mg (ca K 1) (pa K 1) := tb (ca K 1, pa K 1) (List.mem_of_getElem? (i := 0) rfl)
  have tb_text_bytes : LamX.TabB base mg (ca K 13) (pa K 13) := tb (ca K 13, pa K 13) (List.mem_of_getElem? (i := 1) rfl)
  have tb__law_refused : LamX.TabB base mg (ca K 25) (pa K 25) := tb (ca K 25, pa K 25) (List.mem_of_getElem? (i := 2) rfl)
  have tb_law : LamX.TabB base mg (ca K 27) (pa K 27) := tb (ca K 27, pa K 27) (List.mem_of_getElem? (i := 3) rfl)
  exact {
    f_power_of := fnT_of (C := CC K) (st := s_power_of) X G (F 0 rfl) (D.def_ 0 (d := d_power_of) rfl) bnd_power_of
    f_check_bytes := fnTC_of (C := CC K) (st := s_check_bytes) X G (F 1 rfl) (D.def_ 1 (d := d_check_bytes) rfl) bnd_check_bytes
    g_check_bytes := ⟨⟨tb_check_bytes.code, tb_check_bytes.bm, tb_check_bytes.gP⟩, List.mem_of_getElem? (i := 0) rfl, List.forall_mem_cons.mpr ⟨(Ne.symm n0_2), List.forall_mem_cons.mpr ⟨(Ne.symm n0_3), fun _ h => nomatch h⟩⟩⟩
    f_packed := fnT_of (C := CC K) (st := s_packed) X G (F 2 rfl) (D.def_ 2 (d := d_packed) rfl) bnd_packed
    f_unpacked := fnT_of (C := CC K) (st := s_unpacked) X G (F 3 rfl) (D.def_ 3 (d := d_unpacked) rfl) bnd_unpacked
    f_packed_signed := fnT_of (C := CC K) (st := s_packed_signed) X G (F 4 rfl) (D.def_ 4 (d := d_packed_signed) rfl) bnd_packed_signed
    f_unpacked_signed := fnT_of (C := CC K) (st := s_unpacked_signed) X G (F 5 rfl) (D.def_ 5 (d := d_unpacked_signed) rfl) bnd_unpacked_signed
    f_fits_signed := fnT_of (C := CC K) (st := s_fits_signed) X G (F 6 rfl) (D.def_ 6 (d := d_fits_signed) rfl) bnd_fits_signed
    f_seven := fnT_of (C := CC K) (st := s_seven) X G (F 7 rfl) (D.def_ 7 (d := d_seven) rfl) bnd_seven
    f_read_seven := fnT_of (C := CC K) (st := s_read_seven) X G (F 8 rfl) (D.def_ 8 (d := d_read_seven) rfl) bnd_read_seven
    f_seven_signed := fnT_of (C := CC K) (st := s_seven_signed) X G (F 9 rfl) (D.def_ 9 (d := d_seven_signed) rfl) bnd_seven_signed
    f_read_seven_signed := fnT_of (C := CC K) (st := s_read_seven_signed) X G (F 10 rfl) (D.def_ 10 (d := d_read_seven_signed) rfl) bnd_read_seven_signed
    f_rounded_up := fnT_of (C := CC K) (st := s_rounded_up) X G (F 11 rfl) (D.def_ 11 (d := d_rounded_up) rfl) bnd_rounded_up
    f_is_power := fnT_of (C := CC K) (st := s_is_power) X G (F 12 rfl) (D.def_ 12 (d := d_is_power) rfl) bnd_is_power
    f_text_bytes := fnTC_of (C := CC K) (st := s_text_bytes) X G (F 13 rfl) (D.def_ 13 (d := d_text_bytes) rfl) bnd_text_bytes
    g_text_bytes := ⟨⟨tb_text_bytes.code, tb_text_bytes.bm, tb_text_bytes.gP⟩, List.mem_of_getElem? (i := 1) rfl, List.forall_mem_cons.mpr ⟨(Ne.symm n1_2), List.forall_mem_cons.mpr ⟨(Ne.symm n1_3), fun _ h => nomatch h⟩⟩⟩
    f_text_print := fnT_of (C := CC K) (st := s_text_print) X G (F 14 rfl) (D.def_ 14 (d := d_text_print) rfl) bnd_text_print
    f_bytes_print := fnT_of (C := CC K) (st := s_bytes_print) X G (F 15 rfl) (D.def_ 15 (d := d_bytes_print) rfl) bnd_bytes_print
    f_told_hex := fnT_of (C := CC K) (st := s_told_hex) X G (F 16 rfl) (D.def_ 16 (d := d_told_hex) rfl) bnd_told_hex
    f_sign_of := fnT_of (C := CC K) (st := s_sign_of) X G (F 17 rfl) (D.def_ 17 (d := d_sign_of) rfl) bnd_sign_of
    f_bytes_text := fnT_of (C := CC K) (st := s_bytes_text) X G (F 18 rfl) (D.def_ 18 (d := d_bytes_text) rfl) bnd_bytes_text
    f__law_dice := fnT_of (C := CC K) (st := s__law_dice) X G (F 19 rfl) (D.def_ 19 (d := d__law_dice) rfl) bnd__law_dice
    f__law_roll := fnT_of (C := CC K) (st := s__law_roll) X G (F 20 rfl) (D.def_ 20 (d := d__law_roll) rfl) bnd__law_roll
    f__law_rounds := fnT_of (C := CC K) (st := s__law_rounds) X G (F 21 rfl) (D.def_ 21 (d := d__law_rounds) rfl) bnd__law_rounds
    f__law_number := fnT_of (C := CC K) (st := s__law_number) X G (F 22 rfl) (D.def_ 22 (d := d__law_number) rfl) bnd__law_number
    f__law_seven := fnT_of (C := CC K) (st := s__law_seven) X G (F 23 rfl) (D.def_ 23 (d := d__law_seven) rfl) bnd__law_seven
    f__law_signed := fnT_of (C := CC K) (st := s__law_signed) X G (F 24 rfl) (D.def_ 24 (d := d__law_signed) rfl) bnd__law_signed
    f__law_refused := fnTC_of (C := CC K) (st := s__law_refused) X G (F 25 rfl) (D.def_ 25 (d := d__law_refused) rfl) bnd__law_refused
    l__law_refused := ⟨tb__law_refused, List.mem_of_getElem? (i := 0) rfl, List.forall_mem_cons.mpr ⟨fun _ => rfl, List.forall_mem_cons.mpr ⟨fun e => absurd e (Ne.symm n2_3), fun _ h => nomatch h⟩⟩, List.forall_mem_cons.mpr ⟨n0_2, List.forall_mem_cons.mpr ⟨n1_2, fun _ h => nomatch h⟩⟩⟩
    f__law_plain := fnT_of (C := CC K) (st := s__law_plain) X G (F 26 rfl) (D.def_ 26 (d := d__law_plain) rfl) bnd__law_plain
    f_law := fnTC_of (C := CC K) (st := s_law) X G (F 27 rfl) (D.def_ 27 (d := d_law) rfl) bnd_law
    l_law := ⟨tb_law, List.mem_of_getElem? (i := 1) rfl, List.forall_mem_cons.mpr ⟨fun e => absurd e n2_3, List.forall_mem_cons.mpr ⟨fun _ => rfl, fun _ h => nomatch h⟩⟩, List.forall_mem_cons.mpr ⟨n0_3, List.forall_mem_cons.mpr ⟨n1_3, fun _ h => nomatch h⟩⟩⟩
    t__law_told := told_of (C := CC K) (st := s__law_told) (y := [87, 111, 114, 100, 69, 114, 114, 111, 114]) X G (F 28 rfl) (D.def_ 28 (d := d__law_told) rfl) bnd__law_told rfl ⟨rfl, rfl, rfl, by decide +kernel, rfl, by decide +kernel, by decide +kernel⟩ (.inl rfl) (by rfl) rfl (F 29 rfl) (fun c hc => match c, hc with
    | 0, _ => He.exm_ok (F 33 rfl)
    | 1, _ => He.exm_ok (F 34 rfl)
    | n + 2, h => absurd h (by simp [nEx])) (by decide) (by decide) (by decide) (by decide)
    b_range := He.free_ok X G (F 35 rfl)
    b_any := He.free_ok X G (F 36 rfl)
    b_tuple := He.free_ok X G (F 37 rfl)
    b_len := He.free_ok X G (F 38 rfl)
    b_ord := He.free_ok X G (F 39 rfl)
    b_abs := He.free_ok X G (F 40 rfl)
    b_int := He.free_ok X G (F 41 rfl)
    b_enumerate := He.free_ok X G (F 42 rfl)
    b_list := He.free_ok X G (F 43 rfl)
    c___name__ := conS_of (C := CC K) X G (F 44 rfl)
    c_MOST_BYTES := conI_of (C := CC K) X G (F 45 rfl)
    c_SIGNS := conS_of (C := CC K) X G (F 46 rfl)
    x_WordError := excT_of (C := CC K) X G rfl (F 29 rfl) (F 30 rfl)
    x_LinkFault := excT_of (C := CC K) X G rfl (F 31 rfl) (F 32 rfl) }
end
end K01

set_option Elab.async false
set_option linter.all false
set_option maxRecDepth 100000
set_option maxHeartbeats 0
namespace K01
open PySem PySem.Spec PyProof.Rows L2 Pv
abbrev R : PySem.W.OpenRow := PySem.W.OpenLaw.row PySem.Challenge.rw_linkstack_k01_words_as_bytes
abbrev hk : PySem.W.Hook := He.hookX 4 hfa hfn [] htf hex
def ob (s : PySem.W.SharedT) : He.AlX := He.obsX 4 hfa hfn [] htf hex (HandSHeadRun.getT s)
theorem ob_eq (s : PySem.W.SharedT) : ob s = hk.obs s.abs := He.obsX_eq (HandSHeadRun.getT_eq s)
def loose : List Str := (["__name__", "LinkFault", "WordError", "MOST_BYTES", "SIGNS", "power_of", "check_bytes", "packed", "unpacked", "packed_signed", "unpacked_signed", "fits_signed", "seven", "read_seven", "seven_signed", "read_seven_signed", "rounded_up", "is_power", "text_print", "bytes_print", "told_hex", "text_bytes", "sign_of", "bytes_text", "_law_dice", "_law_roll", "_law_rounds", "_law_told", "_law_number", "_law_seven"] : List Str) ++ (["_law_signed", "_law_refused", "_law_plain"] : List Str)
theorem run (w : World) : HandSHeadRun.RunEq R (PySem.W.view R.prog [35]) hk ob 4000 loose w := by
  intro os
  kernel_rfl
end K01

set_option Elab.async false
set_option linter.all false
set_option maxRecDepth 100000
set_option maxHeartbeats 0
namespace K01
open PySem PySem.Spec PyProof.Rows L2 Pv
def Plain : Prop := ∀ ns : List Int, ns.length ≤ 63 → (∀ z ∈ ns, Builtin.Int.intBits z ≤ 1048576) → ∃ ys, m_law [.fr (.lst .ex (ns.map D.int))] = .ok (.fr (.bl true)) ys
theorem facts {w : World} {K : PySem.W.Frag} {h : Heap} {mg : Str → Option Value} {f : Addr} (plain : Plain) (X : K.In h) (G : h.Ns mainGlobals mg) (hf : mg ("law" : Str) = some (.ref f)) (c : He.SaysX hfa hfn [] htf hex w h K) :
    LamX.LawAtS PySem.Challenge.rw_linkstack_k01_words_as_bytes w K (L2.CX (PySem.Challenge.rw_linkstack_k01_words_as_bytes).prog w) 13 63 "script" mg f h := by
  have e := hf.symm.trans (He.glo_ok X G (c.t.d.fact 27 (f := .glo "law") rfl))
  cases e
  refine lawAt (C := CC K) (cs := htf.map (He.cT K)) (fun p hp => ?_) (fun p hp => ?_) (fun p hp => ?_) (List.forall_mem_cons.mpr ⟨List.mem_of_getElem? (i := 2) rfl, List.forall_mem_cons.mpr ⟨List.mem_of_getElem? (i := 3) rfl, fun _ h => nomatch h⟩⟩) (List.forall_mem_cons.mpr ⟨List.mem_of_getElem? (i := 0) rfl, List.forall_mem_cons.mpr ⟨List.mem_of_getElem? (i := 1) rfl, fun _ h => nomatch h⟩⟩) (lkfd (C := CC K) (fd := default) (st := s_law) (c.t.d.def_ 27 (d := d_law) rfl) bnd_law) plain (fun base X2 G2 tb => ok_law (txt X2 G2 c tb))
  · obtain ⟨q, hq, rfl⟩ := List.mem_map.mp hp
    exact c.empty q hq
  · obtain ⟨q, hq, rfl⟩ := List.mem_map.mp hp
    exact c.out q hq
  · obtain ⟨q, hq, rfl⟩ := List.mem_map.mp hp
    exact PySem.W.codeHd_of_K X (c.hd q hq)
end K01
open PySem PySem.W PySem.Calls PyProof.Rows
theorem K01_end (plain : K01.Plain) : (PySem.Challenge.rw_linkstack_k01_words_as_bytes).Holds := by
  w_on; o_law
  refine HandSHeadRun.head_any (r := OpenLaw.row PySem.Challenge.rw_linkstack_k01_words_as_bytes) (q := view (OpenLaw.row PySem.Challenge.rw_linkstack_k01_words_as_bytes).prog [35]) (H := K01.hk) (ob := K01.ob) (M := 4000) (loose := K01.loose) (d := HandSHeadRun.topDef (OpenLaw.row PySem.Challenge.rw_linkstack_k01_words_as_bytes).prog 35) (kwd := []) K01.ob_eq
    (by kernel_rfl) (fun s => by kernel_rfl) K01.run (by kernel_rfl) (by kernel_rfl) (by kernel_rfl) (by rfl) (by first | assumption | decide +kernel) (by decide +kernel) ⟨rfl, rfl, rfl, rfl, rfl, by decide +kernel⟩ ?hw ?hc
  case hw => w_witness2
  case hc =>
    refine LamX.walk_ofTsE (l := PySem.Challenge.rw_linkstack_k01_words_as_bytes) (n := 63) (k := 13) (x := "script") (CX := fun w => L2.CX (PySem.Challenge.rw_linkstack_k01_words_as_bytes).prog w) rfl (by decide) (by kernel_rfl) ⟨rfl, by decide, by decide⟩ ?F (fun _ _ _ _ _ c => Pv.cx_never c)
    intro w mg fa h Y G hmg0
    obtain ⟨K, KX, c⟩ := Y
    have hmg : mg ("law" : PySem.Str) = some (.ref fa) := by
      have e : (HandSHeadRun.topDef (OpenLaw.row PySem.Challenge.rw_linkstack_k01_words_as_bytes).prog 35).name = ("law" : PySem.Str) := by kernel_rfl
      rw [← e]
      exact hmg0
    exact ⟨K, KX, K01.facts plain KX G hmg c⟩

theorem PySem.Challenge.cw_linkstack_k01_words_as_bytes_holds : PySem.Challenge.rw_linkstack_k01_words_as_bytes.Holds := by
  exact K01_end fun ns _ _ => K01.plain_law ns
