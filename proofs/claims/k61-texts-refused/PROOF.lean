import PyProof.Rows.All
import Wide.All
import OpenK.AllK
import Wide.FinOn
import HandS.ForMost
import HandS.ForExc
import HandS.Defaults
import HandS.Lambda
import HandS.Wide
import HandS.HeadHook2
import HandS.SetFor
import HandS.Rev
import HandS.Conv
import HandS.IsInst
import KE.KRevIter
import HandS.Deep
import HandS.ExcIs
import HandS.ExcValue
import KE.KExcMore
import HandS.Head0
import HandS.Head1
import HandS.Head2
import KE.KStateDown
import Lean
import HandS.HeadEnd
import HandS.HeadHook1
import KE.SortData
import KE.DatumOrd
import HandS.More
import HandS.Zip
import HandS.Walk
import PyProof.AutoSeq1
import KE.DataFind
import KE.SortKeyHeap
import HandS.SortKw
import HandS.HeadHook4
import HandS.HeadWalk
import KE.KNestM
import HandS.Text
import HandS.FStr
import PyProof.StrOps2
import HandS.Codes
import PySem.Challenge.RW_bridgecrews_k61_texts_refused
set_option Elab.async false
set_option linter.all false
set_option maxRecDepth 100000
set_option maxHeartbeats 8000000
namespace Br
open PySem PySem.Spec L2

/-- what an expression comes to: a value, an error of a class, or nothing is said -/
inductive Rs (α : Type) where
  | ok (a : α) | er (c : String) | no
/-- what a statement comes to -/
inductive Fl (B R S : Type) where
  | nx (s : S) | rt (r : R) | bk (b : B) | ct (b : B) | er (c : String) | no
section
variable {α β B R S T : Type}
def Rs.b (m : Rs α) (f : α → Rs β) : Rs β := match m with
  | .ok a => f a
  | .er c => .er c
  | .no => .no
def Fl.b (m : Fl B R S) (f : S → Fl B R T) : Fl B R T := match m with
  | .nx s => f s
  | .rt r => .rt r
  | .bk x => .bk x
  | .ct x => .ct x
  | .er c => .er c
  | .no => .no
/-- an expression's value handed to the rest of a block -/
def Rs.f (m : Rs α) (f : α → Fl B R T) : Fl B R T := match m with
  | .ok a => f a
  | .er c => .er c
  | .no => .no
def Out (m : Rs α) (P : α → Prop) (E : String → Prop) : Prop := match m with
  | .ok a => P a
  | .er c => E c
  | .no => False
structure FP (B R S : Type) where
  nx : S → Prop
  rt : R → Prop
  bk : B → Prop
  ct : B → Prop
  er : String → Prop
def OutF (m : Fl B R S) (D : FP B R S) : Prop := match m with
  | .nx s => D.nx s
  | .rt r => D.rt r
  | .bk b => D.bk b
  | .ct b => D.ct b
  | .er c => D.er c
  | .no => False
theorem Out.bind {m : Rs α} {f : α → Rs β} {P : β → Prop} {E : String → Prop} (h : Out (m.b f) P E) : Out m (fun a => Out (f a) P E) E := by
  cases m <;> exact h
theorem Out.mono {m : Rs α} {P P' : α → Prop} {E E' : String → Prop} (h : Out m P E) (k : ∀ a, m = .ok a → P a → P' a) (e : ∀ c, E c → E' c) : Out m P' E' := by
  cases m with
  | ok a => exact k a rfl h
  | er c => exact e c h
  | no => exact h
theorem OutF.bind {m : Fl B R S} {f : S → Fl B R T} {D : FP B R T} (h : OutF (m.b f) D) : OutF m ⟨fun s => OutF (f s) D, D.rt, D.bk, D.ct, D.er⟩ := by
  cases m <;> exact h
theorem OutF.bindR {m : Rs α} {f : α → Fl B R T} {D : FP B R T} (h : OutF (m.f f) D) : Out m (fun a => OutF (f a) D) D.er := by
  cases m <;> exact h
theorem OutF.mono {m : Fl B R S} {D D' : FP B R S} (h : OutF m D) (n : ∀ s, m = .nx s → D.nx s → D'.nx s) (r : ∀ s, D.rt s → D'.rt s) (b : ∀ s, D.bk s → D'.bk s) (c : ∀ s, D.ct s → D'.ct s) (e : ∀ s, D.er s → D'.er s) : OutF m D' := by
  cases m with
  | nx s => exact n s rfl h
  | rt s => exact r s h
  | bk s => exact b s h
  | ct s => exact c s h
  | er s => exact e s h
  | no => exact h
end

/-- the tables of code objects that are known, each with the name that its code objects bear -/
class Tbs where
  T : List (Addr × Str)
  fn : ∀ p ∈ T, ∀ p' ∈ T, p.1 = p'.1 → p.2 = p'.2
variable [tgi : Tbs]
/-- neither a table of code objects nor a code object -/
def Pl (o : HO) : Prop := (∀ ps, o ≠ .tbl ps) ∧ ∀ p, o ≠ .ext p
def Nb (o : HO) : Prop := ∀ ps, o ≠ .tbl ps
/-- all stays, but tables grow -/
structure Le (F F' : Hp) : Prop where
  nt : ∀ b o, F b = some o → (∀ ps, o ≠ .tbl ps) → F' b = some o
  tb : ∀ p ∈ tgi.T, LamX.TabS F p.1 p.2 → LamX.TabS F' p.1 p.2
theorem Le.of {F F' : Hp} (e : ∀ b o, F b = some o → F' b = some o) : Le F F' := ⟨fun b o h _ => e b o h, fun _ _ t => t.ext e⟩
theorem Le.at {F F' : Hp} (l : Le F F') (b : Addr) (o : HO) (h : F b = some o) (n : Nb o := by first | exact fun _ z => (nomatch z) | exact fun _ z => (by cases z)) : F' b = some o := l.nt b o h n
instance {F F' : Hp} : CoeFun (Le F F') (fun _ => ∀ (b : Addr) (o : HO), F b = some o → (n : Nb o := by first | exact fun _ z => (nomatch z) | exact fun _ z => (by cases z)) → F' b = some o) := ⟨fun l => @Le.at _ F F' l⟩
theorem Le.sq {F F' : Hp} (l : Le F F') {K : PySem.W.Frag} {a : Addr} {xs : List V} (h : SqL K F a xs) : SqL K F' a xs := by
  rcases h with (h | ⟨o, h⟩) | h
  · exact .inl (.inl (l _ _ h))
  · exact .inl (.inr ⟨o, l _ _ h⟩)
  · exact .inr h
theorem Le.rfl {F : Hp} : Le F F := .of fun _ _ h => h
theorem Le.tr {F F' F'' : Hp} (a : Le F F') (b : Le F' F'') : Le F F'' := ⟨fun x o h n => b.nt x o (a.nt x o h n) n, fun p m t => b.tb p m (a.tb p m t)⟩
def emp : Hp := fun _ => none
def one (p : Addr) (o : HO) : Hp := fun x => if x = p then some o else none
def jn (a b : Hp) : Hp := fun x => match a x with
  | some o => some o
  | none => b x
def Dj (a b : Hp) : Prop := ∀ x, a x = none ∨ b x = none
theorem Dj.symm {a b : Hp} (h : Dj a b) : Dj b a := fun x => (h x).symm
theorem one_same {p : Addr} {o : HO} : one p o p = some o := by unfold one; rw [if_pos rfl]
theorem one_some {p x : Addr} {o u : HO} (h : one p o x = some u) : x = p ∧ u = o := by
  unfold one at h
  split at h
  · rename_i e
    exact ⟨e, (Option.some.inj h).symm⟩
  · cases h
/-- H is put together of the parts l -/
def Pt (l : List Hp) (H : Hp) : Prop := l.Pairwise Dj ∧ ∀ x o, H x = some o ↔ ∃ h, h ∈ l ∧ h x = some o
section
variable {l l' : List Hp} {H H' a b c F h : Hp} {p x : Addr} {o o' : HO}
theorem Pt.perm (t : Pt l H) (e : l.Perm l') : Pt l' H :=
  ⟨(e.pairwise_iff Dj.symm).mp t.1, fun x o => (t.2 x o).trans ⟨fun ⟨h, m, q⟩ => ⟨h, e.mem_iff.mp m, q⟩, fun ⟨h, m, q⟩ => ⟨h, e.mem_iff.mpr m, q⟩⟩⟩
theorem Pt.lp (t : Pt l H) (m : h ∈ l) : ∀ x o, h x = some o → H x = some o := fun x o q => (t.2 x o).mpr ⟨h, m, q⟩
theorem Pt.le (t : Pt l H) (m : h ∈ l) : Le h H := .of (t.lp m)
theorem Pt.free (t : Pt l H) (n : H x = none) (m : h ∈ l) : h x = none := by
  cases q : h x with
  | none => rfl
  | some o => rw [t.lp m x o q] at n; cases n
theorem Pt.alloc (t : Pt l H) (n : H p = none) : Pt (one p o :: l) (upd H p o) := by
  refine ⟨List.pairwise_cons.mpr ⟨fun h m x => ?_, t.1⟩, fun x u => ⟨fun q => ?_, fun ⟨h, m, q⟩ => ?_⟩⟩
  · by_cases e : x = p
    · exact .inr (by rw [e]; exact t.free n m)
    · exact .inl (by unfold one; rw [if_neg e])
  · by_cases e : x = p
    · subst e; rw [upd_same] at q; exact ⟨_, List.mem_cons_self, by rw [one_same]; exact q⟩
    · rw [upd_ne e] at q
      obtain ⟨h, m, q⟩ := (t.2 x u).mp q
      exact ⟨h, List.mem_cons_of_mem _ m, q⟩
  · rcases List.mem_cons.mp m with rfl | m
    · obtain ⟨rfl, rfl⟩ := one_some q
      exact upd_same
    · have e : x ≠ p := fun e => by
        have z := t.free n m
        rw [← e, q] at z; cases z
      rw [upd_ne e]
      exact t.lp m x u q
theorem Pt.write (t : Pt (one p o :: l) H) : Pt (one p o' :: l) (upd H p o') := by
  obtain ⟨d, r⟩ := List.pairwise_cons.mp t.1
  have np : ∀ h ∈ l, h p = none := fun h m => by
    rcases d h m p with q | q
    · rw [one_same] at q; cases q
    · exact q
  refine ⟨List.pairwise_cons.mpr ⟨fun h m x => ?_, r⟩, fun x u => ⟨fun q => ?_, fun ⟨h, m, q⟩ => ?_⟩⟩
  · by_cases e : x = p
    · subst e; exact .inr (np h m)
    · exact .inl (by unfold one; rw [if_neg e])
  · by_cases e : x = p
    · subst e; rw [upd_same] at q; exact ⟨_, List.mem_cons_self, by rw [one_same]; exact q⟩
    · rw [upd_ne e] at q
      obtain ⟨h, m, q⟩ := (t.2 x u).mp q
      rcases List.mem_cons.mp m with rfl | m
      · exact absurd (one_some q).1 e
      · exact ⟨h, List.mem_cons_of_mem _ m, q⟩
  · rcases List.mem_cons.mp m with rfl | m
    · obtain ⟨rfl, rfl⟩ := one_some q
      exact upd_same
    · have e : x ≠ p := fun e => by
        have z := np h (by assumption)
        rw [← e, q] at z; cases z
      rw [upd_ne e]
      exact t.lp (List.mem_cons_of_mem _ (by assumption)) x u q
theorem Pt.at1 (t : Pt (one p o :: l) H) : H p = some o := t.lp List.mem_cons_self p o one_same
theorem Pt.nil_emp : Pt [] emp := ⟨List.Pairwise.nil, fun x o => ⟨fun h => (nomatch h), fun ⟨_, m, _⟩ => nomatch m⟩⟩
theorem Pt.sing : Pt [h] h := ⟨List.pairwise_singleton _ _, fun x o => ⟨fun q => ⟨h, List.mem_singleton.mpr rfl, q⟩, fun ⟨u, m, q⟩ => by rw [List.mem_singleton.mp m] at q; exact q⟩⟩
theorem Pt.uniq (t : Pt l H) (t' : Pt l H') : H = H' := by
  funext x
  cases q : H x with
  | none =>
    cases q' : H' x with
    | none => rfl
    | some o => rw [(t.2 x o).mpr ((t'.2 x o).mp q')] at q; cases q
  | some o => rw [(t'.2 x o).mpr ((t.2 x o).mp q)]
theorem Pt.sing_eq (t : Pt [h] H) : H = h := t.uniq .sing
theorem Pt.addE (t : Pt l H) : Pt (emp :: l) H := by
  refine ⟨List.pairwise_cons.mpr ⟨fun h m x => .inl rfl, t.1⟩, fun x o => (t.2 x o).trans ⟨fun ⟨h, m, q⟩ => ⟨h, List.mem_cons_of_mem _ m, q⟩, fun ⟨h, m, q⟩ => ?_⟩⟩
  rcases List.mem_cons.mp m with rfl | m
  · cases q
  · exact ⟨h, m, q⟩
theorem Pt.dropE (t : Pt (emp :: l) H) : Pt l H := by
  refine ⟨(List.pairwise_cons.mp t.1).2, fun x o => (t.2 x o).trans ⟨fun ⟨h, m, q⟩ => ?_, fun ⟨h, m, q⟩ => ⟨h, List.mem_cons_of_mem _ m, q⟩⟩⟩
  rcases List.mem_cons.mp m with rfl | m
  · cases q
  · exact ⟨h, m, q⟩
/-- some parts made one -/
def jnl : List Hp → Hp
  | [] => emp
  | h :: t => jn h (jnl t)
theorem jn_some {u : HO} : jn a b x = some u → a x = some u ∨ b x = some u := by
  unfold jn
  intro q
  split at q
  · rename_i e; left; rw [e]; exact q
  · exact .inr q
theorem jnl_pt : ∀ {l : List Hp}, l.Pairwise Dj → Pt l (jnl l)
  | [], _ => .nil_emp
  | h :: t, d => by
    obtain ⟨d1, d2⟩ := List.pairwise_cons.mp d
    have ih := jnl_pt d2
    refine ⟨d, fun x o => ⟨fun q => ?_, fun ⟨u, m, q⟩ => ?_⟩⟩
    · rcases jn_some (show jn h (jnl t) x = some o from q) with q | q
      · exact ⟨h, List.mem_cons_self, q⟩
      · obtain ⟨u, m, q⟩ := (ih.2 x o).mp q
        exact ⟨u, List.mem_cons_of_mem _ m, q⟩
    · show jn h (jnl t) x = some o
      unfold jn
      rcases List.mem_cons.mp m with rfl | m
      · rw [q]
      · rcases d1 u m x with z | z
        · rw [z]; exact (ih.2 x o).mpr ⟨u, m, q⟩
        · rw [z] at q; cases q
theorem Pt.fold (t : Pt (l ++ l') H) : Pt (jnl l :: l') H := by
  obtain ⟨d1, d2, d3⟩ := List.pairwise_append.mp t.1
  have j := jnl_pt d1
  refine ⟨List.pairwise_cons.mpr ⟨fun h m x => ?_, d2⟩, fun x o => (t.2 x o).trans ⟨fun ⟨h, m, q⟩ => ?_, fun ⟨h, m, q⟩ => ?_⟩⟩
  · cases q : jnl l x with
    | none => exact .inl rfl
    | some o =>
      obtain ⟨u, m', q'⟩ := (j.2 x o).mp q
      rcases d3 u m' h m x with z | z
      · rw [z] at q'; cases q'
      · exact .inr z
  · rcases List.mem_append.mp m with m | m
    · exact ⟨_, List.mem_cons_self, (j.2 x o).mpr ⟨h, m, q⟩⟩
    · exact ⟨h, List.mem_cons_of_mem _ m, q⟩
  · rcases List.mem_cons.mp m with rfl | m
    · obtain ⟨u, m', q'⟩ := (j.2 x o).mp q
      exact ⟨u, List.mem_append_left _ m', q'⟩
    · exact ⟨h, List.mem_append_right _ m, q⟩
theorem Pt.unfold (t : Pt (c :: l') H) (j : Pt l c) : Pt (l ++ l') H := by
  obtain ⟨d1, d2⟩ := List.pairwise_cons.mp t.1
  refine ⟨List.pairwise_append.mpr ⟨j.1, d2, fun u m h m' x => ?_⟩, fun x o => (t.2 x o).trans ⟨fun ⟨h, m, q⟩ => ?_, fun ⟨h, m, q⟩ => ?_⟩⟩
  · cases q : u x with
    | none => exact .inl rfl
    | some o =>
      rcases d1 h m' x with z | z
      · rw [j.lp m x o q] at z; cases z
      · exact .inr z
  · rcases List.mem_cons.mp m with rfl | m
    · obtain ⟨u, m', q'⟩ := (j.2 x o).mp q
      exact ⟨u, List.mem_append_left _ m', q'⟩
    · exact ⟨h, List.mem_append_right _ m, q⟩
  · rcases List.mem_append.mp m with m | m
    · exact ⟨c, List.mem_cons_self, (j.2 x o).mpr ⟨h, m, q⟩⟩
    · exact ⟨h, List.mem_cons_of_mem _ m, q⟩
theorem Pt.jl (t : Pt l H) (m : List.Sublist l' l) : Pt l' (jnl l') := jnl_pt (t.1.sublist m)
/-- two parts made one -/
theorem Pt.join2 (t : Pt (a :: b :: l) H) : ∃ c, Pt [a, b] c ∧ Pt (c :: l) H :=
  ⟨jnl [a, b], jnl_pt (t.1.sublist (by simp)), Pt.fold (l := [a, b]) t⟩
theorem Pt.split2 (t : Pt (c :: l) H) (j : Pt [a, b] c) : Pt (a :: b :: l) H := t.unfold j
theorem Pt.swap (t : Pt (a :: b :: l) H) : Pt (b :: a :: l) H := t.perm (.swap _ _ _)
theorem Pt.swap1 (t : Pt (c :: a :: b :: l) H) : Pt (c :: b :: a :: l) H := t.perm (.cons _ (.swap _ _ _))
theorem Pt.swap2 {d : Hp} (t : Pt (c :: d :: a :: b :: l) H) : Pt (c :: d :: b :: a :: l) H := t.perm (.cons _ (.cons _ (.swap _ _ _)))
/-- the part h goes into F -/
theorem Pt.leak (t : Pt (F :: h :: l) H) : ∃ F', Le F F' ∧ Le h F' ∧ Pt (F' :: l) H := by
  obtain ⟨c, j, t'⟩ := t.join2
  exact ⟨c, j.le (by simp), j.le (by simp), t'⟩
theorem Pt.comm (t : Pt [a, b] c) : Pt [b, a] c := t.swap
theorem Pt.emp_r (t : Pt [a, emp] c) : c = a := (t.swap.dropE).sing_eq
theorem Pt.emp_l (t : Pt [emp, a] c) : c = a := t.dropE.sing_eq
theorem Pt.r_emp : Pt [a, emp] a := Pt.swap (Pt.addE .sing)
theorem Pt.l_emp : Pt [emp, a] a := Pt.addE .sing
theorem Pt.of_emp (t : Pt [a, b] emp) : a = emp ∧ b = emp := by
  constructor
  · funext x
    cases q : a x with
    | none => rfl
    | some o => have := t.lp (h := a) (by simp) x o q; cases this
  · funext x
    cases q : b x with
    | none => rfl
    | some o => have := t.lp (h := b) (by simp) x o q; cases this
/-- (a b) c = a (b c) -/
theorem Pt.assoc {ab : Hp} (t : Pt [ab, c] H) (j : Pt [a, b] ab) : ∃ bc, Pt [b, c] bc ∧ Pt [a, bc] H := by
  have u : Pt [a, b, c] H := t.unfold j
  have u2 : Pt [b, c, a] H := u.perm (by
    exact (List.perm_append_comm (l₁ := [a]) (l₂ := [b, c])))
  obtain ⟨bc, k, v⟩ := u2.join2
  exact ⟨bc, k, v.swap⟩
end

/-- no table, no code object -/
def NtX (h : Hp) : Prop := ∀ b o, h b = some o → Pl o
theorem cl_emp : NtX emp := fun _ _ z => nomatch z
theorem cl_one {p : Addr} {o : HO} (n : Pl o := by exact ⟨fun _ z => (nomatch z), fun _ z => (nomatch z)⟩) : NtX (one p o) := fun _ _ z => (one_some z).2 ▸ n
theorem Pt.cl {l : List Hp} {H : Hp} (t : Pt l H) (c : ∀ h ∈ l, NtX h) : NtX H := fun x o q => by
  obtain ⟨h, m, q⟩ := (t.2 x o).mp q
  exact c h m x o q
theorem Pt.cl2 {a b H : Hp} (t : Pt [a, b] H) (c : NtX a) (d : NtX b) : NtX H := t.cl fun h m => by
  rcases List.mem_cons.mp m with e | m
  · exact e ▸ c
  · exact List.mem_singleton.mp m ▸ d
structure Asn where
  p : V → Hp → Hp → Prop
  mono : ∀ {v F F' h}, Le F F' → p v F h → p v F' h
  cl : ∀ {v F h}, p v F h → NtX h
/-- nothing of its own -/
def Per (A : Asn) : Prop := ∀ v F h, A.p v F h → h = emp
/-- what says nothing of the frozen part -/
def NoF (A : Asn) : Prop := ∀ v F F' h, A.p v F h → A.p v F' h
def aV (v₀ : V) : Asn := ⟨fun v _ h => v = v₀ ∧ h = emp, fun _ q => q, fun q => q.2 ▸ cl_emp⟩
abbrev aI (i : Int) : Asn := aV (.int i)
abbrev aB (b : Bool) : Asn := aV (.bl b)
abbrev aS (s : Str) : Asn := aV (.str s)
abbrev aN : Asn := aV .non
abbrev aU (_ : Unit) : Asn := aV .non
theorem aV_per {v : V} : Per (aV v) := fun _ _ _ q => q.2
theorem aV_nof {v : V} : NoF (aV v) := fun _ _ _ _ q => q
/-- one by one, apart from each other -/
def Sep : List Asn → List V → Hp → Hp → Prop
  | [], [], _, h => h = emp
  | A :: As, v :: vs, F, h => ∃ h1 h2, Pt [h1, h2] h ∧ A.p v F h1 ∧ Sep As vs F h2
  | _, _, _, _ => False
theorem Sep.mono {F F' : Hp} (le : Le F F') : ∀ {As : List Asn} {vs : List V} {h : Hp}, Sep As vs F h → Sep As vs F' h
  | [], [], _, q => q
  | A :: As, v :: vs, _, ⟨h1, h2, t, p, r⟩ => ⟨h1, h2, t, A.mono le p, Sep.mono le r⟩
theorem Sep.cl {F : Hp} : ∀ {As : List Asn} {vs : List V} {h : Hp}, Sep As vs F h → NtX h
  | [], [], _, q => by
    have q : _ = emp := q
    exact q ▸ cl_emp
  | A :: As, v :: vs, _, ⟨h1, h2, t, p, r⟩ => t.cl2 (A.cl p) (Sep.cl r)
theorem Sep.len {F : Hp} : ∀ {As : List Asn} {vs : List V} {h : Hp}, Sep As vs F h → As.length = vs.length
  | [], [], _, _ => rfl
  | _ :: _, _ :: _, _, ⟨_, _, _, _, r⟩ => by simp [r.len]
theorem Sep.per {F : Hp} : ∀ {As : List Asn} {vs : List V} {h : Hp}, (∀ A ∈ As, Per A) → Sep As vs F h → h = emp
  | [], [], _, _, q => q
  | A :: As, v :: vs, _, pp, ⟨h1, h2, t, p, r⟩ => by
    have e1 := pp A List.mem_cons_self _ _ _ p
    have e2 := Sep.per (fun B m => pp B (List.mem_cons_of_mem _ m)) r
    subst e1 e2
    exact t.emp_r
/-- the i-th one -/
theorem Sep.get {F : Hp} : ∀ {As : List Asn} {vs : List V} {h : Hp} {i : Nat} {A : Asn}, Sep As vs F h → As[i]? = some A → ∃ v h1 h2, vs[i]? = some v ∧ Pt [h1, h2] h ∧ A.p v F h1
  | A :: As, v :: vs, _, 0, _, ⟨h1, h2, t, p, r⟩, e => by
    simp at e; subst e
    exact ⟨v, h1, h2, rfl, t, p⟩
  | A :: As, v :: vs, _, i + 1, B, ⟨h1, h2, t, p, r⟩, e => by
    obtain ⟨w, g1, g2, e', t', p'⟩ := Sep.get (i := i) (A := B) r (by simpa using e)
    have u : Pt [g1, g2, h1] _ := (t.swap).unfold t'
    obtain ⟨c, j, z⟩ := (u.perm (l' := [g2, h1, g1]) (List.perm_append_comm (l₁ := [g1]) (l₂ := [g2, h1]))).join2
    exact ⟨w, g1, c, by simpa using e', z.swap, p'⟩
  | [], [], _, _, _, _, e => by simp at e
/-- where nothing is owned -/
theorem Sep.getE {F : Hp} {As : List Asn} {vs : List V} {i : Nat} {A : Asn} (s : Sep As vs F emp) (e : As[i]? = some A) : ∃ v, vs[i]? = some v ∧ A.p v F emp := by
  obtain ⟨v, h1, h2, e', t, p⟩ := s.get e
  obtain ⟨rfl, rfl⟩ := t.of_emp
  exact ⟨v, e', p⟩
theorem Sep.append {F : Hp} : ∀ {As Bs : List Asn} {vs ws : List V} {h h' H : Hp}, Sep As vs F h → Sep Bs ws F h' → Pt [h, h'] H → Sep (As ++ Bs) (vs ++ ws) F H
  | [], _, [], _, h, h', H, e, s, t => by
    have e' : h = emp := e
    subst e'
    rw [t.emp_l]
    exact s
  | A :: As, _, v :: vs, _, h, h', H, ⟨h1, h2, t, p, r⟩, s, u => by
    obtain ⟨bc, k, z⟩ := u.assoc t
    exact ⟨h1, bc, z, p, Sep.append r s k⟩
theorem Sep.sing {F : Hp} {A : Asn} {v : V} {h : Hp} (p : A.p v F h) : Sep [A] [v] F h := ⟨h, emp, .r_emp, p, rfl⟩
/-- a frozen list; one that is only read (the script, a list of the module's); a frozen tuple -/
def aL (As : List Asn) : Asn := ⟨fun v F h => h = emp ∧ ∃ a vs, v = .ref a ∧ F a = some (.lst vs) ∧ Sep As vs F emp, fun le q => by
  obtain ⟨e, a, vs, e1, s, r⟩ := q
  exact ⟨e, a, vs, e1, le _ _ s, r.mono le⟩, fun q => q.1 ▸ cl_emp⟩
def aQ (K : PySem.W.Frag) (As : List Asn) : Asn := ⟨fun v F h => h = emp ∧ ∃ a vs, v = .ref a ∧ SqL K F a vs ∧ Sep As vs F emp, fun le q => by
  obtain ⟨e, a, vs, e1, s, r⟩ := q
  exact ⟨e, a, vs, e1, le.sq s, r.mono le⟩, fun q => q.1 ▸ cl_emp⟩
def aT (As : List Asn) : Asn := ⟨fun v F h => h = emp ∧ ∃ a vs, v = .ref a ∧ F a = some (.tup vs) ∧ Sep As vs F emp, fun le q => by
  obtain ⟨e, a, vs, e1, s, r⟩ := q
  exact ⟨e, a, vs, e1, le _ _ s, r.mono le⟩, fun q => q.1 ▸ cl_emp⟩
/-- one's own list, tuple -/
def oL (As : List Asn) : Asn := ⟨fun v F h => ∃ a vs h', v = .ref a ∧ Pt [one a (.lst vs), h'] h ∧ Sep As vs F h', fun le q => by
  obtain ⟨a, vs, h', e1, t, r⟩ := q
  exact ⟨a, vs, h', e1, t, r.mono le⟩, fun ⟨a, vs, h', e1, t, r⟩ => t.cl2 cl_one r.cl⟩
/-- one's own tuple: the tuple itself is frozen from the first, its parts are one's own -/
def oT (As : List Asn) : Asn := ⟨fun v F h => ∃ a vs, v = .ref a ∧ F a = some (.tup vs) ∧ Sep As vs F h, fun le q => by
  obtain ⟨a, vs, e1, t, r⟩ := q
  exact ⟨a, vs, e1, le _ _ t, r.mono le⟩, fun ⟨a, vs, e1, t, r⟩ => r.cl⟩
theorem aL_per {As : List Asn} : Per (aL As) := fun _ _ _ q => q.1
theorem aQ_per {K : PySem.W.Frag} {As : List Asn} : Per (aQ K As) := fun _ _ _ q => q.1
theorem aT_per {As : List Asn} : Per (aT As) := fun _ _ _ q => q.1
/-- what is one's own becomes frozen -/
def Frz (A B : Asn) : Prop := ∀ v F h F', A.p v F h → Le F F' → Le h F' → B.p v F' emp
theorem Frz.per {A : Asn} (p : Per A) : Frz A A := fun v F h F' q le _ => by
  have e := p _ _ _ q
  subst e
  exact A.mono le q
inductive FrzL : List Asn → List Asn → Prop
  | nil : FrzL [] []
  | cons {A B As Bs} : Frz A B → FrzL As Bs → FrzL (A :: As) (B :: Bs)
theorem Sep.frz : ∀ {As Bs : List Asn} {vs : List V} {F F' h : Hp}, FrzL As Bs → Sep As vs F h → Le F F' → Le h F' → Sep Bs vs F' emp
  | [], [], [], _, _, _, _, _, _, _ => rfl
  | _ :: _, _ :: _, _ :: _, _, _, _, .cons f g, ⟨h1, h2, t, p, r⟩, le, lh =>
    ⟨emp, emp, .r_emp, f _ _ _ _ p le ((t.le (by simp)).tr lh), Sep.frz g r le ((t.le (by simp)).tr lh)⟩
theorem FrzL.map {α : Type} {A B : α → Asn} (f : ∀ x, Frz (A x) (B x)) : ∀ xs : List α, FrzL (xs.map A) (xs.map B)
  | [] => .nil
  | x :: xs => .cons (f x) (FrzL.map f xs)
theorem frz_oL {As Bs : List Asn} (f : FrzL As Bs) : Frz (oL As) (aL Bs) := fun v F h F' q le lh => by
  obtain ⟨a, vs, h', e1, t, r⟩ := q
  exact ⟨rfl, a, vs, e1, lh _ _ (t.at1), r.frz f le ((t.le (by simp)).tr lh)⟩
theorem frz_oT {As Bs : List Asn} (f : FrzL As Bs) : Frz (oT As) (aT Bs) := fun v F h F' q le lh => by
  obtain ⟨a, vs, e1, t, r⟩ := q
  exact ⟨rfl, a, vs, e1, le _ _ t, r.frz f le lh⟩
def aO {α : Type} (A : α → Asn) : Option α → Asn
  | none => aN
  | some x => A x
theorem aO_per {α : Type} {A : α → Asn} (p : ∀ x, Per (A x)) : ∀ o, Per (aO A o)
  | none => aV_per
  | some x => p x
theorem frz_aO {α : Type} {A B : α → Asn} (f : ∀ x, Frz (A x) (B x)) : ∀ o, Frz (aO A o) (aO B o)
  | none => .per aV_per
  | some x => f x
/-- at a known address -/
def atv (v₀ : V) (A : Asn) : Asn := ⟨fun v F h => v = v₀ ∧ A.p v F h, fun le q => ⟨q.1, A.mono le q.2⟩, fun q => A.cl q.2⟩

def TgOk (F : Hp) : Prop := LamX.Tabs tgi.T F
theorem TgOk.mono {F F' : Hp} (le : Le F F') (t : TgOk F) : TgOk F' := fun p m => le.tb p m (t p m)
abbrev Ctx := List (Option Asn)
def SlotP (g : Option Asn) (x : Option V) (F h : Hp) : Prop := match g with
  | none => h = emp
  | some A => ∃ v, x = some v ∧ A.p v F h
def Slots : Ctx → St → Hp → Hp → Prop
  | [], [], F, O => O = emp ∧ TgOk F
  | g :: Γ, x :: σ, F, O => ∃ h O', Pt [h, O'] O ∧ SlotP g x F h ∧ Slots Γ σ F O'
  | _, _, _, _ => False
theorem SlotP.mono {g : Option Asn} {x : Option V} {F F' h : Hp} (le : Le F F') (q : SlotP g x F h) : SlotP g x F' h := by
  cases g with
  | none => exact q
  | some A =>
    obtain ⟨v, e, p⟩ := q
    exact ⟨v, e, A.mono le p⟩
theorem Slots.mono {F F' : Hp} (le : Le F F') : ∀ {Γ : Ctx} {σ : St} {O : Hp}, Slots Γ σ F O → Slots Γ σ F' O
  | [], [], _, q => ⟨q.1, q.2.mono le⟩
  | _ :: _, _ :: _, _, ⟨h, O', t, p, r⟩ => ⟨h, O', t, p.mono le, Slots.mono le r⟩
theorem Slots.tgo {F : Hp} : ∀ {Γ : Ctx} {σ : St} {O : Hp}, Slots Γ σ F O → TgOk F
  | [], [], _, q => q.2
  | _ :: _, _ :: _, _, ⟨_, _, _, _, r⟩ => Slots.tgo r
theorem Slots.cl {F : Hp} : ∀ {Γ : Ctx} {σ : St} {O : Hp}, Slots Γ σ F O → NtX O
  | [], [], _, q => q.1 ▸ cl_emp
  | g :: _, _ :: _, _, ⟨h, O', t, p, r⟩ => t.cl2 (match g, p with
    | none, p => by
      have p : h = emp := p
      exact p ▸ cl_emp
    | some A, ⟨v, e, p⟩ => A.cl p) (Slots.cl r)
theorem Slots.len {F : Hp} : ∀ {Γ : Ctx} {σ : St} {O : Hp}, Slots Γ σ F O → Γ.length = σ.length
  | [], [], _, _ => rfl
  | _ :: _, _ :: _, _, ⟨_, _, _, _, r⟩ => by simp [r.len]
/-- take slot i's own part out -/
theorem Slots.take {F : Hp} : ∀ {Γ : Ctx} {σ : St} {O : Hp} {i : Nat} {g : Option Asn}, Slots Γ σ F O → Γ[i]? = some g → ∃ x h O', σ[i]? = some x ∧ Pt [h, O'] O ∧ SlotP g x F h ∧ Slots (Γ.set i none) σ F O'
  | g :: Γ, x :: σ, O, 0, _, ⟨h, O', t, p, r⟩, e => by
    simp at e; subst e
    exact ⟨x, h, O', rfl, t, p, emp, O', .l_emp, rfl, r⟩
  | g :: Γ, x :: σ, O, i + 1, g', ⟨h, O', t, p, r⟩, e => by
    obtain ⟨y, h1, O1, e', t', p', r'⟩ := Slots.take (i := i) (g := g') r (by simpa using e)
    have u : Pt [h1, O1, h] O := (t.swap).unfold t'
    obtain ⟨c, j, z⟩ := (u.perm (l' := [O1, h, h1]) (List.perm_append_comm (l₁ := [h1]) (l₂ := [O1, h]))).join2
    exact ⟨y, h1, c, by simpa using e', z.swap, p', h, O1, j.swap, p, r'⟩
  | [], [], _, _, _, _, e => by simp at e
/-- put a value into an empty slot -/
theorem Slots.put {F : Hp} : ∀ {Γ : Ctx} {σ : St} {O h O' : Hp} {i : Nat} {A : Asn} {v : V}, Slots Γ σ F O → Γ[i]? = some none → A.p v F h → Pt [h, O] O' → Slots (Γ.set i (some A)) (σ.set i (some v)) F O'
  | g :: Γ, x :: σ, O, h, O', 0, A, v, ⟨h0, O0, t, p, r⟩, e, q, u => by
    simp at e; subst e
    have e0 : h0 = emp := p
    subst e0
    rw [t.emp_l] at u
    exact ⟨h, O0, u, ⟨v, rfl, q⟩, r⟩
  | g :: Γ, x :: σ, O, h, O', i + 1, A, v, ⟨h0, O0, t, p, r⟩, e, q, u => by
    -- [h, O] O', [h0, O0] O
    have w : Pt [h0, O0, h] O' := (u.swap).unfold t
    obtain ⟨c, j, z⟩ := (w.perm (l' := [O0, h, h0]) (List.perm_append_comm (l₁ := [h0]) (l₂ := [O0, h]))).join2
    exact ⟨h0, c, z.swap, p, Slots.put (i := i) r (by simpa using e) q j.swap⟩
  | [], [], _, _, _, _, _, _, _, e, _, _ => by simp at e
/-- the same where the value is there already -/
theorem Slots.put' {F : Hp} : ∀ {Γ : Ctx} {σ : St} {O h O' : Hp} {i : Nat} {A : Asn} {v : V}, Slots Γ σ F O → Γ[i]? = some none → σ[i]? = some (some v) → A.p v F h → Pt [h, O] O' → Slots (Γ.set i (some A)) σ F O' := fun {Γ σ O h O' i A v} s e e2 q u => by
  have := s.put e q u
  have z : σ.set i (some v) = σ := by
    apply List.ext_getElem?
    intro n
    by_cases hn : i = n
    · subst hn
      rw [List.getElem?_set_self (by have := List.getElem?_eq_some_iff.mp e2; exact this.1), e2]
    · rw [List.getElem?_set_ne hn]
  rw [z] at this
  exact this
theorem set_none_at {Γ : Ctx} {i : Nat} {g : Option Asn} (e : Γ[i]? = some g) : (Γ.set i none)[i]? = some none := by
  rw [List.getElem?_set_self (List.getElem?_eq_some_iff.mp e).1]
theorem set_set {Γ : Ctx} {i : Nat} {a b : Option Asn} : (Γ.set i a).set i b = Γ.set i b := by simp
/-- a slot's value where nothing is its own -/
theorem Slots.per {F : Hp} {Γ : Ctx} {σ : St} {O : Hp} {i : Nat} {A : Asn} (s : Slots Γ σ F O) (e : Γ[i]? = some (some A)) (pr : Per A) : ∃ v, σ[i]? = some (some v) ∧ A.p v F emp := by
  obtain ⟨x, h, O', e', t, ⟨v, rfl, p⟩, _⟩ := s.take e
  have := pr _ _ _ p
  subst this
  exact ⟨v, e', p⟩
/-- a slot forgotten: what it owned becomes frozen -/
theorem Slots.kill {F : Hp} {Γ : Ctx} {σ : St} {O H : Hp} {Rs : List Hp} {i : Nat} (s : Slots Γ σ F O) (t : Pt (F :: O :: Rs) H) : ∃ F' O', Le F F' ∧ Pt (F' :: O' :: Rs) H ∧ Slots (Γ.set i none) σ F' O' := by
  cases e : Γ[i]? with
  | none =>
    rw [List.set_eq_of_length_le (List.getElem?_eq_none_iff.mp e)]
    exact ⟨F, O, .rfl, t, s⟩
  | some g =>
    obtain ⟨x, h, O', e', u, p, r⟩ := s.take e
    have w : Pt (O :: F :: Rs) H := t.swap
    have w2 : Pt (h :: O' :: F :: Rs) H := w.split2 u
    have w3 : Pt (F :: h :: O' :: Rs) H := (w2.perm (.trans (.cons _ (.swap _ _ _)) (.swap _ _ _)))
    obtain ⟨F', l1, l2, w4⟩ := w3.leak
    exact ⟨F', O', l1, w4, r.mono l1⟩
end Br
namespace Br
open PySem PySem.Spec L2
variable [tgi : Tbs]

/-- an expression that changes nothing: from the slots Γ it comes to m, the value standing for it by A -/
structure JN {α : Type} (X : Cx) (W : WX) (cl : String → Addr) (Γ : Ctx) (e : Expr) (t : TE) (m : Rs α) (A : α → Asn) : Prop where
  pe : PE X e t
  run : ∀ (σ : L2.St) (F O H : Hp) (R : List Hp) (Q : VK), Pt (F :: O :: R) H → Slots Γ σ F O →
    Out m (fun a => ∀ v F' h H', Le F F' → Pt (F' :: O :: h :: R) H' → (A a).p v F' h → Q v H') (fun c => ∀ F' H', Le F F' → Pt (F' :: O :: R) H' → W (.ref (cl c)) none σ H') → t σ H Q
/-- the same of a test -/
structure JT (X : Cx) (W : WX) (cl : String → Addr) (Γ : Ctx) (e : Expr) (t : TT) (m : Rs Bool) : Prop where
  pe : PT X e t
  run : ∀ (σ : L2.St) (F O H : Hp) (R : List Hp) (Q : Bool → Hp → Prop), Pt (F :: O :: R) H → Slots Γ σ F O →
    Out m (fun a => ∀ F' H', Le F F' → Pt (F' :: O :: R) H' → Q a H') (fun c => ∀ F' H', Le F F' → Pt (F' :: O :: R) H' → W (.ref (cl c)) none σ H') → t σ H Q
structure JW (X : Cx) (W : WX) (cl : String → Addr) (Γ : Ctx) (e : Expr) (t : TT) (m : Rs Bool) : Prop where
  pe : PW X e t
  run : ∀ (σ : L2.St) (F O H : Hp) (R : List Hp) (Q : Bool → Hp → Prop), Pt (F :: O :: R) H → Slots Γ σ F O →
    Out m (fun a => ∀ F' H', Le F F' → Pt (F' :: O :: R) H' → Q a H') (fun c => ∀ F' H', Le F F' → Pt (F' :: O :: R) H' → W (.ref (cl c)) none σ H') → t σ H Q
/-- an argument list -/
structure JNs {α : Type} (X : Cx) (W : WX) (cl : String → Addr) (Γ : Ctx) (es : List Expr) (t : TA) (m : Rs α) (As : α → List Asn) : Prop where
  pe : PA X es t
  run : ∀ (σ : L2.St) (F O H : Hp) (R : List Hp) (Q : List V → Hp → Prop), Pt (F :: O :: R) H → Slots Γ σ F O →
    Out m (fun a => ∀ vs F' h H', Le F F' → Pt (F' :: O :: h :: R) H' → Sep (As a) vs F' h → Q vs H') (fun c => ∀ F' H', Le F F' → Pt (F' :: O :: R) H' → W (.ref (cl c)) none σ H') → t σ H Q

class PerF {α : Type} (A : α → Asn) : Prop where
  per : ∀ x, Per (A x)
class NofF {α : Type} (A : α → Asn) : Prop where
  nof : ∀ x, NoF (A x)
class FrzF {α : Type} (A : α → Asn) (B : outParam (α → Asn)) : Prop where
  frz : ∀ x, Frz (A x) (B x)
instance : PerF aI := ⟨fun _ => aV_per⟩
instance : PerF aB := ⟨fun _ => aV_per⟩
instance : PerF aS := ⟨fun _ => aV_per⟩
instance : PerF aU := ⟨fun _ => aV_per⟩
instance : NofF aI := ⟨fun _ => aV_nof⟩
instance : NofF aB := ⟨fun _ => aV_nof⟩
instance : NofF aS := ⟨fun _ => aV_nof⟩
instance : NofF aU := ⟨fun _ => aV_nof⟩
instance : FrzF aI aI := ⟨fun _ => .per aV_per⟩
instance : FrzF aB aB := ⟨fun _ => .per aV_per⟩
instance : FrzF aS aS := ⟨fun _ => .per aV_per⟩
instance : FrzF aU aU := ⟨fun _ => .per aV_per⟩
section
variable {α β : Type} {K : PySem.W.Frag}
/-- lists of one kind: frozen; read only (perhaps the script, or the module's); one's own -/
def lA (A : α → Asn) (xs : List α) : Asn := aL (xs.map A)
def sA (K : PySem.W.Frag) (A : α → Asn) (xs : List α) : Asn := aQ K (xs.map A)
def oA (A : α → Asn) (xs : List α) : Asn := oL (xs.map A)
instance {A : α → Asn} : PerF (lA A) := ⟨fun _ => aL_per⟩
instance {A : α → Asn} : PerF (sA K A) := ⟨fun _ => aQ_per⟩
instance {A B : α → Asn} [f : FrzF A B] : FrzF (oA A) (lA B) := ⟨fun xs => frz_oL (FrzL.map f.frz xs)⟩
instance {A : α → Asn} : FrzF (lA A) (lA A) := ⟨fun _ => .per aL_per⟩
instance {A : α → Asn} : FrzF (sA K A) (sA K A) := ⟨fun _ => .per aQ_per⟩
/-- pairs -/
def t2 (A : α → Asn) (B : β → Asn) (x : α × β) : Asn := aT [A x.1, B x.2]
def o2 (A : α → Asn) (B : β → Asn) (x : α × β) : Asn := oT [A x.1, B x.2]
instance {A : α → Asn} {B : β → Asn} : PerF (t2 A B) := ⟨fun _ => aT_per⟩
instance {A A' : α → Asn} {B B' : β → Asn} [f : FrzF A A'] [g : FrzF B B'] : FrzF (o2 A B) (t2 A' B') := ⟨fun x => frz_oT (.cons (f.frz _) (.cons (g.frz _) .nil))⟩
instance {A : α → Asn} {B : β → Asn} : FrzF (t2 A B) (t2 A B) := ⟨fun _ => .per aT_per⟩
instance {A : α → Asn} [p : PerF A] : PerF (aO A) := ⟨aO_per p.per⟩
instance {A B : α → Asn} [f : FrzF A B] : FrzF (aO A) (aO B) := ⟨frz_aO f.frz⟩
theorem nof_aO {A : α → Asn} (p : ∀ x, NoF (A x)) : ∀ o, NoF (aO A o)
  | none => aV_nof
  | some x => p x
instance {A : α → Asn} [p : NofF A] : NofF (aO A) := ⟨nof_aO p.nof⟩
theorem Sep.nof {F F' : Hp} : ∀ {As : List Asn} {vs : List V} {h : Hp}, (∀ A ∈ As, NoF A) → Sep As vs F h → Sep As vs F' h
  | [], [], _, _, q => q
  | A :: As, v :: vs, _, k, ⟨h1, h2, t, p, r⟩ => ⟨h1, h2, t, k A List.mem_cons_self _ _ _ _ p, Sep.nof (fun B m => k B (List.mem_cons_of_mem _ m)) r⟩
theorem nof_oL {As : List Asn} (k : ∀ A ∈ As, NoF A) : NoF (oL As) := fun _ _ _ _ ⟨a, vs, h', e1, t, r⟩ => ⟨a, vs, h', e1, t, r.nof k⟩
instance {A : α → Asn} [p : NofF A] : NofF (oA A) := ⟨fun xs => nof_oL fun B m => by
  obtain ⟨x, _, e⟩ := List.mem_map.mp m
  exact e ▸ p.nof x⟩
end

def opt {γ : Type} (o : Option γ) : Rs γ := match o with
  | some c => .ok c
  | none => .no
theorem opt_out {γ : Type} {o : Option γ} {P : γ → Prop} {E : String → Prop} (h : Out (opt o) P E) : ∃ c, o = some c ∧ P c := by
  cases o with
  | none => exact h.elim
  | some c => exact ⟨c, rfl, h⟩
/-- what is wanted behind an operation -/
def Kt {γ : Type} (C : γ → Asn) (c : γ) (F : Hp) (R : List Hp) (Q : VK) : Prop := ∀ v' F' h' H', Le F F' → Pt (F' :: h' :: R) H' → (C c).p v' F' h' → Q v' H'
def Op1 {α γ : Type} (r : V → Hp → VK → Prop) (A : α → Asn) (f : α → Option γ) (C : γ → Asn) : Prop :=
  ∀ a v F h H R Q c, f a = some c → Pt (F :: h :: R) H → (A a).p v F h → Kt C c F R Q → r v H Q
def Op2 {α β γ : Type} (r : R2) (A : α → Asn) (B : β → Asn) (f : α → β → Option γ) (C : γ → Asn) : Prop :=
  ∀ a b v w F h1 h2 H R Q c, f a b = some c → Pt (F :: h2 :: h1 :: R) H → (A a).p v F h1 → (B b).p w F h2 → Kt C c F R Q → r v w H Q
def OpN {α γ : Type} (r : List V → Hp → VK → Prop) (As : α → List Asn) (f : α → Option γ) (C : γ → Asn) : Prop :=
  ∀ a vs F h H R Q c, f a = some c → Pt (F :: h :: R) H → Sep (As a) vs F h → Kt C c F R Q → r vs H Q

section
variable {α β γ : Type} {X : Cx} {W : WX} {cl : String → Addr} {Γ : Ctx} {e a b c : Expr} {es : List Expr} {pos : Pos}
/-- a value of nothing but itself -/
theorem pt_skip {F O h H : Hp} {R : List Hp} (t : Pt (F :: O :: h :: R) H) (e : h = emp) : Pt (F :: O :: R) H := by
  subst e
  exact (t.perm (l' := emp :: F :: O :: R) (.trans (.cons _ (.swap _ _ _)) (.swap _ _ _))).dropE
theorem pt_addE {F O H : Hp} {R : List Hp} (t : Pt (F :: O :: R) H) : Pt (F :: O :: emp :: R) H :=
  t.addE.perm (.trans (.swap _ _ _) (.cons _ (.swap _ _ _)))
theorem pt_leak3 {F O h H : Hp} {R : List Hp} (t : Pt (F :: O :: h :: R) H) : ∃ F', Le F F' ∧ Le h F' ∧ Pt (F' :: O :: R) H :=
  Pt.leak (t.perm (l' := F :: h :: O :: R) (.cons _ (.swap _ _ _)))
/-- a constant -/
theorem jn_c {v : V} {x : α} {A : α → Asn} (h : PE X e (tC v)) (hA : ∀ F, (A x).p v F emp) : JN X W cl Γ e (tC v) (.ok x) A :=
  ⟨h, fun σ F O H R Q t s q => q v F emp H .rfl (pt_addE t) (hA F)⟩
theorem jn_int {i : Int} {j} : JN X W cl Γ (.Constant (.int i) j pos) (tC (.int i)) (.ok i) aI := jn_c pe_int fun _ => ⟨rfl, rfl⟩
theorem jn_bl {i : Bool} {j} : JN X W cl Γ (.Constant (.bool i) j pos) (tC (.bl i)) (.ok i) aB := jn_c pe_bl fun _ => ⟨rfl, rfl⟩
theorem jn_str {i : Str} {j} : JN X W cl Γ (.Constant (.str i) j pos) (tC (.str i)) (.ok i) aS := jn_c pe_str fun _ => ⟨rfl, rfl⟩
theorem jn_non {j} : JN X W cl Γ (.Constant .none j pos) (tC .non) (.ok ()) aU := jn_c pe_non fun _ => ⟨rfl, rfl⟩
theorem jn_nonO {A : α → Asn} {j} : JN X W cl Γ (.Constant .none j pos) (tC .non) (.ok none) (aO A) := jn_c pe_non fun _ => ⟨rfl, rfl⟩
/-- a module's int -/
theorem jn_gint {x : Str} {i : Int} (hg : Gl X x) (hm : ∃ t, X.mg x = some (.int i t)) (hd : (x == ("__debug__" : Str)) = false := by decide) : JN X W cl Γ (.Name x pos) (tC (.int i)) (.ok i) aI := by
  obtain ⟨t, hm⟩ := hm
  exact jn_c (pe_glob hg hm (v := .int i) ⟨t, rfl⟩ hd) fun _ => ⟨rfl, rfl⟩
/-- a slot that owns nothing -/
theorem jn_v (i : Nat) {x : Str} (A : α → Asn) {y : α} (hl : Γ[i]? = some (some (A y)) := by rfl) [pr : PerF A] (hN : X.N[i]? = some x := by rfl) (hv : Vis X.env.scope x := by first | exact Or.inl rfl | exact Or.inr (Or.inl rfl) | exact Or.inr (Or.inr rfl))
    (hd : (x == ("__debug__" : Str)) = false := by decide) (hcd : (x == ("__classdict__" : Str)) = false := by decide) : JN X W cl Γ (.Name x pos) (tVar i) (.ok y) A :=
  ⟨pe_var hN hv hd hcd, fun σ F O H R Q t s q => by
    obtain ⟨v, e, p⟩ := s.per hl (pr.per y)
    exact ⟨v, e, q v F emp H .rfl (pt_addE t) p⟩⟩
/-- another view of the value -/
theorem JN.imp {t : TE} {m : Rs α} {A B : α → Asn} (h : JN X W cl Γ e t m A) (k : ∀ a v F h, (A a).p v F h → (B a).p v F h) : JN X W cl Γ e t m B := by
  obtain ⟨p, r⟩ := h
  exact ⟨p, fun σ F O H R Q u s q => r σ F O H R Q u s (q.mono (fun a _ q v F' h H' le u p => q v F' h H' le u (k a v F' h p)) fun c q => q)⟩
theorem JN.map {t : TE} {m : Rs α} {A : α → Asn} {B : β → Asn} (f : α → β) (h : JN X W cl Γ e t m A) (k : ∀ a v F h, (A a).p v F h → (B (f a)).p v F h) : JN X W cl Γ e t (m.b fun a => .ok (f a)) B := by
  obtain ⟨p, r⟩ := h
  exact ⟨p, fun σ F O H R Q u s q => r σ F O H R Q u s (q.bind.mono (fun a _ q v F' h H' le u p => q v F' h H' le u (k a v F' h p)) fun c q => q)⟩
/-- the value is taken as one of another type, or nothing is said -/
theorem JN.cast {t : TE} {m : Rs α} {A : α → Asn} {B : β → Asn} (f : α → Rs β) (h : JN X W cl Γ e t m A) (k : ∀ a b v F h, f a = .ok b → (A a).p v F h → (B b).p v F h) (ne : ∀ a c, f a ≠ .er c) : JN X W cl Γ e t (m.b f) B := by
  obtain ⟨p, r⟩ := h
  refine ⟨p, fun σ F O H R Q u s q => r σ F O H R Q u s (q.bind.mono (fun a _ q v F' h H' le u p => ?_) fun c q => q)⟩
  cases e : f a with
  | ok b => rw [e] at q; exact q v F' h H' le u (k a b v F' h e p)
  | er c => exact absurd e (ne a c)
  | no => rw [e] at q; exact q.elim
/-- one's own becomes frozen -/
theorem JN.frz {t : TE} {m : Rs α} {A B : α → Asn} (h : JN X W cl Γ e t m A) (k : ∀ a, Frz (A a) (B a)) : JN X W cl Γ e t m B := by
  obtain ⟨p, r⟩ := h
  refine ⟨p, fun σ F O H R Q u s q => r σ F O H R Q u s (q.mono (fun a _ q v F' h H' le u p => ?_) fun c q => q)⟩
  obtain ⟨F2, l1, l2, u2⟩ := pt_leak3 u
  exact q v F2 emp H' (le.tr l1) (pt_addE u2) (k a v F' h F2 p l1 l2)
/-- one operand -/
theorem JN.un {t : TE} {m : Rs α} {A : α → Asn} {C : γ → Asn} {f : α → Option γ} {r : V → Hp → VK → Prop} (h : JN X W cl Γ a t m A) (hp : PE X a t → PE X e (tUn r t)) (op : Op1 r A f C) : JN X W cl Γ e (tUn r t) (m.b fun x => opt (f x)) C := by
  obtain ⟨p, k⟩ := h
  refine ⟨hp p, fun σ F O H R Q u s q => k σ F O H R _ u s (q.bind.mono (fun x _ q v F1 h1 H1 le u1 p1 => ?_) fun c q => q)⟩
  obtain ⟨c, e, q⟩ := opt_out q
  exact op x v F1 h1 H1 (O :: R) Q c e (u1.swap1) p1 fun v' F' h' H' le' u' p' => q v' F' h' H' (le.tr le') u'.swap1 p'
/-- two operands -/
theorem JN.bin {ta tb : TE} {m : Rs α} {n : Rs β} {A : α → Asn} {B : β → Asn} {C : γ → Asn} {f : α → β → Option γ} {r : R2} (h1 : JN X W cl Γ a ta m A) (h2 : JN X W cl Γ b tb n B)
    (hp : PE X a ta → PE X b tb → PE X e (tOp r ta tb)) (op : Op2 r A B f C) : JN X W cl Γ e (tOp r ta tb) (m.b fun x => n.b fun y => opt (f x y)) C := by
  obtain ⟨pa, ka⟩ := h1
  obtain ⟨pb, kb⟩ := h2
  refine ⟨hp pa pb, fun σ F O H R Q u s q => ka σ F O H R _ u s (q.bind.mono (fun x _ q v F1 h1 H1 le1 u1 p1 => ?_) fun c q => q)⟩
  refine kb σ F1 O H1 (h1 :: R) _ u1 (s.mono le1) (q.bind.mono (fun y _ q w F2 h2 H2 le2 u2 p2 => ?_) fun c q F' H' le' u' => ?_)
  · obtain ⟨c, e, q⟩ := opt_out q
    exact op x y v w F2 h1 h2 H2 (O :: R) Q c e (u2.perm (.cons _ (.trans (.swap _ _ _) (.cons _ (.swap _ _ _))))) ((A x).mono le2 p1) p2
      fun v' F' h' H' le' u' p' => q v' F' h' H' (le1.tr (le2.tr le')) u'.swap1 p'
  · obtain ⟨F2, l1, l2, u2⟩ := pt_leak3 u'
    exact q F2 H' (le1.tr (le'.tr l1)) u2
/-- arguments -/
theorem jns_nil : JNs X W cl Γ [] tNil (.ok ()) (fun _ => []) := ⟨pa_nil, fun σ F O H R Q t s q => q [] F emp H .rfl (pt_addE t) rfl⟩
theorem jns_cons {ta : TE} {tb : TA} {m : Rs α} {n : Rs β} {A : α → Asn} {Bs : β → List Asn} (h1 : JN X W cl Γ e ta m A) (h2 : JNs X W cl Γ es tb n Bs)
    (hs : starEach (e :: es) X.env = (false, eval e X.env) :: starEach es X.env := by rfl) : JNs X W cl Γ (e :: es) (tCons ta tb) (m.b fun x => n.b fun y => .ok (x, y)) (fun p => A p.1 :: Bs p.2) := by
  obtain ⟨pa, ka⟩ := h1
  obtain ⟨pb, kb⟩ := h2
  refine ⟨pa_cons pa pb hs, fun σ F O H R Q u s q => ka σ F O H R _ u s (q.bind.mono (fun x _ q v F1 h1 H1 le1 u1 p1 => ?_) fun c q => q)⟩
  refine kb σ F1 O H1 (h1 :: R) _ u1 (s.mono le1) (q.bind.mono (fun y _ q ws F2 h2 H2 le2 u2 p2 => ?_) fun c q F' H' le' u' => ?_)
  · have u3 : Pt (h2 :: h1 :: F2 :: O :: R) H2 := u2.perm (by
      exact (List.perm_append_comm (l₁ := [F2, O]) (l₂ := [h2, h1])).append_right R)
    obtain ⟨c, j, u4⟩ := u3.join2
    exact q (v :: ws) F2 c H2 (le1.tr le2) (u4.perm (.trans (.swap _ _ _) (.cons _ (.swap _ _ _)))) ⟨h1, h2, j.comm, (A x).mono le2 p1, p2⟩
  · obtain ⟨F2, l1, l2, u2⟩ := pt_leak3 u'
    exact q F2 H' (le1.tr (le'.tr l1)) u2
/-- one argument -/
theorem jns_one {ta : TE} {m : Rs α} {A : α → Asn} (h1 : JN X W cl Γ e ta m A) (hs : starEach [e] X.env = (false, eval e X.env) :: starEach [] X.env := by rfl) : JNs X W cl Γ [e] (tCons ta tNil) m (fun x => [A x]) := by
  obtain ⟨pa, ka⟩ := h1
  exact ⟨pa_cons pa pa_nil hs, fun σ F O H R Q u s q => ka σ F O H R _ u s (q.mono (fun x _ q v F1 h1 H1 le1 u1 p1 => q [v] F1 h1 H1 le1 u1 (Sep.sing p1)) fun c q => q)⟩
theorem JN.args {t : TA} {m : Rs α} {As : α → List Asn} {C : γ → Asn} {f : α → Option γ} {r : List V → Hp → VK → Prop} (h : JNs X W cl Γ es t m As) (hp : PA X es t → PE X e (tCB r t)) (op : OpN r As f C) : JN X W cl Γ e (tCB r t) (m.b fun x => opt (f x)) C := by
  obtain ⟨p, k⟩ := h
  refine ⟨hp p, fun σ F O H R Q u s q => k σ F O H R _ u s (q.bind.mono (fun x _ q v F1 h1 H1 le u1 p1 => ?_) fun c q => q)⟩
  obtain ⟨c, e, q⟩ := opt_out q
  exact op x v F1 h1 H1 (O :: R) Q c e (u1.swap1) p1 fun v' F' h' H' le' u' p' => q v' F' h' H' (le.tr le') u'.swap1 p'
/-- what is read of one's own slot i: it counts as frozen meanwhile -/
theorem sub_part {F1 F2 h : Hp} (c : NtX h) (l : Le h F2) (d : Dj F1 h) (l1 : Le F1 F2) : ∃ F', Le F1 F' ∧ Pt [F', h] F2 := by
  have lh : ∀ x o, h x = some o → F2 x = some o := fun x o e => l.nt x o e (c x o e).1
  have hn : ∀ x o, F2 x = some o → ¬ Pl o → h x = none := fun x o e n => by
    cases q : h x with
    | none => rfl
    | some u =>
      have := lh x u q
      rw [e] at this
      cases this
      exact absurd (c x _ q) n
  have lift : ∀ x o, F2 x = some o → h x = none → (match h x with | some _ => none | none => F2 x) = some o := fun x o e z => by rw [z]; exact e
  refine ⟨fun x => match h x with | some _ => none | none => F2 x, ⟨fun x o e n => ?_, fun p m t => ?_⟩, List.pairwise_cons.mpr ⟨fun u m x => ?_, List.pairwise_singleton _ _⟩, fun x o => ⟨fun e => ?_, fun ⟨u, m, e⟩ => ?_⟩⟩
  · rcases d x with z | z
    · rw [z] at e; cases e
    · exact lift x o (l1.nt x o e n) z
  · obtain ⟨ps, h1, h2, h3⟩ := l1.tb p m t
    refine ⟨ps, lift p.1 _ h1 (hn p.1 _ h1 fun z => z.1 ps rfl), h2, fun pos cv hc => ?_⟩
    obtain ⟨a, e1, e2⟩ := h3 pos cv hc
    exact ⟨a, e1, lift a _ e2 (hn a _ e2 fun z => z.2 _ rfl)⟩
  · rw [List.mem_singleton.mp m]
    cases q : h x with
    | none => exact .inr rfl
    | some o =>
      left
      show (match h x with | some _ => none | none => F2 x) = none
      rw [q]
  · cases q : h x with
    | none => exact ⟨_, List.mem_cons_self, by show (match h x with | some _ => none | none => F2 x) = some o; rw [q]; exact e⟩
    | some u =>
      have := lh x u q
      rw [e] at this; cases this
      exact ⟨h, by simp, q⟩
  · rcases List.mem_cons.mp m with rfl | m
    · have e' : (match h x with | some _ => none | none => F2 x) = some o := e
      cases q : h x with
      | none => rw [q] at e'; exact e'
      | some u => rw [q] at e'; cases e'
    · rw [List.mem_singleton.mp m] at e
      exact lh x o e
theorem sub_partT {F1 F2 h : Hp} (c : NtX h) (l : Le h F2) (d : Dj F1 h) (l1 : Le F1 F2) : ∃ F', Le F1 F' ∧ Pt [F', h] F2 ∧ ((∀ a t, h a ≠ some (.tup t)) → ∀ a t, F2 a = some (.tup t) → F' a = some (.tup t)) := by
  obtain ⟨F', lf, pf⟩ := sub_part c l d l1
  refine ⟨F', lf, pf, fun nt a t e => ?_⟩
  obtain ⟨u, m, q⟩ := (pf.2 a _).mp e
  rcases List.mem_cons.mp m with rfl | m
  · exact q
  · rw [List.mem_singleton.mp m] at q
    exact absurd q (nt a t)
theorem bor_core {F O H : Hp} {R : List Hp} {σ : L2.St} {i : Nat} {B C : Asn} (s : Slots Γ σ F O) (hl : Γ[i]? = some (some B)) (f : Frz B C) (u : Pt (F :: O :: R) H) :
    ∃ F1 O1, Le F F1 ∧ Pt (F1 :: O1 :: R) H ∧ Slots (Γ.set i (some C)) σ F1 O1 ∧ ∀ F2 R2 H2, Le F1 F2 → Pt (F2 :: O1 :: R2) H2 → ∃ F', Le F F' ∧ Pt (F' :: O :: R2) H2 ∧ ((∀ v F h, B.p v F h → ∀ a t, h a ≠ some (.tup t)) → ∀ a t, F2 a = some (.tup t) → F' a = some (.tup t)) := by
  obtain ⟨x, h, O', e', t, ⟨v, rfl, p⟩, s'⟩ := s.take hl
  have w : Pt (h :: O' :: F :: R) H := (u.swap).split2 t
  have w2 : Pt (F :: h :: O' :: R) H := w.perm (.trans (.cons _ (.swap _ _ _)) (.swap _ _ _))
  have dj : Dj F h := (List.pairwise_cons.mp w2.1).1 h (by simp)
  obtain ⟨F1, l1, l2, w3⟩ := w2.leak
  refine ⟨F1, O', l1, w3, ?_, fun F2 R2 H2 le2 u2 => ?_⟩
  · have := (s'.mono l1).put' (set_none_at hl) (by rw [e']) (f v F h F1 p l1 l2) Pt.l_emp
    rw [set_set] at this
    exact this
  · obtain ⟨F', lf, pf, nt⟩ := sub_partT (F1 := F) (F2 := F2) (h := h) (B.cl p) (l2.tr le2) dj (l1.tr le2)
    have a1 : Pt (F' :: h :: O' :: R2) H2 := u2.split2 pf
    have a2 : Pt (h :: O' :: F' :: R2) H2 := a1.perm (List.Perm.trans (.swap _ _ _) (.cons _ (.swap _ _ _)))
    obtain ⟨c, j, a3⟩ := a2.join2
    have ec : c = O := j.uniq t
    subst ec
    exact ⟨F', lf, a3.swap, fun q => nt (q v F h p)⟩
/-- depends on the frozen part by its tuples alone -/
def NoT (A : Asn) : Prop := ∀ v F F' h, (∀ a t, F a = some (.tup t) → F' a = some (.tup t)) → A.p v F h → A.p v F' h
class NuF {α : Type} (A : α → Asn) : Prop where
  nu : ∀ x, NoT (A x)
/-- owns no tuple -/
class NtF {α : Type} (A : α → Asn) : Prop where
  nt : ∀ x v F h, (A x).p v F h → ∀ a t, h a ≠ some (.tup t)
theorem jn_bor (i : Nat) {t : TE} {δ : Type} {B C : δ → Asn} {y : δ} {m : Rs α} {A : α → Asn} [f : FrzF B C] [n : NofF A] (h : JN X W cl (Γ.set i (some (C y))) e t m A) (hl : Γ[i]? = some (some (B y)) := by rfl) : JN X W cl Γ e t m A := by
  obtain ⟨p, k⟩ := h
  refine ⟨p, fun σ F O H R Q u s q => ?_⟩
  obtain ⟨F1, O1, l1, u1, s1, back⟩ := bor_core s hl (f.frz y) u
  refine k σ F1 O1 H R Q u1 s1 (q.mono (fun a _ q v F2 h2 H2 le2 u2 p2 => ?_) fun c q F2 H2 le2 u2 => ?_)
  · obtain ⟨F', lf, uf, _⟩ := back F2 (h2 :: R) H2 le2 u2
    exact q v F' h2 H2 lf uf (n.nof a _ _ _ _ p2)
  · obtain ⟨F', lf, uf, _⟩ := back F2 R H2 le2 u2
    exact q F' H2 lf uf
theorem jn_bor2 (i : Nat) {t : TE} {δ : Type} {B C : δ → Asn} {y : δ} {m : Rs α} {A : α → Asn} [f : FrzF B C] [n : NuF A] [nt : NtF B] (h : JN X W cl (Γ.set i (some (C y))) e t m A) (hl : Γ[i]? = some (some (B y)) := by rfl) : JN X W cl Γ e t m A := by
  obtain ⟨p, k⟩ := h
  refine ⟨p, fun σ F O H R Q u s q => ?_⟩
  obtain ⟨F1, O1, l1, u1, s1, back⟩ := bor_core s hl (f.frz y) u
  refine k σ F1 O1 H R Q u1 s1 (q.mono (fun a _ q v F2 h2 H2 le2 u2 p2 => ?_) fun c q F2 H2 le2 u2 => ?_)
  · obtain ⟨F', lf, uf, z⟩ := back F2 (h2 :: R) H2 le2 u2
    exact q v F' h2 H2 lf uf (n.nu a _ _ _ _ (z (nt.nt y)) p2)
  · obtain ⟨F', lf, uf, _⟩ := back F2 R H2 le2 u2
    exact q F' H2 lf uf
theorem jt_bor (i : Nat) {t : TT} {δ : Type} {B C : δ → Asn} {y : δ} {m : Rs Bool} [f : FrzF B C] (h : JT X W cl (Γ.set i (some (C y))) e t m) (hl : Γ[i]? = some (some (B y)) := by rfl) : JT X W cl Γ e t m := by
  obtain ⟨p, k⟩ := h
  refine ⟨p, fun σ F O H R Q u s q => ?_⟩
  obtain ⟨F1, O1, l1, u1, s1, back⟩ := bor_core s hl (f.frz y) u
  refine k σ F1 O1 H R Q u1 s1 (q.mono (fun a _ q F2 H2 le2 u2 => ?_) fun c q F2 H2 le2 u2 => ?_)
  · obtain ⟨F', lf, uf, _⟩ := back F2 R H2 le2 u2
    exact q F' H2 lf uf
  · obtain ⟨F', lf, uf, _⟩ := back F2 R H2 le2 u2
    exact q F' H2 lf uf

theorem jt_v {t : TE} {m : Rs Bool} (h : JN X W cl Γ e t m aB) (he : ∀ whole, isTrue e X.env whole = (do let v ← whole; standAt e.pos; holding [v] (truthy v)) := by intro _; rfl) : JT X W cl Γ e (tB t) m := by
  obtain ⟨p, k⟩ := h
  refine ⟨pt_val p he, fun σ F O H R Q u s q => k σ F O H R _ u s (q.mono (fun x _ q v F1 h1 H1 le u1 p1 => ?_) fun c q => q)⟩
  exact ⟨x, p1.1, q F1 H1 le (pt_skip u1 p1.2)⟩
theorem JW.t {t : TT} {m : Rs Bool} (h : JW X W cl Γ e t m) : JT X W cl Γ e t m := ⟨h.pe.pt, h.run⟩
theorem jt_not {t : TT} {m : Rs Bool} (h : JT X W cl Γ a t m) : JT X W cl Γ (.UnaryOp .Not a pos) (tNot t) (m.b fun x => .ok (!x)) := by
  obtain ⟨p, k⟩ := h
  exact ⟨pt_not p, fun σ F O H R Q u s q => k σ F O H R _ u s q.bind⟩
theorem jw_and1 {t : TT} {m : Rs Bool} (h : JT X W cl Γ a t m) : JW X W cl Γ (.BoolOp .And [a] pos) t m := ⟨pw_and1 h.pe, h.run⟩
theorem jw_or1 {t : TT} {m : Rs Bool} (h : JT X W cl Γ a t m) : JW X W cl Γ (.BoolOp .Or [a] pos) t m := ⟨pw_or1 h.pe, h.run⟩
def andM (m n : Rs Bool) : Rs Bool := m.b fun x => if x = true then n else .ok false
def orM (m n : Rs Bool) : Rs Bool := m.b fun x => if x = true then .ok true else n
theorem jw_and {t t2 : TT} {m n : Rs Bool} {rest : List Expr} (h1 : JT X W cl Γ a t m) (h2 : JW X W cl Γ (.BoolOp .And (b :: rest) pos) t2 n) : JW X W cl Γ (.BoolOp .And (a :: b :: rest) pos) (tAnd t t2) (andM m n) := by
  obtain ⟨p, k⟩ := h1
  obtain ⟨p2, k2⟩ := h2
  refine ⟨pw_and p p2, fun σ F O H R Q u s q => k σ F O H R _ u s (q.bind.mono (fun x _ q F1 H1 le u1 => ?_) fun c q => q)⟩
  cases x with
  | true => exact k2 σ F1 O H1 R Q u1 (s.mono le) (q.mono (fun _ _ q F' H' l => q F' H' (le.tr l)) fun c q F' H' l => q F' H' (le.tr l))
  | false => exact q F1 H1 le u1
theorem jw_or {t t2 : TT} {m n : Rs Bool} {rest : List Expr} (h1 : JT X W cl Γ a t m) (h2 : JW X W cl Γ (.BoolOp .Or (b :: rest) pos) t2 n) : JW X W cl Γ (.BoolOp .Or (a :: b :: rest) pos) (tOr t t2) (orM m n) := by
  obtain ⟨p, k⟩ := h1
  obtain ⟨p2, k2⟩ := h2
  refine ⟨pw_or p p2, fun σ F O H R Q u s q => k σ F O H R _ u s (q.bind.mono (fun x _ q F1 H1 le u1 => ?_) fun c q => q)⟩
  cases x with
  | false => exact k2 σ F1 O H1 R Q u1 (s.mono le) (q.mono (fun _ _ q F' H' l => q F' H' (le.tr l)) fun c q F' H' l => q F' H' (le.tr l))
  | true => exact q F1 H1 le u1
theorem jn_one {op} {t : TE} {m : Rs Bool} (h : JN X W cl Γ a t m aB) : JN X W cl Γ (.BoolOp op [a] pos) t m aB := ⟨pe_one h.pe, h.run⟩
theorem jn_and {t t2 : TE} {m n : Rs Bool} {rest : List Expr} (h1 : JN X W cl Γ a t m aB) (h2 : JN X W cl Γ (.BoolOp .And (b :: rest) pos) t2 n aB) : JN X W cl Γ (.BoolOp .And (a :: b :: rest) pos) (tAndV t t2) (andM m n) aB := by
  obtain ⟨p, k⟩ := h1
  obtain ⟨p2, k2⟩ := h2
  refine ⟨pe_and p p2, fun σ F O H R Q u s q => k σ F O H R _ u s (q.bind.mono (fun x _ q v F1 h1 H1 le u1 p1 => ⟨x, p1.1, ?_⟩) fun c q => q)⟩
  have u1 := pt_skip u1 p1.2
  cases x with
  | true => exact k2 σ F1 O H1 R Q u1 (s.mono le) (q.mono (fun _ _ q v F' h' H' l => q v F' h' H' (le.tr l)) fun c q F' H' l => q F' H' (le.tr l))
  | false => exact q (.bl false) F1 emp H1 le (pt_addE u1) ⟨rfl, rfl⟩
theorem jn_or {t t2 : TE} {m n : Rs Bool} {rest : List Expr} (h1 : JN X W cl Γ a t m aB) (h2 : JN X W cl Γ (.BoolOp .Or (b :: rest) pos) t2 n aB) : JN X W cl Γ (.BoolOp .Or (a :: b :: rest) pos) (tOrV t t2) (orM m n) aB := by
  obtain ⟨p, k⟩ := h1
  obtain ⟨p2, k2⟩ := h2
  refine ⟨pe_or p p2, fun σ F O H R Q u s q => k σ F O H R _ u s (q.bind.mono (fun x _ q v F1 h1 H1 le u1 p1 => ⟨x, p1.1, ?_⟩) fun c q => q)⟩
  have u1 := pt_skip u1 p1.2
  cases x with
  | false => exact k2 σ F1 O H1 R Q u1 (s.mono le) (q.mono (fun _ _ q v F' h' H' l => q v F' h' H' (le.tr l)) fun c q F' H' l => q F' H' (le.tr l))
  | true => exact q (.bl true) F1 emp H1 le (pt_addE u1) ⟨rfl, rfl⟩
theorem jn_not {t : TE} {m : Rs Bool} (h : JN X W cl Γ a t m aB) : JN X W cl Γ (.UnaryOp .Not a pos) (tNotV t) (m.b fun x => .ok (!x)) aB := by
  obtain ⟨p, k⟩ := h
  refine ⟨pe_not p, fun σ F O H R Q u s q => k σ F O H R _ u s (q.bind.mono (fun x _ q v F1 h1 H1 le u1 p1 => ⟨x, p1.1, ?_⟩) fun c q => q)⟩
  exact q _ F1 emp H1 le (pt_addE (pt_skip u1 p1.2)) ⟨rfl, rfl⟩
theorem jn_if {t : TT} {t1 t2 : TE} {mc : Rs Bool} {m n : Rs α} {A : α → Asn} (hc : JT X W cl Γ c t mc) (h1 : JN X W cl Γ a t1 m A) (h2 : JN X W cl Γ b t2 n A) : JN X W cl Γ (.IfExp c a b pos) (tIf t t1 t2) (mc.b fun x => if x = true then m else n) A := by
  obtain ⟨p, k⟩ := hc
  obtain ⟨p1, k1⟩ := h1
  obtain ⟨p2, k2⟩ := h2
  refine ⟨pe_ifExp p p1 p2, fun σ F O H R Q u s q => k σ F O H R _ u s (q.bind.mono (fun x _ q F1 H1 le u1 => ?_) fun c q => q)⟩
  cases x with
  | true => exact k1 σ F1 O H1 R Q u1 (s.mono le) (q.mono (fun _ _ q v F' h' H' l => q v F' h' H' (le.tr l)) fun c q F' H' l => q F' H' (le.tr l))
  | false => exact k2 σ F1 O H1 R Q u1 (s.mono le) (q.mono (fun _ _ q v F' h' H' l => q v F' h' H' (le.tr l)) fun c q F' H' l => q F' H' (le.tr l))
end
end Br
namespace Br
open PySem PySem.Spec L2
variable [tgi : Tbs]

/-- what a body's context must give -/
structure Gd (X : Cx) (W : WX) (k : Nat) : Prop where
  tk : Takes X W
  po : PassesOwn (model X.prog X.w) X.A X.env X.xe
  calm : X.calm = true
  nd : X.N.Nodup
  room : Room k X.A

/-- an expression that may change one's own objects -/
structure JE {α : Type} (X : Cx) (W : WX) (cl : String → Addr) (Γ : Ctx) (e : Expr) (t : TE) (m : Rs α) (Γ' : α → Ctx) (A : α → Asn) (Γe : Ctx) : Prop where
  pe : PE X e t
  run : ∀ (σ : L2.St) (F O H : Hp) (R : List Hp) (Q : VK), Pt (F :: O :: R) H → Slots Γ σ F O →
    Out m (fun a => ∀ v F' O' h H', Le F F' → Pt (F' :: O' :: h :: R) H' → Slots (Γ' a) σ F' O' → (A a).p v F' h → Q v H')
      (fun c => ∀ F' O' H', Le F F' → Pt (F' :: O' :: R) H' → Slots Γe σ F' O' → W (.ref (cl c)) none σ H') → t σ H Q
/-- a statement that goes on (or raises) -/
structure JL {α : Type} (X : Cx) (W : WX) (cl : String → Addr) (Γ : Ctx) (st : Stmt) (t : TS) (m : Rs α) (Γ' : α → Ctx) (Γe : Ctx) : Prop where
  pe : PS X st t
  run : ∀ (σ : L2.St) (F O H : Hp) (R : List Hp) (D : Ends), Pt (F :: O :: R) H → Slots Γ σ F O →
    Out m (fun a => ∀ σ' F' O' H', Le F F' → Pt (F' :: O' :: R) H' → Slots (Γ' a) σ' F' O' → D.nx σ' H')
      (fun c => ∀ σ' F' O' H', Le F F' → Pt (F' :: O' :: R) H' → Slots Γe σ' F' O' → W (.ref (cl c)) none σ' H') → t D σ H
/-- what is wanted behind a statement -/
abbrev RAs (R : Type) := R → V → Hp → Hp → Prop
def wants {B T S : Type} (W : WX) (cl : String → Addr) (Γn : S → Ctx) (Γb : B → Ctx) (RA : RAs T) (Γe : Ctx) (F : Hp) (R : List Hp) (D : Ends) : FP B T S where
  nx := fun s => ∀ σ' F' O' H', Le F F' → Pt (F' :: O' :: R) H' → Slots (Γn s) σ' F' O' → D.nx σ' H'
  rt := fun r => ∀ v F' h H', Le F F' → Pt (F' :: h :: R) H' → RA r v F' h → D.rt v H'
  bk := fun s => ∀ σ' F' O' H', Le F F' → Pt (F' :: O' :: R) H' → Slots (Γb s) σ' F' O' → D.bk σ' H'
  ct := fun s => ∀ σ' F' O' H', Le F F' → Pt (F' :: O' :: R) H' → Slots (Γb s) σ' F' O' → D.ct σ' H'
  er := fun c => ∀ σ' F' O' H', Le F F' → Pt (F' :: O' :: R) H' → Slots Γe σ' F' O' → W (.ref (cl c)) none σ' H'
structure JS {B T S : Type} (X : Cx) (W : WX) (cl : String → Addr) (Γ : Ctx) (st : Stmt) (t : TS) (m : Fl B T S) (Γn : S → Ctx) (Γb : B → Ctx) (RA : RAs T) (Γe : Ctx) : Prop where
  pe : PS X st t
  run : ∀ (σ : L2.St) (F O H : Hp) (R : List Hp) (D : Ends), Pt (F :: O :: R) H → Slots Γ σ F O → OutF m (wants W cl Γn Γb RA Γe F R D) → t D σ H
/-- a block -/
structure JB {B T S : Type} (X : Cx) (W : WX) (cl : String → Addr) (Γ : Ctx) (st : List Stmt) (t : TS) (m : Fl B T S) (Γn : S → Ctx) (Γb : B → Ctx) (RA : RAs T) (Γe : Ctx) : Prop where
  pe : PSs X st t
  run : ∀ (σ : L2.St) (F O H : Hp) (R : List Hp) (D : Ends), Pt (F :: O :: R) H → Slots Γ σ F O → OutF m (wants W cl Γn Γb RA Γe F R D) → t D σ H

/-- slots forgotten, frozen -/
inductive Wk : Ctx → Ctx → Prop
  | nil : Wk [] []
  | keep {g Γ Δ} : Wk Γ Δ → Wk (g :: Γ) (g :: Δ)
  | kill {g Γ Δ} : Wk Γ Δ → Wk (g :: Γ) (none :: Δ)
  | frz {A B Γ Δ} : Frz A B → Wk Γ Δ → Wk (some A :: Γ) (some B :: Δ)
  | imp {A B Γ Δ} : (∀ v F h, A.p v F h → B.p v F h) → Wk Γ Δ → Wk (some A :: Γ) (some B :: Δ)
theorem Wk.same : ∀ {Γ : Ctx}, Wk Γ Γ
  | [] => .nil
  | _ :: _ => .keep Wk.same
theorem Wk.slots {H : Hp} : ∀ {Γ Δ : Ctx} {σ : L2.St} {F O : Hp} {R : List Hp}, Wk Γ Δ → Slots Γ σ F O → Pt (F :: O :: R) H → ∃ F' O', Le F F' ∧ Pt (F' :: O' :: R) H ∧ Slots Δ σ F' O'
  | _, _, [], F, O, R, .nil, s, t => ⟨F, O, .rfl, t, s⟩
  | _, _, x :: σ, F, O, R, .keep w, ⟨h, O', j, p, r⟩, t => by
    have t2 : Pt (F :: O' :: h :: R) H := ((t.swap).split2 j).perm (.trans (.swap _ _ _) (.trans (.cons _ (.swap _ _ _)) (.swap _ _ _)))
    obtain ⟨F1, O1, l1, u1, s1⟩ := Wk.slots w r t2
    obtain ⟨c, j2, u2⟩ := (u1.perm (l' := h :: O1 :: F1 :: R) (.trans (.cons _ (.swap _ _ _)) (.trans (.swap _ _ _) (.cons _ (.swap _ _ _))))).join2
    exact ⟨F1, c, l1, u2.swap, h, O1, j2, p.mono l1, s1⟩
  | _, _, x :: σ, F, O, R, .kill w, ⟨h, O', j, p, r⟩, t => by
    have t2 : Pt (F :: h :: O' :: R) H := ((t.swap).split2 j).perm (.trans (.cons _ (.swap _ _ _)) (.swap _ _ _))
    obtain ⟨F0, l0, _, t3⟩ := t2.leak
    obtain ⟨F1, O1, l1, u1, s1⟩ := Wk.slots w (r.mono l0) t3
    exact ⟨F1, O1, l0.tr l1, u1, emp, O1, .l_emp, rfl, s1⟩
  | _, _, x :: σ, F, O, R, .frz f w, ⟨h, O', j, ⟨v, e, p⟩, r⟩, t => by
    have t2 : Pt (F :: h :: O' :: R) H := ((t.swap).split2 j).perm (.trans (.cons _ (.swap _ _ _)) (.swap _ _ _))
    obtain ⟨F0, l0, lh, t3⟩ := t2.leak
    obtain ⟨F1, O1, l1, u1, s1⟩ := Wk.slots w (r.mono l0) t3
    exact ⟨F1, O1, l0.tr l1, u1, emp, O1, .l_emp, ⟨v, e, f v F h F1 p (l0.tr l1) (lh.tr l1)⟩, s1⟩
  | _, _, x :: σ, F, O, R, .imp f w, ⟨h, O', j, ⟨v, e, p⟩, r⟩, t => by
    have t2 : Pt (F :: O' :: h :: R) H := ((t.swap).split2 j).perm (.trans (.swap _ _ _) (.trans (.cons _ (.swap _ _ _)) (.swap _ _ _)))
    obtain ⟨F1, O1, l1, u1, s1⟩ := Wk.slots w r t2
    obtain ⟨c, j2, u2⟩ := (u1.perm (l' := h :: O1 :: F1 :: R) (.trans (.cons _ (.swap _ _ _)) (.trans (.swap _ _ _) (.cons _ (.swap _ _ _))))).join2
    exact ⟨F1, c, l1, u2.swap, h, O1, j2, ⟨v, e, (f v F1 h (Asn.mono _ l1 p))⟩, s1⟩
theorem Wk.len : ∀ {Γ Δ : Ctx}, Wk Γ Δ → Γ.length = Δ.length
  | _, _, .nil => rfl
  | _, _, .keep w => by simp [w.len]
  | _, _, .kill w => by simp [w.len]
  | _, _, .frz _ w => by simp [w.len]
  | _, _, .imp _ w => by simp [w.len]

section
variable {α β γ B T S U : Type} {X : Cx} {W : WX} {cl : String → Addr} {Γ Γe : Ctx} {e a b c : Expr} {es : List Expr} {pos : Pos} {st : Stmt} {sts : List Stmt} {Γn : S → Ctx} {Γb : B → Ctx} {RA : RAs T}
theorem JN.toE {t : TE} {m : Rs α} {A : α → Asn} (h : JN X W cl Γ e t m A) (w : Wk Γ Γe) : JE X W cl Γ e t m (fun _ => Γ) A Γe := by
  obtain ⟨p, k⟩ := h
  refine ⟨p, fun σ F O H R Q u s q => k σ F O H R Q u s (q.mono (fun a _ q v F' h H' l u' p' => q v F' O h H' l u' (s.mono l) p') fun c q F' H' l u' => ?_)⟩
  obtain ⟨F2, O2, l2, u2, s2⟩ := w.slots (s.mono l) u'
  exact q F2 O2 H' (l.tr l2) u2 s2
/-- a slot given away -/
theorem je_move (i : Nat) {x : Str} (A : α → Asn) {y : α} (hl : Γ[i]? = some (some (A y)) := by rfl) (hN : X.N[i]? = some x := by rfl) (hv : Vis X.env.scope x := by first | exact Or.inl rfl | exact Or.inr (Or.inl rfl) | exact Or.inr (Or.inr rfl))
    (hd : (x == ("__debug__" : Str)) = false := by decide) (hcd : (x == ("__classdict__" : Str)) = false := by decide) : JE X W cl Γ (.Name x pos) (tVar i) (.ok y) (fun _ => Γ.set i none) A Γe :=
  ⟨pe_var hN hv hd hcd, fun σ F O H R Q t s q => by
    obtain ⟨w, h, O', e', j, ⟨v, rfl, p⟩, s'⟩ := s.take hl
    exact ⟨v, e', q v F O' h H .rfl (((t.swap).split2 j).perm (.trans (.cons _ (.swap _ _ _)) (.trans (.swap _ _ _) (.cons _ (.swap _ _ _))))) s' p⟩⟩
theorem JE.frz {t : TE} {m : Rs α} {Γ' : α → Ctx} {A A' : α → Asn} (h : JE X W cl Γ e t m Γ' A Γe) (f : ∀ a, Frz (A a) (A' a)) : JE X W cl Γ e t m Γ' A' Γe := by
  obtain ⟨p, k⟩ := h
  refine ⟨p, fun σ F O H R Q u s q => k σ F O H R Q u s (q.mono (fun a _ q v F' O' h H' l u' s' p' => ?_) fun c q => q)⟩
  obtain ⟨F2, l1, l2, u2⟩ := pt_leak3 u'
  exact q v F2 O' emp H' (l.tr l1) (pt_addE u2) (s'.mono l1) (f a v F' h F2 p' l1 l2)
theorem JE.imp {t : TE} {m : Rs α} {Γ' : α → Ctx} {A A' : α → Asn} (h : JE X W cl Γ e t m Γ' A Γe) (f : ∀ a v F h, (A a).p v F h → (A' a).p v F h) : JE X W cl Γ e t m Γ' A' Γe := by
  obtain ⟨p, k⟩ := h
  exact ⟨p, fun σ F O H R Q u s q => k σ F O H R Q u s (q.mono (fun a _ q v F' O' h H' l u' s' p' => q v F' O' h H' l u' s' (f a v F' h p')) fun c q => q)⟩

/-- x = e -/
theorem jl_set (i : Nat) {t : TE} {x : Str} {pos' : Pos} {m : Rs α} {Γ' : α → Ctx} {A : α → Asn} (nd : X.N.Nodup) (he : JE X W cl Γ e t m Γ' A Γe) (hi : X.N[i]? = some x := by rfl) (hx : Loc X.env.scope x := by first | exact Or.inl rfl | exact Or.inr rfl)
    (hli : ∀ a, Nat.blt i (Γ' a).length = true := by intro _; rfl) (hs : swapsWith e (some (.Name x pos')) pos.line X.env = pure false := by rfl) (hf : X.fn x = true ∨ X.env.scope.names.lookup x = some .local := by first | exact .inl rfl | exact .inr rfl) :
    JL X W cl Γ (.Assign [.Name x pos'] e pos) (tAsg t (gName i)) m (fun a => (Γ' a).set i (some (A a))) Γe := by
  obtain ⟨p, k⟩ := he
  refine ⟨ps_set nd hi hx p hs hf, fun σ F O H R D u s q => k σ F O H R _ u s (q.mono (fun a _ q v F' O' h H' l u' s' p' => ?_) fun c q F' O' H' => q σ F' O' H')⟩
  obtain ⟨F2, O2, l2, u2, s2⟩ := s'.kill (i := i) u'
  have hl : ((Γ' a).set i none)[i]? = some none := by rw [List.getElem?_set_self (Nat.blt_eq.mp (hli a))]
  obtain ⟨c, j, u3⟩ := (u2.perm (l' := h :: O2 :: F2 :: R) (.trans (.cons _ (.swap _ _ _)) (.trans (.swap _ _ _) (.cons _ (.swap _ _ _))))).join2
  have s3 := s2.put hl ((A a).mono l2 p') j
  rw [set_set] at s3
  exact q _ F2 c H' (l.tr l2) u3.swap s3
/-- an expression as a statement -/
theorem jl_expr {t : TE} {m : Rs α} {Γ' : α → Ctx} {A : α → Asn} (he : JE X W cl Γ e t m Γ' A Γe) (hs : swapsWith e none pos.line X.env = pure false := by rfl) : JL X W cl Γ (.Expr e pos) (tDrop t) m Γ' Γe := by
  obtain ⟨p, k⟩ := he
  refine ⟨ps_expr p hs, fun σ F O H R D u s q => k σ F O H R _ u s (q.mono (fun a _ q v F' O' h H' l u' s' p' => ?_) fun c q F' O' H' => q σ F' O' H')⟩
  obtain ⟨F2, l1, l2, u2⟩ := pt_leak3 u'
  exact q σ F2 O' H' (l.tr l1) u2 (s'.mono l1)
theorem jl_pass : JL X W cl Γ (.Pass pos) tNext (.ok ()) (fun _ => Γ) Γe := ⟨ps_pass, fun σ F O H R D u s q => q σ F O H .rfl u s⟩
theorem JL.wk {t : TS} {m : Rs α} {Γ' Γ2 : α → Ctx} (h : JL X W cl Γ st t m Γ' Γe) (w : ∀ a, Wk (Γ' a) (Γ2 a)) : JL X W cl Γ st t m Γ2 Γe := by
  obtain ⟨p, k⟩ := h
  refine ⟨p, fun σ F O H R D u s q => k σ F O H R D u s (q.mono (fun a _ q σ' F' O' H' l u' s' => ?_) fun c q => q)⟩
  obtain ⟨F2, O2, l2, u2, s2⟩ := (w a).slots s' u'
  exact q σ' F2 O2 H' (l.tr l2) u2 s2

theorem jb_nil {s : S} (w : Wk Γ (Γn s)) : JB (T := T) X W cl Γ [] tNext (.nx s) Γn Γb RA Γe := by
  refine ⟨pss_nil, fun σ F O H R D u s q => ?_⟩
  obtain ⟨F2, O2, l2, u2, s2⟩ := w.slots s u
  exact q σ F2 O2 H l2 u2 s2
theorem jb_lin {t t2 : TS} {m : Rs α} {Γ' : α → Ctx} {k : α → Fl B T S} [ne : Nonempty α] (h : JL X W cl Γ st t m Γ' Γe) (r : ∀ a, JB X W cl (Γ' a) sts t2 (k a) Γn Γb RA Γe) : JB X W cl Γ (st :: sts) (tSeq t t2) (m.f k) Γn Γb RA Γe := by
  obtain ⟨p, kt⟩ := h
  refine ⟨ne.elim fun a => pss_cons p (r a).pe, fun σ F O H R D u s q => kt σ F O H R _ u s (q.bindR.mono (fun a _ q σ' F' O' H' l u' s' => ?_) fun c q => q)⟩
  exact (r a).run σ' F' O' H' R D u' s' (OutF.mono q (fun _ _ q σ F O H l' => q σ F O H (l.tr l')) (fun _ q v F h H l' => q v F h H (l.tr l')) (fun _ q σ F O H l' => q σ F O H (l.tr l')) (fun _ q σ F O H l' => q σ F O H (l.tr l')) fun _ q σ F O H l' => q σ F O H (l.tr l'))
theorem jb_one {t : TS} {m : Fl B T S} (h : JS X W cl Γ st t m Γn Γb RA Γe) : JB X W cl Γ [st] t m Γn Γb RA Γe := ⟨pss_one h.pe, h.run⟩
theorem wants_le {Γn : S → Ctx} {F F' : Hp} {R : List Hp} {D : Ends} {m : Fl B T S} (l : Le F F') (q : OutF m (wants W cl Γn Γb RA Γe F R D)) : OutF m (wants W cl Γn Γb RA Γe F' R D) :=
  OutF.mono q (fun _ _ q σ F O H l' => q σ F O H (l.tr l')) (fun _ q v F h H l' => q v F h H (l.tr l')) (fun _ q σ F O H l' => q σ F O H (l.tr l')) (fun _ q σ F O H l' => q σ F O H (l.tr l')) fun _ q σ F O H l' => q σ F O H (l.tr l')
theorem jb_cons {t t2 : TS} {m : Fl B T U} {Γu : U → Ctx} {k : U → Fl B T S} [ne : Nonempty U] (h : JS X W cl Γ st t m Γu Γb RA Γe) (r : ∀ a, JB X W cl (Γu a) sts t2 (k a) Γn Γb RA Γe) : JB X W cl Γ (st :: sts) (tSeq t t2) (m.b k) Γn Γb RA Γe := by
  obtain ⟨p, kt⟩ := h
  refine ⟨ne.elim fun a => pss_cons p (r a).pe, fun σ F O H R D u s q => kt σ F O H R _ u s (OutF.mono q.bind (fun a _ q σ' F' O' H' l u' s' => ?_) (fun _ q => q) (fun _ q => q) (fun _ q => q) (fun _ q => q))⟩
  exact (r a).run σ' F' O' H' R D u' s' (wants_le l q)
theorem js_if {t : TT} {t1 t2 : TS} {mc : Rs Bool} {m n : Fl B T S} {sa sb : List Stmt} (hc : JT X W cl Γ c t mc) (we : Wk Γ Γe) (h1 : JB X W cl Γ sa t1 m Γn Γb RA Γe) (h2 : JB X W cl Γ sb t2 n Γn Γb RA Γe) : JS X W cl Γ (.If c sa sb pos) (tIfS t t1 t2) (mc.f fun x => if x = true then m else n) Γn Γb RA Γe := by
  obtain ⟨p, k⟩ := hc
  obtain ⟨p1, k1⟩ := h1
  obtain ⟨p2, k2⟩ := h2
  refine ⟨ps_if p p1 p2, fun σ F O H R D u s q => k σ F O H R _ u s (q.bindR.mono (fun x _ q F1 H1 le u1 => ?_) fun c q F' H' l u' => ?_)⟩
  · cases x with
    | true => exact k1 σ F1 O H1 R D u1 (s.mono le) (wants_le le q)
    | false => exact k2 σ F1 O H1 R D u1 (s.mono le) (wants_le le q)
  · obtain ⟨F2, O2, l2, u2, s2⟩ := we.slots (s.mono l) u'
    exact q σ F2 O2 H' (l.tr l2) u2 s2
/-- what never goes on, at any type -/
def Fl.v (m : Fl B T Empty) : Fl B T S := match m with
  | .nx s => s.elim
  | .rt r => .rt r
  | .bk b => .bk b
  | .ct b => .ct b
  | .er c => .er c
  | .no => .no
/-- if c: what never goes on; then the rest -/
theorem jb_ifv {t : TT} {t1 t2 : TS} {mc : Rs Bool} {m : Fl B T Empty} {n : Fl B T S} {sa : List Stmt} {Γ0 : Empty → Ctx} (hc : JT X W cl Γ c t mc) (we : Wk Γ Γe) (h1 : JB X W cl Γ sa t1 m Γ0 Γb RA Γe) (h2 : JB X W cl Γ sts t2 n Γn Γb RA Γe) :
    JB X W cl Γ (.If c sa [] pos :: sts) (tSeq (tIfS t t1 tNext) t2) (mc.f fun x => if x = true then m.v else n) Γn Γb RA Γe := by
  obtain ⟨p, k⟩ := hc
  obtain ⟨p1, k1⟩ := h1
  obtain ⟨p2, k2⟩ := h2
  refine ⟨pss_cons (ps_if p p1 pss_nil) p2, fun σ F O H R D u s q => k σ F O H R _ u s (q.bindR.mono (fun x _ q F1 H1 le u1 => ?_) fun c q F' H' l u' => ?_)⟩
  · cases x with
    | true =>
      refine k1 σ F1 O H1 R _ u1 (s.mono le) (wants_le le ?_)
      have q' : OutF (m.v : Fl B T S) (wants W cl Γn Γb RA Γe F R D) := q
      cases m with
      | nx s => exact s.elim
      | rt r => exact q'
      | bk r => exact q'
      | ct r => exact q'
      | er r => exact q'
      | no => exact q'
    | false => exact k2 σ F1 O H1 R D u1 (s.mono le) (wants_le le q)
  · obtain ⟨F2, O2, l2, u2, s2⟩ := we.slots (s.mono l) u'
    exact q σ F2 O2 H' (l.tr l2) u2 s2
/-- return e, where nothing is given back beside it -/
theorem js_ret {t : TE} {m : Rs T} {Γ' : T → Ctx} {A : T → Asn} (he : JE X W cl Γ e t m Γ' A Γe) : JS X W cl Γ (.Return (some e) pos) (tRet t) (m.f fun a => .rt a : Fl B T S) Γn Γb (fun r v F h => (A r).p v F h) Γe := by
  obtain ⟨p, k⟩ := he
  refine ⟨ps_ret p, fun σ F O H R D u s q => k σ F O H R _ u s (q.bindR.mono (fun a _ q v F' O' h H' l u' s' p' => ?_) fun c q F' O' H' => q σ F' O' H')⟩
  obtain ⟨F2, l1, _, u2⟩ := u'.leak
  exact q v F2 h H' (l.tr l1) u2 ((A a).mono l1 p')
theorem js_retN : JS X W cl Γ (.Return none pos) tRetN (.rt () : Fl B Unit S) Γn Γb (fun r v F h => (aU r).p v F h) Γe :=
  ⟨ps_retN, fun σ F O H R D u s q => by
    obtain ⟨F2, l1, _, u2⟩ := u.leak
    exact q .non F2 emp H l1 ((u2.addE).swap) ⟨rfl, rfl⟩⟩
theorem js_break {s : B} (w : Wk Γ (Γb s)) : JS X W cl Γ (.Break pos) tBreak (.bk s : Fl B T S) Γn Γb RA Γe := by
  refine ⟨ps_break, fun σ F O H R D u s q => ?_⟩
  obtain ⟨F2, O2, l2, u2, s2⟩ := w.slots s u
  exact q σ F2 O2 H l2 u2 s2
theorem js_cont {s : B} (w : Wk Γ (Γb s)) : JS X W cl Γ (.Continue pos) tCont (.ct s : Fl B T S) Γn Γb RA Γe := by
  refine ⟨ps_continue, fun σ F O H R D u s q => ?_⟩
  obtain ⟨F2, O2, l2, u2, s2⟩ := w.slots s u
  exact q σ F2 O2 H l2 u2 s2

/-- the mirror of a loop -/
def forM (f : S → α → Fl S T S) : List α → S → Fl B T S
  | [], s => .nx s
  | x :: xs, s => match f s x with
    | .nx s' => forM f xs s'
    | .ct s' => forM f xs s'
    | .bk s' => .nx s'
    | .rt r => .rt r
    | .er c => .er c
    | .no => .no
/-- what is walked: the items xs, each by A -/
structure JI {α : Type} (X : Cx) (W : WX) (cl : String → Addr) (Γ : Ctx) (tg iter : Expr) (wi : TI) (m : Rs (List α)) (A : α → Asn) : Prop where
  pe : PI X tg iter wi
  run : ∀ (σ : L2.St) (F O H : Hp) (R : List Hp) (Q : It → Hp → Prop), Pt (F :: O :: R) H → Slots Γ σ F O →
    Out m (fun xs => ∀ J F' H', Le F F' → Pt (F' :: O :: R) H' →
      (∀ i F2 H2 O2 R2 x, Le F' F2 → Pt (F2 :: O2 :: R2) H2 → xs[i]? = some x → J.go i H2 ∧ ∀ v H3, J.yld i H2 v H3 → ∃ F3 h, Le F2 F3 ∧ Pt (F3 :: O2 :: h :: R2) H3 ∧ (A x).p v F3 h) →
      (∀ F2 H2 l, Le F' F2 → Pt (F2 :: l) H2 → J.stop xs.length H2) → Q J H')
      (fun c => ∀ F' H', Le F F' → Pt (F' :: O :: R) H' → W (.ref (cl c)) none σ H') → wi σ H Q
/-- a target takes a value that owns nothing; L: its slots -/
structure JG {α : Type} (X : Cx) (tg : Expr) (g : TG) (A : α → Asn) (Γ : Ctx) (Γ' : α → Ctx) (L : List Nat) : Prop where
  pe : PG X tg g
  run : ∀ (a : α) (v : V) (σ : L2.St) (F O h H : Hp) (R : List Hp) (Q : L2.St → Hp → Prop), Pt (F :: O :: h :: R) H → Slots Γ σ F O → (A a).p v F h →
    (∀ σ' F' H', Le F F' → Pt (F' :: O :: R) H' → Slots (Γ' a) σ' F' O → (∀ n, n ∉ L → σ'[n]? = σ[n]?) → σ'.length = σ.length → Q σ' H') → g v σ H Q
theorem put_at {Γ : Ctx} {σ : L2.St} {F O h H : Hp} {R : List Hp} {i : Nat} {A : Asn} {v : V} (s : Slots Γ σ F O) (hi : i < Γ.length) (p : A.p v F h) (u : Pt (F :: O :: h :: R) H) :
    ∃ F' O', Le F F' ∧ Pt (F' :: O' :: R) H ∧ Slots (Γ.set i (some A)) (σ.set i (some v)) F' O' := by
  obtain ⟨F2, O2, l2, u2, s2⟩ := s.kill (i := i) u
  have hl : (Γ.set i none)[i]? = some none := by rw [List.getElem?_set_self hi]
  obtain ⟨c, j, u3⟩ := (u2.perm (l' := h :: O2 :: F2 :: R) (.trans (.cons _ (.swap _ _ _)) (.trans (.swap _ _ _) (.cons _ (.swap _ _ _))))).join2
  have s3 := s2.put hl (A.mono l2 p) j
  rw [set_set] at s3
  exact ⟨F2, c, l2, u3.swap, s3⟩
theorem jg_name (i : Nat) {x : Str} {A : α → Asn} [pf : PerF A] (nd : X.N.Nodup) (hl : Γ[i]? = some none := by rfl) (hi : X.N[i]? = some x := by rfl) (hx : Loc X.env.scope x := by first | exact Or.inl rfl | exact Or.inr rfl)
    (hf : X.fn x = true ∨ X.env.scope.names.lookup x = some .local := by first | exact .inl rfl | exact .inr rfl) : JG X (.Name x pos) (gName i) A Γ (fun a => Γ.set i (some (A a))) [i] :=
  ⟨pg_name nd hi hx hf, fun a v σ F O h H R Q u s p q => by
    have e := pf.per a _ _ _ p
    subst e
    refine q _ F H .rfl (pt_skip u rfl) (s.put hl p .l_emp) (fun n hn => ?_) (by simp)
    rw [List.getElem?_set_ne (fun e => hn (by simp [e]))]⟩
theorem js_for {wi : TI} {g : TG} {tb : TS} {mi : Rs (List α)} {A : α → Asn} {Γl : S → Ctx} {s0 : S} {f : S → α → Fl S T S} {Γt : S → α → Ctx} {tg iter : Expr} {body : List Stmt} {L : List Nat} {k : Nat} [ne : Nonempty α] (G : Gd X W k) (hi : JI X W cl Γ tg iter wi mi A) (we : Wk Γ Γe) (w0 : Wk Γ (Γl s0))
    (hg : ∀ s, JG X tg g A (Γl s) (Γt s) L) (hb : ∀ s x, JB X W cl (Γt s x) body tb (f s x) Γl Γl RA Γe) (hs : ∀ x, foldedSetIterable iter X.env x = pure x := by intro _; rfl) :
    JS X W cl Γ (.For tg iter body [] pos) (tFor wi g tb) (mi.f fun xs => (forM f xs s0 : Fl B T S)) Γl Γb RA Γe := by
  obtain ⟨pi, ki⟩ := hi
  refine ⟨ps_for G.po G.calm pi (hg s0).pe (ne.elim fun x => (hb s0 x).pe) hs, fun σ F O H R D u s q => ki σ F O H R _ u s (q.bindR.mono (fun xs _ q J F' H' l u' hgo hst => ?_) fun c q F' H' l u' => ?_)⟩
  · obtain ⟨F1, O1, l1, u1, s1⟩ := w0.slots (s.mono l) u'
    refine ⟨fun i m σ H => m = xs.length - i ∧ i ≤ xs.length ∧ ∃ s F2 O2, Le F' F2 ∧ Pt (F2 :: O2 :: R) H ∧ Slots (Γl s) σ F2 O2 ∧ OutF (forM f (xs.drop i) s : Fl B T S) (wants W cl Γl Γb RA Γe F2 R D),
      ⟨xs.length, by simp, Nat.zero_le _, s0, F1, O1, l1, u1, s1, by rw [List.drop_zero]; exact wants_le (l.tr l1) q⟩, ?_⟩
    rintro i m σ2 H2 ⟨rfl, hle, st, F2, O2, l2, u2, s2, q2⟩
    by_cases hlt : i < xs.length
    · right
      have hx : xs[i]? = some xs[i] := by simp [hlt]
      obtain ⟨go, yl⟩ := hgo i F2 H2 O2 R xs[i] l2 u2 hx
      rw [List.drop_eq_getElem_cons hlt] at q2
      refine ⟨go, fun σ' H' => ∃ s' F3 O3, Le F' F3 ∧ Pt (F3 :: O3 :: R) H' ∧ Slots (Γl s') σ' F3 O3 ∧ OutF (forM f (xs.drop (i + 1)) s' : Fl B T S) (wants W cl Γl Γb RA Γe F3 R D), fun σ' H' ⟨s', F3, O3, l3, u3, s3, q3⟩ => ⟨_, by omega, rfl, hlt, s', F3, O3, l3, u3, s3, q3⟩, fun v H3 y => ?_⟩
      obtain ⟨F3, h, l3, u3, p3⟩ := yl v H3 y
      refine (hg st).run xs[i] v σ2 F3 O2 h H3 R _ u3 (s2.mono l3) p3 fun σ4 F4 H4 l4 u4 s4 _ _ => ?_
      have lb : Le F' F4 := l2.tr (l3.tr l4)
      refine (hb st xs[i]).run σ4 F4 O2 H4 R _ u4 s4 ?_
      have q4 := wants_le (l3.tr l4) q2
      clear q2
      unfold forM at q4
      cases e : f st xs[i] with
      | nx s' => rw [e] at q4; exact fun σ' F5 O5 H5 l5 u5 s5 => ⟨s', F5, O5, lb.tr l5, u5, s5, wants_le l5 q4⟩
      | ct s' => rw [e] at q4; exact fun σ' F5 O5 H5 l5 u5 s5 => ⟨s', F5, O5, lb.tr l5, u5, s5, wants_le l5 q4⟩
      | bk s' => rw [e] at q4; exact fun σ' F5 O5 H5 l5 u5 s5 => q4 σ' F5 O5 H5 l5 u5 s5
      | rt r => rw [e] at q4; exact q4
      | er c => rw [e] at q4; exact q4
      | no => rw [e] at q4; exact q4
    · have ee : i = xs.length := by omega
      subst ee
      left
      rw [List.drop_length] at q2
      exact ⟨hst F2 H2 (O2 :: R) l2 u2, q2 σ2 F2 O2 H2 .rfl u2 s2⟩
  · obtain ⟨F2, O2, l2, u2, s2⟩ := we.slots (s.mono l) u'
    exact q σ F2 O2 H' (l.tr l2) u2 s2
end
end Br
namespace Br
open PySem PySem.Spec L2
variable [tgi : Tbs]

/-- a def's answer -/
def Fl.fn {B T S : Type} (d : S → T) (m : Fl B T S) : Rs T := match m with
  | .nx s => .ok (d s)
  | .rt r => .ok r
  | .er c => .er c
  | _ => .no
/-- what a def promises: with arguments that stand for i it comes to f i -/
def Fsp {ι ρ : Type} (cl : String → Addr) (As : ι → List Asn) (f : ι → Rs ρ) (C : ρ → Asn) : Sp := fun vs H Q E =>
  ∃ i F h R, TgOk F ∧ Pt (F :: h :: R) H ∧ Sep (As i) vs F h ∧ Out (f i) (fun r => ∀ v F' h' H', Le F F' → Pt (F' :: h' :: R) H' → (C r).p v F' h' → Q v H') (fun c => ∀ F' H', Le F F' → Pt (F' :: R) H' → E (.ref (cl c)) none H')
theorem Sep.slots {F : Hp} (g : TgOk F) : ∀ {As : List Asn} {vs : List V} {h : Hp} (n : Nat), Sep As vs F h → Slots (As.map some ++ List.replicate n none) (vs.map some ++ List.replicate n none) F h
  | [], [], h, 0, e => ⟨e, g⟩
  | [], [], h, n + 1, e => ⟨emp, h, .l_emp, rfl, Sep.slots g (As := []) (vs := []) n e⟩
  | A :: As, v :: vs, h, n, ⟨h1, h2, t, p, r⟩ => ⟨h1, h2, t, ⟨v, rfl, p⟩, Sep.slots g n r⟩
theorem wk_none : ∀ (Γ : Ctx), Wk Γ (List.replicate Γ.length none)
  | [] => .nil
  | _ :: Γ => .kill (wk_none Γ)
theorem wk_all {Γ : Ctx} {n : Nat} (h : Γ.length = n) : Wk Γ (List.replicate n none) := h ▸ wk_none Γ
section
variable {P : Program} {w : World} {K : PySem.W.Frag} {mg : Str → Option Value} {base : Heap} {cl : String → Addr} {ι ρ S B : Type}
abbrev FnP (K : PySem.W.Frag) (x qual : Str) (st : Stmt) (f : Addr) (fd : FuncData) : Prop := FunD K x qual (defArgs st) (defBody st) (defScope st) [] [] f fd
abbrev FnR (P : Program) (w : World) (K : PySem.W.Frag) (mg : Str → Option Value) (base : Heap) (cl : String → Addr) (k : Nat) (f : Addr) (fd : FuncData) (ps : List Str) (As : ι → List Asn) (m : ι → Rs ρ) (C : ρ → Asn) : Prop :=
  FnOk P w K mg base (L2.CX P w) k f fd ps (Fsp cl As m C)
/-- THE RULE for a def -/
theorem fn_ok {x qual : Str} {st : Stmt} {f : Addr} {fd : FuncData} {N ps : List Str} {k : Nat} {As : ι → List Asn} {m : ι → Fl B ρ S} {C : ρ → Asn} {d : S → ρ} {Γn : S → Ctx} {Γb : B → Ctx} (F : FnP K x qual st f fd) (S : FnScope N ps (defScope st))
    (len : ∀ i, (As i).length = ps.length) (hd : ∀ s F, (C (d s)).p .non F emp)
    (hb : ∀ (cdv : Value) (A : Around) (outer : List Env) (s : Shared) (H : Hp) (E : XK), Gd (cxOf (L2.CX P w) P w K mg base N qual (defScope st) f cdv A outer s H E) (fun cls dd _ H' => E cls dd H') k → ∀ i,
      ∃ t, JB (cxOf (L2.CX P w) P w K mg base N qual (defScope st) f cdv A outer s H E) (fun cls dd _ H' => E cls dd H') cl ((As i).map some ++ List.replicate (N.length - ps.length) none) (defBody st) t (m i) Γn Γb (fun r v F h => (C r).p v F h) (List.replicate N.length none)) :
    FnR P w K mg base cl (k + 1) f fd ps As (fun i => (m i).fn d) C := by
  have hlen : ∀ vs H Q E, Fsp cl As (fun i => (m i).fn d) C vs H Q E → vs.length = ps.length := fun vs H Q E ⟨i, F, h, R, _, _, s, _⟩ => s.len.symm.trans (len i)
  refine F.ok S hlen fun cdv A outer s H vs Q E hr hsp => ?_
  have hv := hlen _ _ _ _ hsp
  obtain ⟨i, F0, h, R, tg0, u, sp, q⟩ := hsp
  have G : Gd (cxOf (L2.CX P w) P w K mg base N qual (defScope st) f cdv A outer s H E) (fun cls dd _ H' => E cls dd H') k := ⟨takes_of rfl rfl rfl rfl, passes_of rfl, rfl, S.nd, hr⟩
  obtain ⟨t, p, r⟩ := hb cdv A outer s H E G i
  refine ⟨t, p, ?_⟩
  have e : L2.start N vs = vs.map some ++ List.replicate (N.length - ps.length) none := by unfold L2.start; rw [hv]
  rw [e]
  refine r _ F0 h H R _ u (sp.slots tg0 _) ?_
  replace q : Out ((m i).fn d) _ _ := q
  cases em : m i with
  | nx s => 
    rw [em] at q
    intro σ' F' O' H' l u' s'
    obtain ⟨F2, l1, _, u2⟩ := u'.leak
    exact q .non F2 emp H' (l.tr l1) (Pt.swap u2.addE) (hd s F2)
  | rt r => rw [em] at q; exact q
  | er c =>
    rw [em] at q
    intro σ' F' O' H' l u' s'
    obtain ⟨F2, l1, _, u2⟩ := u'.leak
    exact q F2 H' (l.tr l1) u2
  | bk b => rw [em] at q; exact q.elim
  | ct b => rw [em] at q; exact q.elim
  | no => rw [em] at q; exact q.elim
end

section
variable {α β ι ρ B T S : Type} {X : Cx} {W : WX} {cl : String → Addr} {Γ Γe : Ctx} {e a b c : Expr} {es : List Expr} {pos p : Pos} {k j : Nat} {Γn : S → Ctx} {Γb : B → Ctx} {RA : RAs T}
/-- a def of the text, called -/
theorem jn_call {x : Str} {t : TA} {f : Addr} {fd : FuncData} {ps : List Str} {As : ι → List Asn} {fm : ι → Rs ρ} {C : ρ → Asn} {m : Rs ι} (G : Gd X W k) (F : FnR X.prog X.w X.K X.mg X.base cl j f fd ps As fm C) (hj : j ≤ k) (hm : X.mg x = some (.ref f))
    (kp : PySem.W.keepIn X.K (.ref f) = true) (hb : Binds X.K fd ps []) (h : JNs X W cl Γ (e :: es) t m As) (hg : Gl X x := by rfl) (hdb : (x == ("__debug__" : Str)) = false := by decide)
    (he : starEach (e :: es) X.env = (false, eval e X.env) :: starEach es X.env := by rfl) (hpl : (backTo pos (starEach es X.env)).any (·.1) = false := by rfl) :
    JN X W cl Γ (.Call (.Name x p) (e :: es) [] pos) (tCallS (Fsp cl As fm C) (WE W) t) (m.b fm) C := by
  obtain ⟨pp, kk⟩ := h
  refine ⟨pe_callS F (G.room.mono hj) hg hm kp hb (passAt G.tk) pp hdb he hpl, fun σ F0 O H R Q u s q => kk σ F0 O H R _ u s (q.bind.mono (fun i _ q vs F' h H' l u' p' => ?_) fun c q => q)⟩
  refine ⟨i, F', h, O :: R, s.tgo.mono l, u'.swap1, p', q.mono (fun r _ q v F2 h2 H2 l2 u2 p2 => q v F2 h2 H2 (l.tr l2) u2.swap1 p2) fun c q F2 H2 l2 u2 => q F2 H2 (l.tr l2) u2⟩
/-- an own exception class over ValueError, without __init__ -/
structure XF (K : PySem.W.Frag) (mg : Str → Option Value) (x : Str) (C : Addr) : Prop where
  q : PySem.W.excIn K C He.veBase "ValueError.__new__" = true
  gC : mg x = some (.ref C)
  kC : PySem.W.keepIn K (.ref C) = true
  s : PySem.W.subIn K (.ref C) (.type "BaseException") = some true
  t : PySem.W.typeIn K (.ref C) = some (.type "type")
theorem js_raise {x n : Str} {j : Nat} {p2 p3 : Pos} {cn : String} {C : Addr} (G : Gd X W k) (E : XF X.K X.mg x C) (hc : cl cn = C) (we : Wk Γ Γe) (hg : Gl X x := by rfl) (hdb : (x == ("__debug__" : Str)) = false := by decide) :
    JS X W cl Γ (.Raise (some (.Call (.Name x p) [.Constant (.str n) j p2] [] p3)) none pos) (fun _ σ H => W (.ref C) none σ H) (.er cn : Fl B T S) Γn Γb RA Γe := by
  refine ⟨ps_raise (t := fun _ H Q => Q (.ref C) none H) G.calm G.tk (pmk_own PySem.F.excBase_ValueError E.q E.gC E.kC (raises_own E.s E.t) hg hdb), fun σ F O H R D u s q => ?_⟩
  obtain ⟨F2, O2, l2, u2, s2⟩ := we.slots s u
  have := q σ F2 O2 H l2 u2 s2
  rw [hc] at this
  exact this
end
end Br
namespace Br
open PySem PySem.Spec L2
variable [tgi : Tbs]

theorem emp_le {h : Hp} : Le emp h := .of fun _ _ z => nomatch z
section
variable {α β γ : Type} {X : Cx} {W : WX} {cl : String → Addr} {Γ Γe : Ctx} {e a b c : Expr} {es : List Expr} {pos p : Pos} {ta tb : TE}
theorem pt_drop2 {F h1 h2 H : Hp} {R : List Hp} (u : Pt (F :: h2 :: h1 :: R) H) (e1 : h1 = emp) (e2 : h2 = emp) : Pt (F :: emp :: R) H := by
  subst e1 e2
  exact (u.swap).dropE
theorem op2_I {C0 : Int → Int → Prop} [∀ i j, Decidable (C0 i j)] {g : Int → Int → V} {f : Int → Int → γ} {C : γ → Asn} (h : ∀ i j F, (C (f i j)).p (g i j) F emp) : Op2 (rI C0 g) aI aI (fun i j => if C0 i j then some (f i j) else none) C := by
  intro a b v w F h1 h2 H R Q c e u p q k
  obtain ⟨rfl, e1⟩ := p
  obtain ⟨rfl, e2⟩ := q
  replace e : (if C0 a b then some (f a b) else none) = some c := e
  by_cases hc : C0 a b
  · rw [if_pos hc] at e
    cases e
    exact ⟨a, b, rfl, rfl, hc, k _ F emp H .rfl (pt_drop2 u e1 e2) (h a b F)⟩
  · rw [if_neg hc] at e; cases e
theorem op2_I0 {g : Int → Int → V} {f : Int → Int → γ} {C : γ → Asn} (h : ∀ i j F, (C (f i j)).p (g i j) F emp) : Op2 (rI0 g) aI aI (fun i j => some (f i j)) C := by
  intro a b v w F h1 h2 H R Q c e u p q k
  obtain ⟨rfl, e1⟩ := p
  obtain ⟨rfl, e2⟩ := q
  cases e
  exact ⟨a, b, rfl, rfl, k _ F emp H .rfl (pt_drop2 u e1 e2) (h a b F)⟩
theorem op2_S {r : V → V → Bool} {A : α → Asn} {f : α → α → Bool} {val : α → V} (hA : ∀ x v F h, (A x).p v F h → v = val x ∧ h = emp) (hs : ∀ x y, scal (val x) (val y) = true) (hr : ∀ x y, r (val x) (val y) = f x y) :
    Op2 (fun x y H Q => scal x y = true ∧ Q (.bl (r x y)) H) A A (fun x y => some (f x y)) aB := by
  intro a b v w F h1 h2 H R Q c e u p q k
  obtain ⟨rfl, e1⟩ := hA _ _ _ _ p
  obtain ⟨rfl, e2⟩ := hA _ _ _ _ q
  cases e
  exact ⟨hs a b, k _ F emp H .rfl (pt_drop2 u e1 e2) ⟨by rw [hr], rfl⟩⟩
variable {m n : Rs Int}
theorem jn_add (h1 : JN X W cl Γ a ta m aI) (h2 : JN X W cl Γ b tb n aI) : JN X W cl Γ (.BinOp a .Add b pos) (tOp (rI0 fun i j => .int (i + j)) ta tb) (m.b fun x => n.b fun y => .ok (x + y)) aI :=
  JN.bin (f := fun x y => some (x + y)) h1 h2 (fun p q => pe_op op_add p q) (op2_I0 (f := fun x y : Int => (x + y)) (C := aI) fun _ _ _ => ⟨rfl, rfl⟩)
theorem jn_sub (h1 : JN X W cl Γ a ta m aI) (h2 : JN X W cl Γ b tb n aI) : JN X W cl Γ (.BinOp a .Sub b pos) (tOp (rI0 fun i j => .int (i - j)) ta tb) (m.b fun x => n.b fun y => .ok (x - y)) aI :=
  JN.bin (f := fun x y => some (x - y)) h1 h2 (fun p q => pe_op op_sub p q) (op2_I0 (f := fun x y : Int => (x - y)) (C := aI) fun _ _ _ => ⟨rfl, rfl⟩)
theorem jn_neg (h1 : JN X W cl Γ a ta m aI) : JN X W cl Γ (.UnaryOp .USub a pos) (tUn (rU fun i => .int (-i)) ta) (m.b fun x => .ok (-x)) aI :=
  JN.un (f := fun x => some (-x)) h1 (fun p => pe_un un_neg p) fun a v F h H R Q c e u p k => by
    obtain ⟨rfl, e1⟩ := p
    cases e
    exact ⟨a, rfl, k _ F emp H .rfl (by rw [e1] at u; exact u) ⟨rfl, rfl⟩⟩
instance (i j : Int) : Decidable (CMul i j) := by unfold CMul; infer_instance
instance (i j : Int) : Decidable (CDivW i j) := by unfold CDivW; infer_instance
instance (i j : Int) : Decidable (CPow i j) := by unfold CPow; infer_instance
/-- a product; one factor below 2 ^ 64 -/
def mulO (i j : Int) : Option Int := if CMul i j then some (i * j) else none
def divO (i j : Int) : Option Int := if CDivW i j then some (i / j) else none
def modO (i j : Int) : Option Int := if 0 < j then some (i % j) else none
theorem jn_mul (h1 : JN X W cl Γ a ta m aI) (h2 : JN X W cl Γ b tb n aI) : JN X W cl Γ (.BinOp a .Mult b pos) (tOp (rI CMul fun i j => .int (i * j)) ta tb) (m.b fun x => n.b fun y => opt (mulO x y)) aI :=
  JN.bin (f := mulO) h1 h2 (fun p q => pe_op op_mul p q) (op2_I (C := aI) fun _ _ _ => ⟨rfl, rfl⟩)
theorem jn_div (h1 : JN X W cl Γ a ta m aI) (h2 : JN X W cl Γ b tb n aI) : JN X W cl Γ (.BinOp a .FloorDiv b pos) (tOp (rI CDivW fun i j => .int (i / j)) ta tb) (m.b fun x => n.b fun y => opt (divO x y)) aI :=
  JN.bin (f := divO) h1 h2 (fun p q => pe_op op_fdivW p q) (op2_I (C := aI) fun _ _ _ => ⟨rfl, rfl⟩)
theorem jn_mod (h1 : JN X W cl Γ a ta m aI) (h2 : JN X W cl Γ b tb n aI) : JN X W cl Γ (.BinOp a .Mod b pos) (tOp (rI (fun _ j => 0 < j) fun i j => .int (i % j)) ta tb) (m.b fun x => n.b fun y => opt (modO x y)) aI :=
  JN.bin (f := modO) h1 h2 (fun p q => pe_op op_mod p q) (op2_I (C := aI) fun _ _ _ => ⟨rfl, rfl⟩)
/-- the same where the second one is known -/
theorem op2_k {C0 : Int → Int → Prop} {g : Int → Int → V} {f : Int → Int → γ} {C : γ → Asn} {j : Int} (hc : ∀ i, C0 i j) (h : ∀ i j F, (C (f i j)).p (g i j) F emp) (op : OpR X (binaryOp o) (rI C0 g)) (h1 : JN X W cl Γ a ta m aI) (h2 : JN X W cl Γ b tb (.ok j) aI) :
    JN X W cl Γ (.BinOp a o b pos) (tOp (rI C0 g) ta tb) (m.b fun x => .ok (f x j)) C := by
  obtain ⟨pa, ka⟩ := h1
  obtain ⟨pb, kb⟩ := h2
  refine ⟨pe_op op pa pb, fun σ F O H R Q u s q => ka σ F O H R _ u s (q.bind.mono (fun x _ q v F1 h1 H1 le1 u1 p1 => ?_) fun c q => q)⟩
  refine kb σ F1 O H1 (h1 :: R) _ u1 (s.mono le1) fun w F2 h2 H2 le2 u2 p2 => ?_
  obtain ⟨rfl, e1⟩ := p1
  obtain ⟨rfl, e2⟩ := p2
  subst e1 e2
  have u3 : Pt (F2 :: O :: emp :: R) H2 := pt_skip u2 rfl
  exact ⟨x, j, rfl, rfl, hc x, q _ F2 emp H2 (le1.tr le2) u3 (h x j F2)⟩
theorem jn_mulc {j : Int} (h1 : JN X W cl Γ a ta m aI) (h2 : JN X W cl Γ b tb (.ok j) aI) (hc : -(2 ^ 64) < j ∧ j < 2 ^ 64 := by decide) : JN X W cl Γ (.BinOp a .Mult b pos) (tOp (rI CMul fun i j => .int (i * j)) ta tb) (m.b fun x => .ok (x * j)) aI :=
  op2_k (fun _ => .inr hc) (fun _ _ _ => ⟨rfl, rfl⟩) op_mul h1 h2
theorem jn_divc {j : Int} (h1 : JN X W cl Γ a ta m aI) (h2 : JN X W cl Γ b tb (.ok j) aI) (hc : 0 < j := by decide) (hd : j.natAbs.log2 < 9000 := by decide) : JN X W cl Γ (.BinOp a .FloorDiv b pos) (tOp (rI CDivW fun i j => .int (i / j)) ta tb) (m.b fun x => .ok (x / j)) aI :=
  op2_k (fun _ => ⟨hc, hd⟩) (fun _ _ _ => ⟨rfl, rfl⟩) op_fdivW h1 h2
theorem jn_modc {j : Int} (h1 : JN X W cl Γ a ta m aI) (h2 : JN X W cl Γ b tb (.ok j) aI) (hc : 0 < j := by decide) : JN X W cl Γ (.BinOp a .Mod b pos) (tOp (rI (fun _ j => 0 < j) fun i j => .int (i % j)) ta tb) (m.b fun x => .ok (x % j)) aI :=
  op2_k (fun _ => hc) (fun _ _ _ => ⟨rfl, rfl⟩) op_mod h1 h2
theorem jn_powc {i j : Int} (h1 : JN X W cl Γ a ta (.ok i) aI) (h2 : JN X W cl Γ b tb (.ok j) aI) (hc : CPow i j := by decide) : JN X W cl Γ (.BinOp a .Pow b pos) (tOp (rI CPow fun i j => .int (i ^ j.toNat)) ta tb) (.ok (i ^ j.toNat)) aI := by
  obtain ⟨pa, ka⟩ := h1
  obtain ⟨pb, kb⟩ := h2
  refine ⟨pe_op op_pow pa pb, fun σ F O H R Q u s q => ka σ F O H R _ u s fun v F1 h1 H1 le1 u1 p1 => ?_⟩
  refine kb σ F1 O H1 (h1 :: R) _ u1 (s.mono le1) fun w F2 h2 H2 le2 u2 p2 => ?_
  obtain ⟨rfl, e1⟩ := p1
  obtain ⟨rfl, e2⟩ := p2
  subst e1 e2
  exact ⟨i, j, rfl, rfl, hc, q _ F2 emp H2 (le1.tr le2) (pt_skip u2 rfl) ⟨rfl, rfl⟩⟩
theorem jn_lt (h1 : JN X W cl Γ a ta m aI) (h2 : JN X W cl Γ b tb n aI) : JN X W cl Γ (.Compare a [.Lt] [b] pos) (tOp (rI0 fun i j => .bl (decide (i < j))) ta tb) (m.b fun x => n.b fun y => .ok (decide (x < y))) aB :=
  JN.bin (f := fun x y => some (decide (x < y))) h1 h2 (fun p q => pe_cmpR op_lt p q (nomark _)) (op2_I0 (f := fun x y : Int => decide (x < y)) (C := aB) fun _ _ _ => ⟨rfl, rfl⟩)
theorem jn_le (h1 : JN X W cl Γ a ta m aI) (h2 : JN X W cl Γ b tb n aI) : JN X W cl Γ (.Compare a [.LtE] [b] pos) (tOp (rI0 fun i j => .bl (decide (i ≤ j))) ta tb) (m.b fun x => n.b fun y => .ok (decide (x ≤ y))) aB :=
  JN.bin (f := fun x y => some (decide (x ≤ y))) h1 h2 (fun p q => pe_cmpR op_le p q (nomark _)) (op2_I0 (f := fun x y : Int => decide (x ≤ y)) (C := aB) fun _ _ _ => ⟨rfl, rfl⟩)
theorem jn_gt (h1 : JN X W cl Γ a ta m aI) (h2 : JN X W cl Γ b tb n aI) : JN X W cl Γ (.Compare a [.Gt] [b] pos) (tOp (rI0 fun i j => .bl (decide (j < i))) ta tb) (m.b fun x => n.b fun y => .ok (decide (y < x))) aB :=
  JN.bin (f := fun x y => some (decide (y < x))) h1 h2 (fun p q => pe_cmpR op_gt p q (nomark _)) (op2_I0 (f := fun x y : Int => decide (y < x)) (C := aB) fun _ _ _ => ⟨rfl, rfl⟩)
theorem jn_ge (h1 : JN X W cl Γ a ta m aI) (h2 : JN X W cl Γ b tb n aI) : JN X W cl Γ (.Compare a [.GtE] [b] pos) (tOp (rI0 fun i j => .bl (decide (j ≤ i))) ta tb) (m.b fun x => n.b fun y => .ok (decide (y ≤ x))) aB :=
  JN.bin (f := fun x y => some (decide (y ≤ x))) h1 h2 (fun p q => pe_cmpR op_ge p q (nomark _)) (op2_I0 (f := fun x y : Int => decide (y ≤ x)) (C := aB) fun _ _ _ => ⟨rfl, rfl⟩)
/-- what is one plain value -/
class ScF {α : Type} (A : α → Asn) [DecidableEq α] where
  val : α → V
  is : ∀ x v F h, (A x).p v F h → v = val x ∧ h = emp
  sc : ∀ x y, scal (val x) (val y) = true
  dec : ∀ x y, decide (val x = val y) = decide (x = y)
instance : ScF aI := ⟨V.int, fun _ _ _ _ q => q, fun _ _ => rfl, fun x y => by rw [dec_int]; exact Bool.beq_eq_decide_eq x y⟩
instance : ScF aB := ⟨V.bl, fun _ _ _ _ q => q, fun _ _ => rfl, fun x y => by rw [dec_bl]; exact Bool.beq_eq_decide_eq x y⟩
instance : ScF aS := ⟨V.str, fun _ _ _ _ q => q, fun _ _ => rfl, fun x y => by rw [dec_str]; exact Bool.beq_eq_decide_eq x y⟩
theorem jn_eq [DecidableEq α] {A : α → Asn} [sc : ScF A] {m n : Rs α} (h1 : JN X W cl Γ a ta m A) (h2 : JN X W cl Γ b tb n A) : JN X W cl Γ (.Compare a [.Eq] [b] pos) (tOp rEq ta tb) (m.b fun x => n.b fun y => .ok (decide (x = y))) aB :=
  JN.bin (f := fun x y => some (decide (x = y))) h1 h2 (fun p q => pe_cmpR op_eq p q (nomark _)) (op2_S (f := fun x y => decide (x = y)) (val := sc.val) (r := fun x y => decide (x = y)) sc.is sc.sc sc.dec)
theorem jn_ne [DecidableEq α] {A : α → Asn} [sc : ScF A] {m n : Rs α} (h1 : JN X W cl Γ a ta m A) (h2 : JN X W cl Γ b tb n A) : JN X W cl Γ (.Compare a [.NotEq] [b] pos) (tOp rNe ta tb) (m.b fun x => n.b fun y => .ok (!decide (x = y))) aB :=
  JN.bin (f := fun x y => some (!decide (x = y))) h1 h2 (fun p q => pe_cmpR op_ne p q (nomark _)) (op2_S (f := fun x y => !decide (x = y)) (val := sc.val) (r := fun x y => !decide (x = y)) sc.is sc.sc fun x y => by rw [sc.dec])
/-- never None -/
class NnF {α : Type} (A : α → Asn) : Prop where
  nn : ∀ x F h, ¬ (A x).p .non F h
instance : NnF aI := ⟨fun _ _ _ q => nomatch q.1⟩
instance : NnF aB := ⟨fun _ _ _ q => nomatch q.1⟩
instance : NnF aS := ⟨fun _ _ _ q => nomatch q.1⟩
instance {A : α → Asn} : NnF (lA A) := ⟨fun _ _ _ ⟨_, _, _, e, _⟩ => nomatch e⟩
instance {K : PySem.W.Frag} {A : α → Asn} : NnF (sA K A) := ⟨fun _ _ _ ⟨_, _, _, e, _⟩ => nomatch e⟩
instance {A : α → Asn} : NnF (oA A) := ⟨fun _ _ _ ⟨_, _, _, e, _⟩ => nomatch e⟩
instance {A : α → Asn} {B : β → Asn} : NnF (t2 A B) := ⟨fun _ _ _ ⟨_, _, _, e, _⟩ => nomatch e⟩
instance {A : α → Asn} {B : β → Asn} : NnF (o2 A B) := ⟨fun _ _ _ ⟨_, _, e, _⟩ => nomatch e⟩
theorem aO_non {A : α → Asn} (nn : ∀ x F h, ¬ (A x).p .non F h) : ∀ {o : Option α} {v : V} {F h : Hp}, (aO A o).p v F h → decide (v = .non) = o.isNone
  | none, _, _, _, q => by rw [q.1]; rfl
  | some x, v, F, h, q => decide_eq_false fun e => nn x F h (e ▸ q)
theorem jn_isN {A : α → Asn} [nn : NnF A] {m : Rs (Option α)} {j p2} (h1 : JN X W cl Γ a ta m (aO A)) : JN X W cl Γ (.Compare a [.Is] [.Constant .none j p2] pos) (tOp (fun x y H Q => y = .non ∧ Q (.bl (decide (x = .non))) H) ta (tC .non)) (m.b fun x => .ok x.isNone) aB := by
  obtain ⟨pa, ka⟩ := h1
  refine ⟨pe_cmpR op_isN pa pe_non (nomark _), fun σ F O H R Q u s q => ka σ F O H R _ u s (q.bind.mono (fun x _ q v F1 h1 H1 le1 u1 p1 => ?_) fun c q => q)⟩
  obtain ⟨F2, l1, l2, u2⟩ := pt_leak3 u1
  exact ⟨rfl, q _ F2 emp H1 (le1.tr l1) (pt_addE u2) ⟨by rw [aO_non nn.nn p1], rfl⟩⟩
theorem jn_notN {A : α → Asn} [nn : NnF A] {m : Rs (Option α)} {j p2} (h1 : JN X W cl Γ a ta m (aO A)) : JN X W cl Γ (.Compare a [.IsNot] [.Constant .none j p2] pos) (tOp (fun x y H Q => y = .non ∧ Q (.bl (!decide (x = .non))) H) ta (tC .non)) (m.b fun x => .ok x.isSome) aB := by
  obtain ⟨pa, ka⟩ := h1
  refine ⟨pe_cmpR op_notN pa pe_non (nomark _), fun σ F O H R Q u s q => ka σ F O H R _ u s (q.bind.mono (fun x _ q v F1 h1 H1 le1 u1 p1 => ?_) fun c q => q)⟩
  obtain ⟨F2, l1, l2, u2⟩ := pt_leak3 u1
  exact ⟨rfl, q _ F2 emp H1 (le1.tr l1) (pt_addE u2) ⟨by rw [aO_non nn.nn p1]; cases x <;> rfl, rfl⟩⟩
/-- the value that must be there -/
theorem jn_get {A : α → Asn} {m : Rs (Option α)} (h1 : JN X W cl Γ a ta m (aO A)) : JN X W cl Γ a ta (m.b opt) A :=
  h1.cast opt (fun o b v F h e q => by
    cases o with
    | none => cases e
    | some x => cases e; exact q) fun o c e => by cases o <;> cases e
/-- a value as one that may be None -/
theorem jn_opt {A : α → Asn} {m : Rs α} (h1 : JN X W cl Γ a ta m A) : JN X W cl Γ a ta (m.b fun x => .ok (some x)) (aO A) := h1.map some fun _ _ _ _ q => q
class RdL (K : PySem.W.Frag) {α : Type} (L : List α → Asn) (E : outParam (α → Asn)) : Prop where
  rd : ∀ xs v F h, (L xs).p v F h → ∃ a vs h', v = .ref a ∧ (∀ H, Le F H → Le h H → SqL K H a vs) ∧ Le h' h ∧ Sep (xs.map E) vs F h'
instance {K : PySem.W.Frag} {A : α → Asn} : RdL K (lA A) A := ⟨fun xs v F h ⟨e, a, vs, e1, s, r⟩ => ⟨a, vs, emp, e1, fun H l _ => SqL.of (l _ _ s), emp_le, r⟩⟩
instance {K : PySem.W.Frag} {A : α → Asn} : RdL K (sA K A) A := ⟨fun xs v F h ⟨e, a, vs, e1, s, r⟩ => ⟨a, vs, emp, e1, fun H l _ => Le.sq l s, emp_le, r⟩⟩
instance {K : PySem.W.Frag} {A : α → Asn} : RdL K (oA A) A := ⟨fun xs v F h ⟨a, vs, h', e1, t, r⟩ => ⟨a, vs, h', e1, fun H _ l => SqL.of (l _ _ t.at1), t.le (by simp), r⟩⟩
theorem le_part {F h H : Hp} {R : List Hp} (u : Pt (F :: h :: R) H) : Le F H ∧ Le h H := ⟨u.le (by simp), u.le (by simp)⟩
theorem kt_val {C : γ → Asn} {c : γ} {F h H : Hp} {R : List Hp} {Q : VK} {v : V} (k : Kt C c F R Q) (u : Pt (F :: h :: R) H) (p : ∀ F', Le F F' → Le h F' → (C c).p v F' emp) : Q v H := by
  obtain ⟨F2, l1, l2, u2⟩ := u.leak
  exact k v F2 emp H l1 (Pt.swap u2.addE) (p F2 l1 l2)
theorem jn_len {K0 : PySem.W.Frag} {L : List α → Asn} {E : α → Asn} [rd : RdL K0 L E] {m : Rs (List α)} (hm : X.mg "len" = none) (h1 : JN X W cl Γ a ta m L) (hg : Gl X "len" := by rfl) (hs : starEach [a] X.env = (false, eval a X.env) :: starEach [] X.env := by rfl) (hK : X.K = K0 := by rfl) :
    JN X W cl Γ (.Call (.Name "len" p) [a] [] pos) (tCB (fun xs H Q => ∃ p ys, xs = [.ref p] ∧ (SqL K0 H p ys ∨ SqT K0 H p ys) ∧ Q (.int ys.length) H) (tCons ta tNil)) (m.b fun x => .ok (x.length : Int)) aI := by
  subst hK
  exact (JN.args (C := aI) (jns_one h1 hs) (fun q => pe_callB call_len_seq hg hm boot_len q (he := hs)) (f := fun x => some (x.length : Int)) fun xs vs F h H R Q c e u sp k => by
    cases e
    obtain ⟨w, rfl⟩ : ∃ w, vs = [w] := by
      cases vs with
      | nil => exact sp.elim
      | cons w r => cases r with
        | nil => exact ⟨w, rfl⟩
        | cons _ _ => obtain ⟨_, _, _, _, z⟩ := sp; exact z.elim
    obtain ⟨h1, h2, t, p1, e2⟩ := sp
    have e2' : h2 = emp := e2
    subst e2'
    have eh := t.emp_r
    subst eh
    obtain ⟨a, ws, h', rfl, sq, lh, sp⟩ := rd.rd _ _ _ _ p1
    obtain ⟨l1, l2⟩ := le_part u
    have el : xs.length = ws.length := by have := sp.len; rwa [List.length_map] at this
    exact ⟨a, ws, rfl, .inl (sq H l1 l2), kt_val k u fun F' _ _ => ⟨by rw [el], rfl⟩⟩)
theorem Sep.idx {F h : Hp} {E : α → Asn} [pf : PerF E] {xs : List α} {vs : List V} {i : Int} {x : α} (sp : Sep (xs.map E) vs F h) (e : atI xs i = some x) : ∃ v, atI vs i = some v ∧ (E x).p v F emp := by
  have hE : h = emp := sp.per (fun A m => by obtain ⟨y, _, e⟩ := List.mem_map.mp m; exact e ▸ pf.per y)
  subst hE
  have el : xs.length = vs.length := by have := sp.len; rwa [List.length_map] at this
  unfold atI at e ⊢
  rw [← el]
  cases q : ixN xs.length i with
  | none => rw [q] at e; cases e
  | some j =>
    rw [q] at e
    have e' : xs[j]? = some x := e
    obtain ⟨v, e2, p⟩ := sp.getE (i := j) (A := E x) (by rw [List.getElem?_map, e']; rfl)
    exact ⟨v, e2, p⟩
theorem jn_ix {K0 : PySem.W.Frag} {L : List α → Asn} {E : α → Asn} [rd : RdL K0 L E] [pf : PerF E] {m : Rs (List α)} {n : Rs Int} (h1 : JN X W cl Γ a ta m L) (h2 : JN X W cl Γ b tb n aI) (hs : PlainIx b := by intro _ _; rfl) (hK : X.K = K0 := by rfl) :
    JN X W cl Γ (.Subscript a b pos) (tOp (rIxL K0) ta tb) (m.b fun x => n.b fun y => opt (atI x y)) E := by
  subst hK
  exact (JN.bin (f := fun x y => atI x y) h1 h2 (fun p q => pe_ix ix_list p q hs) fun xs i v w F h1 h2 H R Q c e u p q k => by
    obtain ⟨a, ws, h', rfl, sq, lh, sp⟩ := rd.rd _ _ _ _ p
    obtain ⟨rfl, e2⟩ := q
    subst e2
    have u2 : Pt (F :: h1 :: R) H := (u.swap).dropE
    obtain ⟨l1, l2⟩ := le_part u2
    obtain ⟨v, ev, pv⟩ := sp.idx e
    exact ⟨a, ws, i, v, rfl, rfl, sq H l1 l2, ev, kt_val k u2 fun F' l _ => (E c).mono l pv⟩)
/-- a pair's parts -/
class RdT {α : Type} (T : α → Asn) (Es : outParam (α → List Asn)) : Prop where
  rd : ∀ x v F h, (T x).p v F h → ∃ a vs h', v = .ref a ∧ (∀ H, Le F H → Le h H → H a = some (.tup vs)) ∧ Le h' h ∧ Sep (Es x) vs F h'
instance {A : α → Asn} {B : β → Asn} : RdT (t2 A B) (fun x => [A x.1, B x.2]) := ⟨fun xs v F h ⟨e, a, vs, e1, s, r⟩ => ⟨a, vs, emp, e1, fun H l _ => l _ _ s, emp_le, r⟩⟩
instance {A : α → Asn} {B : β → Asn} : RdT (o2 A B) (fun x => [A x.1, B x.2]) := ⟨fun xs v F h ⟨a, vs, e1, t, r⟩ => ⟨a, vs, h, e1, fun H l _ => l _ _ t, .rfl, r⟩⟩
/-- the i-th part of a tuple -/
theorem jn_part {K0 : PySem.W.Frag} {δ : Type} {T : α → Asn} {Es : α → List Asn} [rd : RdT T Es] {D : δ → Asn} [pf : PerF D] (i : Nat) (g : α → δ) {m : Rs α} {j q1} (h1 : JN X W cl Γ a ta m T) (hi : ∀ x, (Es x)[i]? = some (D (g x)) := by intro _; rfl) (hK : X.K = K0 := by rfl) :
    JN X W cl Γ (.Subscript a (.Constant (.int (i : Int)) j q1) pos) (tOp (rIxT K0) ta (tC (.int (i : Int)))) (m.b fun x => .ok (g x)) D := by
  subst hK
  obtain ⟨pa, ka⟩ := h1
  refine ⟨pe_ix ix_tup pa pe_int (fun _ _ => rfl), fun σ F O H R Q u s q => ka σ F O H R _ u s (q.bind.mono (fun x _ q v F1 h1 H1 le1 u1 p1 => ?_) fun c q => q)⟩
  obtain ⟨a, ws, h', rfl, sq, lh, sp⟩ := rd.rd _ _ _ _ p1
  obtain ⟨w, g1, g2, e, t, p2⟩ := sp.get (hi x)
  have e1 := pf.per _ _ _ _ p2
  subst e1
  have l1 : Le F1 H1 := u1.le (by simp)
  have l2 : Le h1 H1 := u1.le (by simp)
  refine ⟨a, ws, i, w, rfl, rfl, SqT.of (sq H1 l1 l2), atI_nat e, ?_⟩
  obtain ⟨F2, l3, l4, u3⟩ := pt_leak3 u1
  exact q w F2 emp H1 (le1.tr l3) (pt_addE u3) ((D (g x)).mono l3 p2)
theorem short {n : Nat} (h : Nat.ble n 64 = true) : n ≤ sizeLine := Nat.le_trans (Nat.ble_eq.mp h) (by rw [sizeLine_eq]; decide)
theorem jn_tup {ι : Type} {ts : TA} {As : ι → List Asn} {C : γ → Asn} (g : ι → γ) {m : Rs ι} {x1} (h : JNs X W cl Γ es ts m As) (hC : ∀ i, C (g i) = oT (As i) := by intro _; rfl) (hl : ∀ i, Nat.ble (As i).length 64 = true := by intro _; rfl) :
    JN X W cl Γ (.Tuple es x1 pos) (tTup ts) (m.b fun i => .ok (g i)) C := by
  obtain ⟨p, k⟩ := h
  refine ⟨pe_tup p, fun σ F O H R Q u s q => k σ F O H R _ u s (q.bind.mono (fun i _ q vs F' h H' l u' p' => ?_) fun c q => q)⟩
  refine ⟨by rw [← p'.len]; exact short (hl i), fun a ha => ?_⟩
  obtain ⟨c, j, u2⟩ := (u'.alloc ha).join2
  exact q _ c h _ (l.tr (j.le (by simp))) u2 (by rw [hC]; exact ⟨a, vs, rfl, j.at1, p'.mono (j.le (by simp))⟩)
theorem jn_lst {ι : Type} {ts : TA} {As : ι → List Asn} {A : α → Asn} (g : ι → List α) {m : Rs ι} (h : JNs X W cl Γ es ts m As) (hC : ∀ i, (g i).map A = As i := by intro _; rfl) (hl : ∀ i, Nat.ble (As i).length 64 = true := by intro _; rfl) :
    JN X W cl Γ (.List es pos) (tLst ts) (m.b fun i => .ok (g i)) (oA A) := by
  obtain ⟨p, k⟩ := h
  refine ⟨pe_lst p, fun σ F O H R Q u s q => k σ F O H R _ u s (q.bind.mono (fun i _ q vs F' h H' l u' p' => ?_) fun c q => q)⟩
  have hz : vs.length ≤ sizeLine := by rw [← p'.len]; exact short (hl i)
  refine ⟨hz, fun a ha => ?_⟩
  obtain ⟨c, j, u2⟩ := ((u'.alloc ha).perm (l' := one a (.lst vs) :: h :: F' :: O :: R) (.cons _ (.trans (.cons _ (.swap _ _ _)) (.swap _ _ _)))).join2
  exact q _ F' c _ l (u2.perm (.trans (.swap _ _ _) (.cons _ (.swap _ _ _)))) ⟨a, vs, h, rfl, j, by rw [hC]; exact p'⟩
end
end Br
namespace Br
open PySem PySem.Spec L2
variable [tgi : Tbs]

section
variable {α β γ B T S : Type} {X : Cx} {W : WX} {cl : String → Addr} {Γ Γe : Ctx} {tg e a b c : Expr} {es : List Expr} {pos p : Pos} {ta tb : TE} {k : Nat}
theorem map_at {E : α → Asn} {xs : List α} {i : Nat} {x : α} (e : xs[i]? = some x) : (xs.map E)[i]? = some (E x) := by rw [List.getElem?_map, e]; rfl
theorem ji_list {K0 : PySem.W.Frag} {L : List α → Asn} {E : α → Asn} [rd : RdL K0 L E] [pf : PerF E] {m : Rs (List α)} (h1 : JN X W cl Γ a ta m L) (hK : X.K = K0 := by rfl) : JI X W cl Γ tg a (iList K0 ta) m E := by
  subst hK
  obtain ⟨pa, ka⟩ := h1
  refine ⟨pi_list pa, fun σ F O H R Q u s q => ka σ F O H R _ u s (q.mono (fun xs _ q v F1 h1 H1 l1 u1 p1 => ?_) fun c q => q)⟩
  obtain ⟨a, vs, h', rfl, sq, lh, sp⟩ := rd.rd _ _ _ _ p1
  obtain ⟨F2, l2, l3, u2⟩ := pt_leak3 u1
  have hq : ∀ H, Le F2 H → SqL X.K H a vs := fun H l => sq H (l2.tr l) (l3.tr l)
  have el : xs.length = vs.length := by have := sp.len; rwa [List.length_map] at this
  refine ⟨a, rfl, ⟨vs, hq H1 (u2.le (by simp))⟩, q (Itl X.K a) F2 H1 (l1.tr l2) u2 (fun i F3 H3 O3 R3 x l4 u4 ex => ?_) (fun F3 H3 l l4 u4 => ⟨vs, hq H3 (l4.tr (u4.le (by simp))), by omega⟩)⟩
  obtain ⟨v, g1, g2, ev, t, pv⟩ := sp.get (map_at (E := E) ex)
  have eg := pf.per _ _ _ _ pv
  subst eg
  have hq3 := hq H3 (l4.tr (u4.le (by simp)))
  refine ⟨⟨vs, v, hq3, ev⟩, fun w H4 ⟨e4, y⟩ => ?_⟩
  subst e4
  have ew : vs[i]? = some w := y vs hq3
  rw [ev] at ew; cases ew
  exact ⟨F3, emp, .rfl, pt_addE u4, (E x).mono (l2.tr l4) pv⟩
/-- lo, lo + 1, .. below hi -/
def rng (lo hi : Int) : List Int := (List.range (hi - lo).toNat).map fun (k : Nat) => lo + (k : Int)
def rngB (lo hi : Int) : Prop := -(2 ^ 62) ≤ lo ∧ lo < 2 ^ 62 ∧ -(2 ^ 62) ≤ hi ∧ hi < 2 ^ 62
instance {lo hi : Int} : Decidable (rngB lo hi) := by unfold rngB; infer_instance
def rngO (lo hi : Int) : Option (List Int) := if rngB lo hi then some (rng lo hi) else none
theorem rng_at {lo hi : Int} {i : Nat} {x : Int} (e : (rng lo hi)[i]? = some x) : i < (hi - lo).toNat ∧ x = lo + (i : Int) := by
  unfold rng at e
  rw [List.getElem?_map] at e
  by_cases h : i < (hi - lo).toNat
  · rw [List.getElem?_range h] at e
    exact ⟨h, (Option.some.inj e).symm⟩
  · rw [List.getElem?_eq_none (by simpa using h)] at e; cases e
theorem rng_len {lo hi : Int} : (rng lo hi).length = (hi - lo).toNat := by unfold rng; simp
theorem sep1 {A : Asn} {vs : List V} {F h : Hp} (sp : Sep [A] vs F h) : ∃ v, vs = [v] ∧ A.p v F h := by
  cases vs with
  | nil => exact sp.elim
  | cons w r => cases r with
    | cons _ _ => obtain ⟨_, _, _, _, z⟩ := sp; exact z.elim
    | nil =>
      obtain ⟨h1, h2, t, p1, e2⟩ := sp
      have e2' : h2 = emp := e2
      subst e2'
      rw [t.emp_r]
      exact ⟨w, rfl, p1⟩
theorem sep2 {A B : Asn} {vs : List V} {F h : Hp} (sp : Sep [A, B] vs F h) : ∃ v w h1 h2, vs = [v, w] ∧ Pt [h1, h2] h ∧ A.p v F h1 ∧ B.p w F h2 := by
  cases vs with
  | nil => exact sp.elim
  | cons v r =>
    obtain ⟨h1, h2, t, p1, s2⟩ := sp
    obtain ⟨w, rfl, p2⟩ := sep1 s2
    exact ⟨v, w, h1, h2, rfl, t, p1, p2⟩
theorem ji_range {m : Rs Int} (hm : X.mg "range" = none) (h1 : JN X W cl Γ a ta m aI) (hg : Gl X "range" := by rfl) (hs : starEach [a] X.env = [(false, eval a X.env)] := by rfl) :
    JI X W cl Γ tg (.Call (.Name "range" p) [a] [] pos) (iRng1 (tCons ta tNil)) (m.b fun n => opt (rngO 0 n)) aI := by
  obtain ⟨pa, ka⟩ := jns_one h1 hs
  refine ⟨pi_range1 hg hm pa hs, fun σ F O H R Q u s q => ka σ F O H R _ u s (q.bind.mono (fun n _ q vs F1 h1 H1 l1 u1 p1 => ?_) fun c q => q)⟩
  obtain ⟨v, rfl, rfl, eh⟩ := sep1 p1
  obtain ⟨xs, ex, q⟩ := opt_out q
  unfold rngO at ex
  by_cases hb : rngB 0 n
  · rw [if_pos hb] at ex; cases ex
    have e0 : (rng 0 n).length = n.toNat := by rw [rng_len]; simp
    refine ⟨n, rfl, hb.2.2.1, hb.2.2.2, q _ F1 H1 l1 (pt_skip u1 eh) (fun i F3 H3 O3 R3 x l4 u4 e => ?_) (fun F3 H3 l l4 u4 => Nat.le_of_eq e0.symm)⟩
    obtain ⟨hi, rfl⟩ := rng_at e
    refine ⟨(by show i < n.toNat; simpa using hi), fun w H4 ⟨e4, y⟩ => ?_⟩
    subst e4
    exact ⟨F3, emp, .rfl, pt_addE u4, y, rfl⟩
  · rw [if_neg hb] at ex; cases ex
theorem ji_range2 {m n : Rs Int} (hm : X.mg "range" = none) (h1 : JN X W cl Γ a ta m aI) (h2 : JN X W cl Γ b tb n aI) (hg : Gl X "range" := by rfl) (hs : starEach [a, b] X.env = [(false, eval a X.env), (false, eval b X.env)] := by rfl) (hs2 : starEach [b] X.env = [(false, eval b X.env)] := by rfl) :
    JI X W cl Γ tg (.Call (.Name "range" p) [a, b] [] pos) (iRng2 (tCons ta (tCons tb tNil))) (m.b fun x => n.b fun y => opt (rngO x y)) aI := by
  obtain ⟨pa, ka⟩ := h1
  obtain ⟨pb, kb⟩ := h2
  refine ⟨pi_range2 hg hm (pa_cons pa (pa_cons pb pa_nil hs2) (by rw [hs, hs2])) hs hs2, fun σ F O H R Q u s q => ka σ F O H R _ u s (q.bind.mono (fun x _ q v F1 h1 H1 l1 u1 p1 => ?_) fun c q => q)⟩
  obtain ⟨rfl, eh⟩ := p1
  subst eh
  refine kb σ F1 O H1 R _ (pt_skip u1 rfl) (s.mono l1) (q.bind.mono (fun y _ q w F2 h2 H2 l2 u2 p2 => ?_) fun c q F' H' l' u' => q F' H' (l1.tr l') u')
  obtain ⟨rfl, eh⟩ := p2
  obtain ⟨xs, ex, q⟩ := opt_out q
  unfold rngO at ex
  by_cases hb : rngB x y
  · rw [if_pos hb] at ex; cases ex
    refine ⟨x, y, rfl, ⟨hb.1, hb.2.1, hb.2.2.1, hb.2.2.2⟩, q _ F2 H2 (l1.tr l2) (pt_skip u2 eh) (fun i F3 H3 O3 R3 z l4 u4 e => ?_) (fun F3 H3 l l4 u4 => Nat.le_of_eq rng_len.symm)⟩
    obtain ⟨hi, rfl⟩ := rng_at e
    refine ⟨hi, fun w H4 ⟨e4, y4⟩ => ?_⟩
    subst e4
    exact ⟨F3, emp, .rfl, pt_addE u4, y4, rfl⟩
  · rw [if_neg hb] at ex; cases ex
/-- the items with their places -/
def enu (xs : List α) : List (Int × α) := (List.range xs.length).zip xs |>.map fun q => ((q.1 : Int), q.2)
theorem enu_at {xs : List α} {i : Nat} {x : Int × α} (e : (enu xs)[i]? = some x) : xs[i]? = some x.2 ∧ x.1 = (i : Int) := by
  unfold enu at e
  rw [List.getElem?_map] at e
  cases q : ((List.range xs.length).zip xs)[i]? with
  | none => rw [q] at e; cases e
  | some z =>
    rw [q] at e
    cases e
    rw [List.getElem?_zip_eq_some] at q
    obtain ⟨q1, q2⟩ := q
    refine ⟨q2, ?_⟩
    rw [List.getElem?_range (by have := (List.getElem?_eq_some_iff.mp q2).1; exact this)] at q1
    cases q1; rfl
theorem enu_len {xs : List α} : (enu xs).length = xs.length := by unfold enu; simp
theorem ji_enum {K0 : PySem.W.Frag} {L : List α → Asn} {E : α → Asn} [rd : RdL K0 L E] [pf : PerF E] {m : Rs (List α)} {elts kk tpos} (hm : X.mg "enumerate" = none) (h1 : JN X W cl Γ a ta m L) (hg : Gl X "enumerate" := by rfl) (hs : starEach [a] X.env = [(false, eval a X.env)] := by rfl) (hK : X.K = K0 := by rfl) :
    JI X W cl Γ (.Tuple elts kk tpos) (.Call (.Name "enumerate" p) [a] [] pos) (iEnum K0 (tCons ta tNil)) (m.b fun xs => .ok (enu xs)) (o2 aI E) := by
  subst hK
  obtain ⟨pa, ka⟩ := jns_one h1 hs
  refine ⟨pi_enum hg hm pa hs, fun σ F O H R Q u s q => ka σ F O H R _ u s (q.bind.mono (fun xs _ q vs F1 h1 H1 l1 u1 p1 => ?_) fun c q => q)⟩
  obtain ⟨v, rfl, p1'⟩ := sep1 p1
  obtain ⟨a, vs, h', rfl, sq, lh, sp⟩ := rd.rd _ _ _ _ p1'
  obtain ⟨F2, l2, l3, u2⟩ := pt_leak3 u1
  have hq : ∀ H, Le F2 H → SqL X.K H a vs := fun H l => sq H (l2.tr l) (l3.tr l)
  have el : xs.length = vs.length := by have := sp.len; rwa [List.length_map] at this
  refine ⟨a, vs, rfl, hq H1 (u2.le (by simp)), q (Ite X.K a) F2 H1 (l1.tr l2) u2 (fun i F3 H3 O3 R3 x l4 u4 ex => ?_) (fun F3 H3 l l4 u4 => ⟨vs, hq H3 (l4.tr (u4.le (by simp))), by rw [enu_len]; omega⟩)⟩
  obtain ⟨ex, ei⟩ := enu_at ex
  obtain ⟨v, g1, g2, ev, t, pv⟩ := sp.get (map_at (E := E) ex)
  have eg := pf.per _ _ _ _ pv
  subst eg
  have hq3 := hq H3 (l4.tr (u4.le (by simp)))
  refine ⟨⟨vs, v, hq3, ev⟩, fun w H4 ⟨T, z, e1, e2, e4, y⟩ => ?_⟩
  have ew : vs[i]? = some z := y vs hq3
  rw [ev] at ew; cases ew
  obtain ⟨c, j, u5⟩ := (u4.alloc (o := .tup [.int (i : Nat), v]) e2).join2
  have lc : Le F3 c := j.le (by simp)
  refine ⟨c, emp, lc, ?_, ⟨T, _, e1, j.at1, emp, emp, .r_emp, ⟨by rw [ei], rfl⟩, emp, emp, .r_emp, (E x.2).mono (l2.tr (l4.tr lc)) pv, rfl⟩⟩
  rw [e4]
  exact pt_addE u5
theorem ji_zip {K0 : PySem.W.Frag} {L : List α → Asn} {E : α → Asn} [rd : RdL K0 L E] [pf : PerF E] {L' : List β → Asn} {E' : β → Asn} [rd' : RdL K0 L' E'] [pf' : PerF E'] {m : Rs (List α)} {n : Rs (List β)} {elts kk tpos} (hm : X.mg "zip" = none) (h1 : JN X W cl Γ a ta m L) (h2 : JN X W cl Γ b tb n L') (hg : Gl X "zip" := by rfl)
    (hs : starEach [a, b] X.env = (false, eval a X.env) :: starEach [b] X.env := by rfl) (hs2 : starEach [b] X.env = (false, eval b X.env) :: starEach [] X.env := by rfl) (hpl : (backTo pos (starEach [b] X.env)).any (·.1) = false := by rfl) (hK : X.K = K0 := by rfl) :
    JI X W cl Γ (.Tuple elts kk tpos) (.Call (.Name "zip" p) [a, b] [] pos) (iZip K0 (tCons ta (tCons tb tNil))) (m.b fun xs => n.b fun ys => .ok (xs.zip ys)) (o2 E E') := by
  subst hK
  obtain ⟨pa, ka⟩ := h1
  obtain ⟨pb, kb⟩ := h2
  refine ⟨pi_zip hg hm (pa_cons pa (pa_cons pb pa_nil hs2) hs) hs hpl, fun σ F O H R Q u s q => ka σ F O H R _ u s (q.bind.mono (fun xs _ q v F1 h1 H1 l1 u1 p1 => ?_) fun c q => q)⟩
  obtain ⟨F1', l1', l1'', u1'⟩ := pt_leak3 u1
  refine kb σ F1' O H1 R _ u1' (s.mono (l1.tr l1')) (q.bind.mono (fun ys _ q w F2 h2 H2 l2 u2 p2 => ?_) fun c q F' H' l' u' => q F' H' (l1.tr (l1'.tr l')) u')
  obtain ⟨a, vs, h', rfl, sq, lh, sp⟩ := rd.rd _ _ _ _ p1
  obtain ⟨b, ws, h'', rfl, sq2, lh2, sp2⟩ := rd'.rd _ _ _ _ p2
  obtain ⟨F3, l3, l3', u3⟩ := pt_leak3 u2
  have hq : ∀ H, Le F3 H → SqL X.K H a vs := fun H l => sq H (l1'.tr (l2.tr (l3.tr l))) (l1''.tr (l2.tr (l3.tr l)))
  have hq' : ∀ H, Le F3 H → SqL X.K H b ws := fun H l => sq2 H (l3.tr l) (l3'.tr l)
  have el : xs.length = vs.length := by have := sp.len; rwa [List.length_map] at this
  have el2 : ys.length = ws.length := by have := sp2.len; rwa [List.length_map] at this
  refine ⟨a, b, vs, ws, rfl, hq H2 (u3.le (by simp)), hq' H2 (u3.le (by simp)), q (Itz X.K a b) F3 H2 (l1.tr (l1'.tr (l2.tr l3))) u3 (fun i F4 H4 O4 R4 x l4 u4 ex => ?_) (fun F4 H4 l l4 u4 => ⟨vs, ws, hq H4 (l4.tr (u4.le (by simp))), hq' H4 (l4.tr (u4.le (by simp))), by rw [List.length_zip]; omega⟩)⟩
  rw [List.getElem?_zip_eq_some] at ex
  obtain ⟨ex1, ex2⟩ := ex
  obtain ⟨v, g1, g2, ev, t, pv⟩ := sp.get (map_at (E := E) ex1)
  have eg := pf.per _ _ _ _ pv
  subst eg
  obtain ⟨w, g3, g4, ew, t', pw⟩ := sp2.get (map_at (E := E') ex2)
  have eg := pf'.per _ _ _ _ pw
  subst eg
  have hq4 := hq H4 (l4.tr (u4.le (by simp)))
  have hq4' := hq' H4 (l4.tr (u4.le (by simp)))
  refine ⟨⟨vs, ws, v, w, hq4, hq4', ev, ew⟩, fun y H5 ⟨T, z, z', e1, e2, e4, y1, y2⟩ => ?_⟩
  have e5 := y1 vs hq4
  rw [ev] at e5; cases e5
  have e6 := y2 ws hq4'
  rw [ew] at e6; cases e6
  obtain ⟨c, j, u5⟩ := (u4.alloc (o := .tup [v, w]) e2).join2
  have lc : Le F4 c := j.le (by simp)
  refine ⟨c, emp, lc, ?_, ⟨T, _, e1, j.at1, emp, emp, .r_emp, (E x.1).mono (l1'.tr (l2.tr (l3.tr (l4.tr lc)))) pv, emp, emp, .r_emp, (E' x.2).mono (l3.tr (l4.tr lc)) pw, rfl⟩⟩
  rw [e4]
  exact pt_addE u5
theorem jg_two {K0 : PySem.W.Frag} (i j : Nat) {x y : Str} {px py : Pos} {kk} {δ ε : Type} {Tp : α → Asn} {A : δ → Asn} {C : ε → Asn} {g1 : α → δ} {g2 : α → ε} [rd : RdT Tp (fun z => [A (g1 z), C (g2 z)])] [pf : PerF A] [pf2 : PerF C] (G : Gd X W k) (hl : Γ[i]? = some none := by rfl) (hl2 : (Γ.set i (some aN))[j]? = some none := by rfl)
    (hij : i ≠ j := by decide) (hi : X.N[i]? = some x := by rfl) (hx : Loc X.env.scope x := by first | exact Or.inl rfl | exact Or.inr rfl) (hj : X.N[j]? = some y := by rfl) (hy : Loc X.env.scope y := by first | exact Or.inl rfl | exact Or.inr rfl)
    (hf : X.fn x = true ∨ X.env.scope.names.lookup x = some .local := by first | exact .inl rfl | exact .inr rfl) (hf2 : X.fn y = true ∨ X.env.scope.names.lookup y = some .local := by first | exact .inl rfl | exact .inr rfl)
    (hs1 : (assignEach [.Name x px, .Name y py] X.env).map (·.2) = assign (.Name x px) X.env :: (assignEach [.Name y py] X.env).map (·.2) := by rfl) (hs2 : (assignEach [.Name y py] X.env).map (·.2) = assign (.Name y py) X.env :: (assignEach [] X.env).map (·.2) := by rfl)
    (hn : (assignEach [.Name x px, .Name y py] X.env).length = 2 := by rfl) (hst : (assignEach [.Name x px, .Name y py] X.env).findIdx? (·.1) = none := by rfl) (hK : X.K = K0 := by rfl) :
    JG X (.Tuple [.Name x px, .Name y py] kk pos) (gTup K0 2 (gCons (gName i) (gCons (gName j) gNil))) Tp Γ (fun z => (Γ.set i (some (A (g1 z)))).set j (some (C (g2 z)))) [i, j] := by
  subst hK
  refine ⟨pg_tup G.calm (pgs_cons (pg_name G.nd hi hx hf) (pgs_cons (pg_name G.nd hj hy hf2) pgs_nil hs2) hs1) hn hst, fun z v σ F O h H R Q u s p q => ?_⟩
  obtain ⟨a, vs, h', rfl, sq, lh, sp⟩ := rd.rd _ _ _ _ p
  obtain ⟨v1, v2, h1, h2, rfl, t, p1, p2⟩ := sep2 sp
  have e1 := pf.per _ _ _ _ p1
  have e2 := pf2.per _ _ _ _ p2
  subst e1 e2
  have sH := SqT.of (K := X.K) (sq H (u.le (by simp)) (u.le (by simp)))
  obtain ⟨F2, l1, l2, u2⟩ := pt_leak3 u
  have hl2' : (Γ.set i (some (A (g1 z))))[j]? = some none := by
    rw [List.getElem?_set_ne hij] at hl2 ⊢; exact hl2
  refine ⟨a, [v1, v2], rfl, sH, rfl, v1, [v2], rfl, v2, [], rfl, rfl, ?_⟩
  refine q _ F2 H l1 u2 (((s.mono l1).put hl ((A (g1 z)).mono l1 p1) .l_emp).put hl2' ((C (g2 z)).mono l1 p2) .l_emp) (fun n hn => ?_) (by simp)
  rw [List.getElem?_set_ne (fun e => hn (by simp [e])), List.getElem?_set_ne (fun e => hn (by simp [e]))]
/-- x, y = e -/
theorem jl_two {K0 : PySem.W.Frag} (i j : Nat) {x y : Str} {px py : Pos} {kk} {δ ε : Type} {Tp : α → Asn} (A : δ → Asn) (C : ε → Asn) (g1 : α → δ) (g2 : α → ε) [rd : RdT Tp (fun z => [A (g1 z), C (g2 z)])] {m : Rs α} {Γ' : α → Ctx} (G : Gd X W k) (he : JE X W cl Γ e ta m Γ' Tp Γe) (hl : ∀ a, Nat.blt i (Γ' a).length = true := by intro _; rfl) (hl2 : ∀ a, Nat.blt j (Γ' a).length = true := by intro _; rfl)
    (hij : i ≠ j := by decide) (hi : X.N[i]? = some x := by rfl) (hx : Loc X.env.scope x := by first | exact Or.inl rfl | exact Or.inr rfl) (hj : X.N[j]? = some y := by rfl) (hy : Loc X.env.scope y := by first | exact Or.inl rfl | exact Or.inr rfl)
    (hf : X.fn x = true ∨ X.env.scope.names.lookup x = some .local := by first | exact .inl rfl | exact .inr rfl) (hf2 : X.fn y = true ∨ X.env.scope.names.lookup y = some .local := by first | exact .inl rfl | exact .inr rfl)
    (hs1 : (assignEach [.Name x px, .Name y py] X.env).map (·.2) = assign (.Name x px) X.env :: (assignEach [.Name y py] X.env).map (·.2) := by rfl) (hs2 : (assignEach [.Name y py] X.env).map (·.2) = assign (.Name y py) X.env :: (assignEach [] X.env).map (·.2) := by rfl)
    (hn : (assignEach [.Name x px, .Name y py] X.env).length = 2 := by rfl) (hst : (assignEach [.Name x px, .Name y py] X.env).findIdx? (·.1) = none := by rfl)
    (hsw : swapsWithSole [.Tuple [.Name x px, .Name y py] kk p] e pos.line X.env = pure false := by rfl) (hw : swappedStores [.Tuple [.Name x px, .Name y py] kk p] e X.env = pure none := by rfl)
    (ha : (assignEach [.Tuple [.Name x px, .Name y py] kk p] X.env).map (·.2) = [assign (.Tuple [.Name x px, .Name y py] kk p) X.env] := by rfl) (hK : X.K = K0 := by rfl) :
    JL X W cl Γ (.Assign [.Tuple [.Name x px, .Name y py] kk p] e pos) (tAsg ta (gTup K0 2 (gCons (gName i) (gCons (gName j) gNil)))) m (fun z => ((Γ' z).set i (some (A (g1 z)))).set j (some (C (g2 z)))) Γe := by
  subst hK
  obtain ⟨pe, ke⟩ := he
  refine ⟨ps_asg pe (pg_tup G.calm (pgs_cons (pg_name G.nd hi hx hf) (pgs_cons (pg_name G.nd hj hy hf2) pgs_nil hs2) hs1) hn hst) hsw hw ha, fun σ F O H R D u s q => ke σ F O H R _ u s (q.mono (fun z _ q v F1 O1 h H1 l1 u1 s1 p1 => ?_) fun c q F' O' H' => q σ F' O' H')⟩
  obtain ⟨a, vs, h', rfl, sq, lh, sp⟩ := rd.rd _ _ _ _ p1
  obtain ⟨v1, v2, h1, h2, rfl, t, p1, p2⟩ := sep2 sp
  have sH := SqT.of (K := X.K) (sq H1 (u1.le (by simp)) (u1.le (by simp)))
  refine ⟨a, [v1, v2], rfl, sH, rfl, v1, [v2], rfl, v2, [], rfl, rfl, ?_⟩
  -- h' lies in h: what is left of h becomes frozen
  have dj : Dj emp h' := fun _ => .inl rfl
  obtain ⟨h0, _, ph⟩ := sub_part (F1 := emp) (F2 := h) (h := h') (Sep.cl sp) lh dj emp_le
  have w1 : Pt (h0 :: h' :: F1 :: O1 :: R) H1 := (u1.perm (l' := h :: F1 :: O1 :: R) (.trans (.cons _ (.swap _ _ _)) (.swap _ _ _))).split2 ph
  have w2 : Pt (F1 :: h0 :: h' :: O1 :: R) H1 := w1.perm (List.Perm.trans (.cons _ (.swap _ _ _)) (.swap _ _ _))
  obtain ⟨F2, l2, _, w3⟩ := w2.leak
  have w4 : Pt (h1 :: h2 :: F2 :: O1 :: R) H1 := (w3.swap).split2 t
  have w5 : Pt (F2 :: O1 :: h1 :: h2 :: R) H1 := w4.perm ((List.perm_append_comm (l₁ := [h1, h2]) (l₂ := [F2, O1])).append_right R)
  obtain ⟨F3, O3, l3, w6, s3⟩ := put_at (s1.mono l2) (Nat.blt_eq.mp (hl z)) ((A (g1 z)).mono l2 p1) w5
  obtain ⟨F4, O4, l4, w7, s4⟩ := put_at s3 (i := j) (A := C (g2 z)) (v := v2) (by rw [List.length_set]; exact Nat.blt_eq.mp (hl2 z)) ((C (g2 z)).mono (l2.tr l3) p2) w6
  exact q _ F4 O4 H1 (l1.tr (l2.tr (l3.tr l4))) w7 s4
def lcM (c : α → Rs Bool) (f : α → Rs β) : List α → Rs (List β)
  | [] => .ok []
  | x :: xs => match c x with
    | .ok true => (match f x with
      | .ok y => (lcM c f xs).b fun ys => .ok (y :: ys)
      | _ => .no)
    | .ok false => lcM c f xs
    | _ => .no
def lcN (c : α → Rs Bool) (f : α → Rs β) (xs : List α) : Rs (List β) := if xs.length ≤ 1000000 then lcM c f xs else .no
theorem Slots.wiped {F : Hp} {Γ : Ctx} : ∀ {vs : List Nat} {σ : L2.St} {O : Hp}, (∀ v ∈ vs, Γ[v]? = some none) → Slots Γ σ F O → Slots Γ (wipe σ vs) F O
  | [], _, _, _, s => s
  | v :: vs, σ, O, h, s => by
    have ih := Slots.wiped (vs := vs) (fun w m => h w (List.mem_cons_of_mem _ m)) s
    show Slots Γ ((wipe σ vs).set v none) F O
    exact Slots.set_dead ih (h v List.mem_cons_self)
where
  Slots.set_dead {F : Hp} : ∀ {Γ : Ctx} {σ : L2.St} {O : Hp} {v : Nat}, Slots Γ σ F O → Γ[v]? = some none → Slots Γ (σ.set v none) F O
  | _ :: _, _ :: _, _, 0, ⟨h, O', t, p, r⟩, e => by
    simp at e; subst e
    exact ⟨h, O', t, p, r⟩
  | _ :: _, _ :: _, _, v + 1, ⟨h, O', t, p, r⟩, e => ⟨h, O', t, p, Slots.set_dead r (by simpa using e)⟩
  | [], [], _, _, s, e => by simp at e
theorem wipe_get (τ : L2.St) (ws : List Nat) (n : Nat) : (wipe τ ws)[n]? = if n ∈ ws then (if n < τ.length then some none else none) else τ[n]? := by
  induction ws with
  | nil => simp [wipe]
  | cons w ws ih =>
    show ((wipe τ ws).set w none)[n]? = _
    by_cases e : w = n
    · subst e
      by_cases hlt : w < τ.length
      · rw [List.getElem?_set_self (by rw [wipe_length]; exact hlt)]; simp [hlt]
      · rw [List.getElem?_eq_none (by rw [List.length_set, wipe_length]; omega)]; simp [hlt]
    · rw [List.getElem?_set_ne e, ih]
      have : n ∈ w :: ws ↔ n ∈ ws := by simp [Ne.symm e]
      simp only [this]
theorem wipe_ext {σ σ' : L2.St} {L vs : List Nat} (h : ∀ n, n ∉ L → σ'[n]? = (wipe σ vs)[n]?) (hl : σ'.length = (wipe σ vs).length) (hs : ∀ n ∈ L, n ∈ vs) : wipe σ' vs = wipe σ vs := by
  apply List.ext_getElem?
  intro n
  rw [wipe_length] at hl
  rw [wipe_get, wipe_get, hl]
  split
  · rfl
  · rename_i hn
    rw [h n fun m => hn (hs n m), wipe_get, if_neg hn]
/-- the slots are empty -/
def emptyAt (Γ : Ctx) (i : Nat) : Bool := match Γ[i]? with
  | some none => true
  | _ => false
theorem emptyAt_ok {Γ : Ctx} {own : List (Str × Nat)} (h : own.all (fun q => emptyAt Γ q.2) = true) : ∀ v ∈ own.map (·.2), Γ[v]? = some none := fun v m => by
  obtain ⟨q, mq, rfl⟩ := List.mem_map.mp m
  have := List.all_eq_true.mp h q mq
  unfold emptyAt at this
  split at this
  · assumption
  · cases this
structure JTs (X : Cx) (W : WX) (cl : String → Addr) (Γ : Ctx) (ifs : List Expr) (t : TT) (m : Rs Bool) : Prop where
  pe : PTs X ifs t
  run : ∀ (σ : L2.St) (F O H : Hp) (R : List Hp) (Q : Bool → Hp → Prop), Pt (F :: O :: R) H → Slots Γ σ F O →
    Out m (fun a => ∀ F' H', Le F F' → Pt (F' :: O :: R) H' → Q a H') (fun c => ∀ F' H', Le F F' → Pt (F' :: O :: R) H' → W (.ref (cl c)) none σ H') → t σ H Q
theorem jts_nil : JTs X W cl Γ [] tYes (.ok true) := ⟨pts_nil, fun σ F O H R Q u s q => q F H .rfl u⟩
theorem jts_one {t : TT} {m : Rs Bool} (h : JT X W cl Γ c t m) : JTs X W cl Γ [c] t m := ⟨pts_one h.pe, h.run⟩
abbrev W0 : WX := fun _ _ _ _ => False
theorem Gd.blk (G : Gd X W k) (s : Shared) (H : Hp) (scope : Scope) (cenv : Env) (fp : List Addr) : Gd (X.blk s H scope cenv fp) W0 k := ⟨takes0, PassesOwn.never, G.calm, G.nd, G.room⟩
theorem lc_run {wi : TI} {g : TG} {tt : TT} {te : TE} {elt iter : Expr} {ifs : List Expr} {scope : Scope} {own : List (Str × Nat)} {L : List Nat} {mi : Rs (List α)} {A : α → Asn} {E : β → Asn} {Γt : α → Ctx} {mc : α → Rs Bool} {f : α → Rs β} [ne : Nonempty α] (G : Gd X W k) (hi : JI X W cl Γ tg iter wi mi A)
    (hw : ∀ v ∈ own.map (·.2), Γ[v]? = some none) (hL : ∀ n ∈ L, n ∈ own.map (·.2))
    (hg : ∀ (s : Shared) (H : Hp) (C : Addr) (cls : List (Str × Addr)) (fp : List Addr), Gd (X.blk s H scope (compEnvC scope cls C X.env) fp) W0 k → JG (X.blk s H scope (compEnvC scope cls C X.env) fp) tg g A Γ Γt L)
    (ht : ∀ (s : Shared) (H : Hp) (C : Addr) (cls : List (Str × Addr)) (fp : List Addr), Gd (X.blk s H scope (compEnvC scope cls C X.env) fp) W0 k → ∀ x, JTs (X.blk s H scope (compEnvC scope cls C X.env) fp) W0 cl (Γt x) ifs tt (mc x))
    (he : ∀ (s : Shared) (H : Hp) (C : Addr) (cls : List (Str × Addr)) (fp : List Addr), Gd (X.blk s H scope (compEnvC scope cls C X.env) fp) W0 k → ∀ x, JN (X.blk s H scope (compEnvC scope cls C X.env) fp) W0 cl (Γt x) elt te (f x) E)
 (σ : L2.St) (F O H : Hp) (R : List Hp) (Q : VK) (u : Pt (F :: O :: R) H) (s : Slots Γ σ F O)
    (q : Out (mi.b fun xs => lcN mc f xs) (fun a => ∀ v F' h H', Le F F' → Pt (F' :: O :: h :: R) H' → (oA E a).p v F' h → Q v H') (fun c => ∀ F' H', Le F F' → Pt (F' :: O :: R) H' → W (.ref (cl c)) none σ H')) :
    tLc wi g tt te (own.map (·.2)) σ H Q := by
  obtain ⟨pi, ki⟩ := hi
  refine ki σ F O H R _ u s (q.bind.mono (fun xs _ q J F' H' l u' hgo hst => ?_) fun c q => q)
  unfold lcN at q
  by_cases hlen : xs.length ≤ 1000000
  case neg => rw [if_neg hlen] at q; exact q.elim
  rw [if_pos hlen] at q
  intro D hD
  have s0 : Slots Γ (wipe σ (own.map (·.2))) F' O := (s.mono l).wiped hw
  have u0 : Pt (F' :: O :: one D (.lst []) :: emp :: R) (upd H' D (.lst [])) := by
    have := u'.alloc (o := .lst []) hD
    exact (this.addE).perm (by
      exact List.Perm.trans (List.perm_append_comm (l₁ := [emp, one D (.lst [])]) (l₂ := [F', O]) |>.append_right R) (.cons _ (.cons _ (.swap _ _ _))))
  refine ⟨fun i m H => m = xs.length - i ∧ i ≤ xs.length ∧ ∃ ys vs h F2, Le F' F2 ∧ Pt (F2 :: O :: one D (.lst vs) :: h :: R) H ∧ Sep (ys.map E) vs F2 h ∧ vs.length ≤ i ∧
      Out (lcM mc f (xs.drop i)) (fun zs => ∀ v F3 h H3, Le F2 F3 → Pt (F3 :: O :: h :: R) H3 → (oA E (ys ++ zs)).p v F3 h → Q v H3) (fun _ => False),
    ⟨xs.length, by simp, Nat.zero_le _, [], [], emp, F', .rfl, u0, (show Sep [] [] F' emp from rfl), Nat.le_refl _, ?_⟩, ?_⟩
  · rw [List.drop_zero]
    have ner : ∀ xs c, lcM mc f xs ≠ .er c := by
      intro xs
      induction xs with
      | nil => intro c e; cases e
      | cons x xs ih =>
        intro c e
        unfold lcM at e
        split at e
        · split at e
          · cases q : lcM mc f xs with
            | ok ys => rw [q] at e; cases e
            | er c' => exact ih c' q
            | no => rw [q] at e; cases e
          · cases e
        · exact ih c e
        · cases e
    cases e : lcM mc f xs with
    | ok zs => rw [e] at q; exact fun v F3 h H3 l3 => q v F3 h H3 (l.tr l3)
    | er c => exact absurd e (ner xs c)
    | no => rw [e] at q; exact q
  · rintro i m H2 ⟨rfl, hle, ys, vs, h, F2, l2, u2, sp, hv, q2⟩
    by_cases hlt : i < xs.length
    · right
      have hx : xs[i]? = some xs[i] := by simp [hlt]
      obtain ⟨go, yl⟩ := hgo i F2 H2 O _ xs[i] l2 u2 hx
      rw [List.drop_eq_getElem_cons hlt] at q2
      refine ⟨go, fun H' => ∃ ys vs h F2, Le F' F2 ∧ Pt (F2 :: O :: one D (.lst vs) :: h :: R) H' ∧ Sep (ys.map E) vs F2 h ∧ vs.length ≤ i + 1 ∧
          Out (lcM mc f (xs.drop (i + 1))) (fun zs => ∀ v F3 h H3, Le F2 F3 → Pt (F3 :: O :: h :: R) H3 → (oA E (ys ++ zs)).p v F3 h → Q v H3) (fun _ => False),
        fun H' ⟨ys, vs, h, F2, z⟩ => ⟨_, by omega, rfl, hlt, ys, vs, h, F2, z⟩, fun v H3 y => ?_⟩
      obtain ⟨F3, h3, l3, u3, p3⟩ := yl v H3 y
      have gg := hg X.s_0 X.H_0 0 [] [] (G.blk ..)
      refine gg.run xs[i] v _ F3 O h3 H3 _ _ u3 (s0.mono (l2.tr l3)) p3 fun σ4 F4 H4 l4 u4 s4 ag al => ⟨wipe_ext ag al hL, ?_⟩
      refine (ht X.s_0 X.H_0 0 [] [] (G.blk ..) xs[i]).run σ4 F4 O H4 _ _ u4 s4 ?_
      unfold lcM at q2
      cases ec : mc xs[i] with
      | no => rw [ec] at q2; exact q2.elim
      | er c => rw [ec] at q2; exact q2.elim
      | ok bb =>
        rw [ec] at q2
        intro F5 H5 l5 u5
        cases bb with
        | false =>
          show if false = true then _ else _
          rw [if_neg Bool.false_ne_true]
          exact ⟨ys, vs, h, F5, l2.tr (l3.tr (l4.tr l5)), u5, sp.mono (l3.tr (l4.tr l5)), by omega, q2.mono (fun zs _ q v F6 h6 H6 l6 => q v F6 h6 H6 (l3.tr (l4.tr (l5.tr l6)))) fun _ z => z⟩
        | true =>
          show if true = true then _ else _
          rw [if_pos rfl]
          cases ef : f xs[i] with
          | no => simp only [ef] at q2; exact q2.elim
          | er c => simp only [ef] at q2; exact q2.elim
          | ok yv =>
            simp only [ef] at q2
            refine (he X.s_0 X.H_0 0 [] [] (G.blk ..) xs[i]).run σ4 F5 O H5 _ _ u5 (s4.mono l5) ?_
            rw [ef]
            intro w F6 h6 H6 l6 u6 p6
            have uD : Pt (one D (.lst vs) :: F6 :: O :: h6 :: h :: R) H6 := u6.perm (by
              exact List.perm_append_comm (l₁ := [F6, O, h6]) (l₂ := [one D (.lst vs)]) |>.append_right (h :: R))
            refine ⟨vs, uD.at1, Nat.lt_of_le_of_lt hv (Nat.lt_of_lt_of_le hlt (Nat.le_trans hlen (by rw [sizeLine_eq]; decide))), ?_⟩
            have uW := uD.write (o' := .lst (vs ++ [w]))
            have u7 : Pt (h :: h6 :: one D (.lst (vs ++ [w])) :: F6 :: O :: R) _ := uW.perm (by
              refine List.Perm.trans (List.perm_append_comm (l₁ := [one D (.lst (vs ++ [w])), F6, O]) (l₂ := [h6, h]) |>.append_right R) (.swap _ _ _))
            obtain ⟨hc, jc, u8⟩ := u7.join2
            have lf : Le F2 F6 := l3.tr (l4.tr (l5.tr l6))
            refine ⟨ys ++ [yv], vs ++ [w], hc, F6, l2.tr lf, u8.perm (by
              refine List.Perm.trans (List.perm_append_comm (l₁ := [hc, one D (.lst (vs ++ [w]))]) (l₂ := [F6, O]) |>.append_right R) (.cons _ (.cons _ (.swap _ _ _)))), ?_, by simp; omega, ?_⟩
            · rw [List.map_append]
              exact Sep.append (sp.mono lf) (Sep.sing p6) jc
            · cases er : lcM mc f (xs.drop (i + 1)) with
              | no => rw [er] at q2; exact q2.elim
              | er c => rw [er] at q2; exact q2.elim
              | ok zs =>
                rw [er] at q2
                have q3 : ∀ v F3 h H3, Le F2 F3 → Pt (F3 :: O :: h :: R) H3 → (oA E (ys ++ (yv :: zs))).p v F3 h → Q v H3 := q2
                intro v F7 h7 H7 l7 u7 p7
                exact q3 v F7 h7 H7 (lf.tr l7) u7 (by rw [List.append_assoc] at p7; exact p7)
    · have ee : i = xs.length := by omega
      subst ee
      left
      rw [List.drop_length] at q2
      have q3 : ∀ v F3 h H3, Le F2 F3 → Pt (F3 :: O :: h :: R) H3 → (oA E (ys ++ [])).p v F3 h → Q v H3 := q2
      refine ⟨hst F2 H2 _ l2 u2, ?_⟩
      obtain ⟨c, j, u3⟩ := (u2.perm (l' := one D (.lst vs) :: h :: F2 :: O :: R) (by
        exact List.perm_append_comm (l₁ := [F2, O]) (l₂ := [one D (.lst vs), h]) |>.append_right R)).join2
      refine q3 (.ref D) F2 c H2 .rfl (u3.perm (.trans (.swap _ _ _) (.cons _ (.swap _ _ _)))) ⟨D, vs, h, rfl, j, by rw [List.append_nil]; exact sp⟩

theorem jn_lc {wi : TI} {g : TG} {tt : TT} {te : TE} {elt iter : Expr} {ifs : List Expr} {scope : Scope} (own : List (Str × Nat)) {L : List Nat} {mi : Rs (List α)} {A : α → Asn} {E : β → Asn} {Γt : α → Ctx} {mc : α → Rs Bool} {f : α → Rs β} [ne : Nonempty α] (G : Gd X W k) (hi : JI X W cl Γ tg iter wi mi A)
    (hg : ∀ (s : Shared) (H : Hp) (C : Addr) (cls : List (Str × Addr)) (fp : List Addr), Gd (X.blk s H scope (compEnvC scope cls C X.env) fp) W0 k → JG (X.blk s H scope (compEnvC scope cls C X.env) fp) tg g A Γ Γt L)
    (ht : ∀ (s : Shared) (H : Hp) (C : Addr) (cls : List (Str × Addr)) (fp : List Addr), Gd (X.blk s H scope (compEnvC scope cls C X.env) fp) W0 k → ∀ x, JTs (X.blk s H scope (compEnvC scope cls C X.env) fp) W0 cl (Γt x) ifs tt (mc x))
    (he : ∀ (s : Shared) (H : Hp) (C : Addr) (cls : List (Str × Addr)) (fp : List Addr), Gd (X.blk s H scope (compEnvC scope cls C X.env) fp) W0 k → ∀ x, JN (X.blk s H scope (compEnvC scope cls C X.env) fp) W0 cl (Γt x) elt te (f x) E)
    (ok : BlkOk X.N X.env.scope scope own) (hw : own.all (fun q => emptyAt Γ q.2) = true) (hL : ∀ n ∈ L, n ∈ own.map (·.2))
    (hs : ∀ x, foldedSetIterable iter X.env x = pure x := by intro _; rfl) :
    JN X W cl Γ (.ListComp elt [⟨tg, iter, ifs, 0⟩] scope pos) (tLc wi g tt te (own.map (·.2))) (mi.b fun xs => lcN mc f xs) (oA E) :=
  ⟨pe_lc G.calm G.nd hi.pe ok (fun s H C cls fp => (hg s H C cls fp (G.blk ..)).pe) (fun s H C cls fp => ne.elim fun x => (ht s H C cls fp (G.blk ..) x).pe) (fun s H C cls fp => ne.elim fun x => (he s H C cls fp (G.blk ..) x).pe) hs,
    fun σ F O H R Q u s q => lc_run G hi (emptyAt_ok hw) hL hg ht he σ F O H R Q u s q⟩
/-- y = [..] on one line, y a local -/
theorem jl_setLc (i : Nat) {y : Str} {py spos : Pos} {wi : TI} {g : TG} {tt : TT} {te : TE} {elt iter : Expr} {ifs : List Expr} {scope : Scope} (own : List (Str × Nat)) {L : List Nat} {mi : Rs (List α)} {A : α → Asn} {E : β → Asn} {D : List β → Asn} {Γt : α → Ctx} {mc : α → Rs Bool} {f : α → Rs β} [ne : Nonempty α] (G : Gd X W k) (we : Wk Γ Γe) (hD : ∀ xs, Frz (oA E xs) (D xs) ∨ ∀ v F h, (oA E xs).p v F h → (D xs).p v F h) (hi : JI X W cl Γ tg iter wi mi A)
    (hg : ∀ (s : Shared) (H : Hp) (C : Addr) (cls : List (Str × Addr)) (fp : List Addr), Gd (X.blk s H scope (compEnvC scope cls C X.env) fp) W0 k → JG (X.blk s H scope (compEnvC scope cls C X.env) fp) tg g A Γ Γt L)
    (ht : ∀ (s : Shared) (H : Hp) (C : Addr) (cls : List (Str × Addr)) (fp : List Addr), Gd (X.blk s H scope (compEnvC scope cls C X.env) fp) W0 k → ∀ x, JTs (X.blk s H scope (compEnvC scope cls C X.env) fp) W0 cl (Γt x) ifs tt (mc x))
    (he : ∀ (s : Shared) (H : Hp) (C : Addr) (cls : List (Str × Addr)) (fp : List Addr), Gd (X.blk s H scope (compEnvC scope cls C X.env) fp) W0 k → ∀ x, JN (X.blk s H scope (compEnvC scope cls C X.env) fp) W0 cl (Γt x) elt te (f x) E)
    (ok : BlkOk X.N X.env.scope scope own) (hw : own.all (fun q => emptyAt Γ q.2) = true) (hL : ∀ n ∈ L, n ∈ own.map (·.2)) (hsw : swapsWith (.ListComp elt [⟨tg, iter, ifs, 0⟩] scope pos) (some (.Name y py)) spos.line X.env = pure true)
    (hi' : X.N[i]? = some y := by rfl) (hyl : X.env.scope.names.lookup y = some .local := by rfl) (hli : Nat.blt i Γ.length = true := by rfl) (hs : ∀ x, foldedSetIterable iter X.env x = pure x := by intro _; rfl) :
    JL X W cl Γ (.Assign [.Name y py] (.ListComp elt [⟨tg, iter, ifs, 0⟩] scope pos) spos) (tAsg (tLc wi g tt te (own.map (·.2))) (gName i)) (mi.b fun xs => lcN mc f xs) (fun a => Γ.set i (some (D a))) Γe := by
  refine ⟨ps_setLc G.calm G.nd hi' hyl hsw hi.pe ok (fun s H C cls fp => (hg s H C cls fp (G.blk ..)).pe) (fun s H C cls fp => ne.elim fun x => (ht s H C cls fp (G.blk ..) x).pe) (fun s H C cls fp => ne.elim fun x => (he s H C cls fp (G.blk ..) x).pe) hs,
    fun σ F O H R D' u s q => lc_run G hi (emptyAt_ok hw) hL hg ht he σ F O H R _ u s (q.mono (fun a _ q v F' h H' l u' p' => ?_) fun c q F' H' l u' => ?_)⟩
  · rcases hD a with f | f
    · obtain ⟨F1, l1, l2, u1⟩ := pt_leak3 u'
      obtain ⟨F2, O2, l3, u2, s2⟩ := put_at (s.mono (l.tr l1)) (Nat.blt_eq.mp hli) (f v F' h F1 p' l1 l2) (pt_addE u1)
      exact q _ F2 O2 H' (l.tr (l1.tr l3)) u2 s2
    · obtain ⟨F2, O2, l3, u2, s2⟩ := put_at (s.mono l) (Nat.blt_eq.mp hli) (f v F' h p') u'
      exact q _ F2 O2 H' (l.tr l3) u2 s2
  · obtain ⟨F2, O2, l2, u2, s2⟩ := we.slots (s.mono l) u'
    exact q σ F2 O2 H' (l.tr l2) u2 s2
end
end Br
namespace Br
open PySem PySem.Spec L2
variable [tgi : Tbs]

section
variable {α β γ B T S : Type} {X : Cx} {W : WX} {cl : String → Addr} {Γ Γe : Ctx} {tg e a b c : Expr} {es : List Expr} {pos p : Pos} {ta tb : TE} {k : Nat}
theorem jt_c {t : TE} {m : Rs Bool} (h : JN X W cl Γ e t m aB) (q : PT X e (tTest t)) : JT X W cl Γ e (tTest t) m := by
  obtain ⟨p, k⟩ := h
  refine ⟨q, fun σ F O H R Q u s q => k σ F O H R _ u s (q.mono (fun x _ q v F1 h1 H1 le u1 p1 => ?_) fun c q => q)⟩
  exact ⟨x, p1.1, q F1 H1 le (pt_skip u1 p1.2)⟩
variable {m n : Rs Int}
theorem jt_lt (h1 : JN X W cl Γ a ta m aI) (h2 : JN X W cl Γ b tb n aI) : JT X W cl Γ (.Compare a [.Lt] [b] pos) (tTest (tOp (rI0 fun i j => .bl (decide (i < j))) ta tb)) (m.b fun x => n.b fun y => .ok (decide (x < y))) := jt_c (jn_lt h1 h2) (pt_cmpR op_lt h1.pe h2.pe (nomark _))
theorem jt_le (h1 : JN X W cl Γ a ta m aI) (h2 : JN X W cl Γ b tb n aI) : JT X W cl Γ (.Compare a [.LtE] [b] pos) (tTest (tOp (rI0 fun i j => .bl (decide (i ≤ j))) ta tb)) (m.b fun x => n.b fun y => .ok (decide (x ≤ y))) := jt_c (jn_le h1 h2) (pt_cmpR op_le h1.pe h2.pe (nomark _))
theorem jt_gt (h1 : JN X W cl Γ a ta m aI) (h2 : JN X W cl Γ b tb n aI) : JT X W cl Γ (.Compare a [.Gt] [b] pos) (tTest (tOp (rI0 fun i j => .bl (decide (j < i))) ta tb)) (m.b fun x => n.b fun y => .ok (decide (y < x))) := jt_c (jn_gt h1 h2) (pt_cmpR op_gt h1.pe h2.pe (nomark _))
theorem jt_ge (h1 : JN X W cl Γ a ta m aI) (h2 : JN X W cl Γ b tb n aI) : JT X W cl Γ (.Compare a [.GtE] [b] pos) (tTest (tOp (rI0 fun i j => .bl (decide (j ≤ i))) ta tb)) (m.b fun x => n.b fun y => .ok (decide (y ≤ x))) := jt_c (jn_ge h1 h2) (pt_cmpR op_ge h1.pe h2.pe (nomark _))
theorem jt_eq [DecidableEq α] {A : α → Asn} [sc : ScF A] {m n : Rs α} (h1 : JN X W cl Γ a ta m A) (h2 : JN X W cl Γ b tb n A) : JT X W cl Γ (.Compare a [.Eq] [b] pos) (tTest (tOp rEq ta tb)) (m.b fun x => n.b fun y => .ok (decide (x = y))) := jt_c (jn_eq h1 h2) (pt_cmpR op_eq h1.pe h2.pe (nomark _))
theorem jt_ne [DecidableEq α] {A : α → Asn} [sc : ScF A] {m n : Rs α} (h1 : JN X W cl Γ a ta m A) (h2 : JN X W cl Γ b tb n A) : JT X W cl Γ (.Compare a [.NotEq] [b] pos) (tTest (tOp rNe ta tb)) (m.b fun x => n.b fun y => .ok (!decide (x = y))) := jt_c (jn_ne h1 h2) (pt_cmpR op_ne h1.pe h2.pe (nomark _))
theorem jt_isN {A : α → Asn} [nn : NnF A] {m : Rs (Option α)} {j p2} (h1 : JN X W cl Γ a ta m (aO A)) : JT X W cl Γ (.Compare a [.Is] [.Constant .none j p2] pos) (tTest (tOp (fun x y H Q => y = .non ∧ Q (.bl (decide (x = .non))) H) ta (tC .non))) (m.b fun x => .ok x.isNone) := jt_c (jn_isN h1) (pt_cmpR op_isN h1.pe pe_non (nomark _))
theorem jt_notN {A : α → Asn} [nn : NnF A] {m : Rs (Option α)} {j p2} (h1 : JN X W cl Γ a ta m (aO A)) : JT X W cl Γ (.Compare a [.IsNot] [.Constant .none j p2] pos) (tTest (tOp (fun x y H Q => y = .non ∧ Q (.bl (!decide (x = .non))) H) ta (tC .non))) (m.b fun x => .ok x.isSome) := jt_c (jn_notN h1) (pt_cmpR op_notN h1.pe pe_non (nomark _))
class DatF (K : PySem.W.Frag) {α : Type} (A : α → Asn) [DecidableEq α] where
  dat : α → PyData
  dep : Nat
  is : ∀ x v F h H, (A x).p v F h → Le F H → Le h H → Dp K H v (dat x)
  lay : ∀ x, (dat x).canLay0 = true
  low : ∀ x, (dat x).depth ≤ dep
  eq : ∀ x y, PyData.eqv (dat x) (dat y) = decide (x = y)
instance {K : PySem.W.Frag} : DatF K aI := ⟨.int, 0, fun x v F h H p _ _ => by rw [p.1]; exact .int x, fun _ => rfl, fun _ => by simp [PyData.depth], fun x y => by simp [PyData.eqv, Bool.beq_eq_decide_eq]⟩
instance {K : PySem.W.Frag} : DatF K aB := ⟨.bool, 0, fun x v F h H p _ _ => by rw [p.1]; exact .bl x, fun _ => rfl, fun _ => by simp [PyData.depth], fun x y => by simp [PyData.eqv, Bool.beq_eq_decide_eq]⟩
theorem dpAll_of {K : PySem.W.Frag} [DecidableEq α] {A : α → Asn} [d : DatF K A] {F H : Hp} : ∀ {xs : List α} {vs : List V} {h : Hp}, Sep (xs.map A) vs F h → Le F H → Le h H → DpAll K H vs (xs.map d.dat)
  | [], [], _, _, _, _ => .nil
  | x :: xs, v :: vs, _, ⟨h1, h2, t, p, r⟩, l, lh => .cons (d.is x v F h1 H p l ((t.le (by simp)).tr lh)) (dpAll_of r l ((t.le (by simp)).tr lh))
theorem layAll {K : PySem.W.Frag} [DecidableEq α] {A : α → Asn} [d : DatF K A] : ∀ xs : List α, PyData.canLayAll0 (xs.map d.dat) = true
  | [] => rfl
  | x :: xs => by simp [PyData.canLayAll0, d.lay, layAll xs]
theorem lowAll {K : PySem.W.Frag} [DecidableEq α] {A : α → Asn} [d : DatF K A] : ∀ xs : List α, PyData.depthAll (xs.map d.dat) ≤ d.dep
  | [] => by simp [PyData.depthAll]
  | x :: xs => by have := d.low x; have := lowAll (d := d) xs; simp [PyData.depthAll]; omega
theorem eqAll {K : PySem.W.Frag} [DecidableEq α] {A : α → Asn} [d : DatF K A] : ∀ xs ys : List α, PyData.eqvAll (xs.map d.dat) (ys.map d.dat) = decide (xs = ys)
  | [], [] => by simp [PyData.eqvAll]
  | x :: xs, [] => by simp [PyData.eqvAll]
  | [], y :: ys => by simp [PyData.eqvAll]
  | x :: xs, y :: ys => by
    rw [List.map_cons, List.map_cons, PyData.eqvAll, d.eq, eqAll xs ys]
    by_cases h1 : x = y <;> by_cases h2 : xs = ys <;> simp [h1, h2]
class LsD (L : List α → Asn) (A : outParam (α → Asn)) : Prop where
  rd : ∀ K, RdL K L A
instance {A : α → Asn} : LsD (lA A) A := ⟨fun _ => inferInstance⟩
instance {A : α → Asn} : LsD (oA A) A := ⟨fun _ => inferInstance⟩
instance instDatL {K : PySem.W.Frag} [DecidableEq α] {L : List α → Asn} {A : α → Asn} [l : LsD L A] [d : DatF K A] : DatF K L where
  dat := fun xs => .list (xs.map d.dat)
  dep := d.dep + 1
  is := fun xs v F h H p lf lh => by
    obtain ⟨a, vs, h', rfl, sq, l', sp⟩ := (l.rd K).rd xs v F h p
    exact .lst (sq H lf lh) (dpAll_of sp lf (l'.tr lh))
  lay := fun xs => by rw [PyData.canLay0]; exact layAll xs
  low := fun xs => by rw [PyData.depth]; have := lowAll (d := d) xs; omega
  eq := fun xs ys => by rw [PyData.eqv, eqAll]
theorem dat2 {K : PySem.W.Frag} [DecidableEq α] [DecidableEq β] {A : α → Asn} {C : β → Asn} [d : DatF K A] [d' : DatF K C] {Tp : α × β → Asn} (rd : RdT Tp (fun x => [A x.1, C x.2])) :
    ∀ x v F h H, (Tp x).p v F h → Le F H → Le h H → Dp K H v (.tuple [d.dat x.1, d'.dat x.2]) := fun x v F h H p lf lh => by
  obtain ⟨a, vs, h', rfl, sq, l', sp⟩ := rd.rd x v F h p
  obtain ⟨v1, v2, h1, h2, rfl, t, p1, p2⟩ := sep2 sp
  exact .tup (SqT.of (sq H lf lh)) (.cons (d.is _ _ _ _ _ p1 lf ((t.le (by simp)).tr (l'.tr lh))) (.cons (d'.is _ _ _ _ _ p2 lf ((t.le (by simp)).tr (l'.tr lh))) .nil))
theorem dat2_eq {K : PySem.W.Frag} [DecidableEq α] [DecidableEq β] {A : α → Asn} {C : β → Asn} [d : DatF K A] [d' : DatF K C] (x y : α × β) : PyData.eqv (.tuple [d.dat x.1, d'.dat x.2]) (.tuple [d.dat y.1, d'.dat y.2]) = decide (x = y) := by
  rw [PyData.eqv, PyData.eqvAll, PyData.eqvAll, PyData.eqvAll, d.eq, d'.eq]
  obtain ⟨x1, x2⟩ := x
  obtain ⟨y1, y2⟩ := y
  by_cases h1 : x1 = y1 <;> by_cases h2 : x2 = y2 <;> simp [h1, h2]
instance {K : PySem.W.Frag} [DecidableEq α] [DecidableEq β] {A : α → Asn} {C : β → Asn} [d : DatF K A] [d' : DatF K C] : DatF K (t2 A C) :=
  ⟨fun x => .tuple [d.dat x.1, d'.dat x.2], max d.dep d'.dep + 1, dat2 inferInstance, fun x => by simp [PyData.canLay0, PyData.canLayAll0, d.lay, d'.lay], fun x => by have := d.low x.1; have := d'.low x.2; simp [PyData.depth, PyData.depthAll]; omega, dat2_eq⟩
instance {K : PySem.W.Frag} [DecidableEq α] [DecidableEq β] {A : α → Asn} {C : β → Asn} [d : DatF K A] [d' : DatF K C] : DatF K (o2 A C) :=
  ⟨fun x => .tuple [d.dat x.1, d'.dat x.2], max d.dep d'.dep + 1, dat2 inferInstance, fun x => by simp [PyData.canLay0, PyData.canLayAll0, d.lay, d'.lay], fun x => by have := d.low x.1; have := d'.low x.2; simp [PyData.depth, PyData.depthAll]; omega, dat2_eq⟩
theorem op2_D {K0 : PySem.W.Frag} [DecidableEq α] {A A' : α → Asn} [d : DatF K0 A] [d' : DatF K0 A'] (hd : ∀ x, d'.dat x = d.dat x) (hl : d.dep ≤ 64) {neg : Bool} (hK : X.K = K0 := by rfl) : Op2 (fun x y H Q => ∃ d e, Dp K0 H x d ∧ Dp K0 H y e ∧ SeqAt.shaped d = true ∧ SeqAt.shaped e = true ∧ Q (.bl (if neg then !PyData.eqv d e else PyData.eqv d e)) H) A A' (fun x y => some (if neg then !decide (x = y) else decide (x = y))) aB := by
  subst hK
  intro x y v w F h1 h2 H R Q c e u p q k
  have sh : ∀ z, SeqAt.shaped (d.dat z) = true := fun z => by unfold SeqAt.shaped; rw [d.lay]; have := d.low z; simp; omega
  have lF : Le F H := u.le (by simp)
  have q2 := d'.is y w F h2 H q lF (u.le (by simp))
  rw [hd] at q2
  refine ⟨d.dat x, d.dat y, d.is x v F h1 H p lF (u.le (by simp)), q2, sh x, sh y, ?_⟩
  rw [d.eq]
  obtain ⟨F2, l1, _, u2⟩ := u.leak
  obtain ⟨F3, l3, _, u3⟩ := u2.leak
  exact k _ F3 emp H (l1.tr l3) (Pt.swap u3.addE) ⟨by rw [Option.some.inj e], rfl⟩
theorem jn_eqD {K0 : PySem.W.Frag} [DecidableEq α] {A A' : α → Asn} [d : DatF K0 A] [d' : DatF K0 A'] {m n : Rs α} (G : Gd X W k) (h1 : JN X W cl Γ a ta m A) (h2 : JN X W cl Γ b tb n A') (hd : ∀ x, d'.dat x = d.dat x := by intro _; rfl) (hl : Nat.ble d.dep 64 = true := by rfl) (hK : X.K = K0 := by rfl) :
    JN X W cl Γ (.Compare a [.Eq] [b] pos) (tOp (rEqD K0) ta tb) (m.b fun x => n.b fun y => .ok (decide (x = y))) aB := by
  subst hK
  exact (JN.bin (f := fun x y => some (decide (x = y))) h1 h2 (fun p q => pe_cmpR (op_eqD G.room.units) p q (nomark _)) (op2_D (neg := false) hd (Nat.ble_eq.mp hl)))
theorem jn_neD {K0 : PySem.W.Frag} [DecidableEq α] {A A' : α → Asn} [d : DatF K0 A] [d' : DatF K0 A'] {m n : Rs α} (G : Gd X W k) (h1 : JN X W cl Γ a ta m A) (h2 : JN X W cl Γ b tb n A') (hd : ∀ x, d'.dat x = d.dat x := by intro _; rfl) (hl : Nat.ble d.dep 64 = true := by rfl) (hK : X.K = K0 := by rfl) :
    JN X W cl Γ (.Compare a [.NotEq] [b] pos) (tOp (rNeD K0) ta tb) (m.b fun x => n.b fun y => .ok (!decide (x = y))) aB := by
  subst hK
  exact (JN.bin (f := fun x y => some (!decide (x = y))) h1 h2 (fun p q => pe_cmpR (op_neD G.room.units) p q (nomark _)) (op2_D (neg := true) hd (Nat.ble_eq.mp hl)))
theorem jt_eqD {K0 : PySem.W.Frag} [DecidableEq α] {A A' : α → Asn} [d : DatF K0 A] [d' : DatF K0 A'] {m n : Rs α} (G : Gd X W k) (h1 : JN X W cl Γ a ta m A) (h2 : JN X W cl Γ b tb n A') (hd : ∀ x, d'.dat x = d.dat x := by intro _; rfl) (hl : Nat.ble d.dep 64 = true := by rfl) (hK : X.K = K0 := by rfl) :
    JT X W cl Γ (.Compare a [.Eq] [b] pos) (tTest (tOp (rEqD K0) ta tb)) (m.b fun x => n.b fun y => .ok (decide (x = y))) := by
  subst hK
  exact (jt_c (jn_eqD G h1 h2 hd hl) (pt_cmpR (op_eqD G.room.units) h1.pe h2.pe (nomark _)))
theorem jt_neD {K0 : PySem.W.Frag} [DecidableEq α] {A A' : α → Asn} [d : DatF K0 A] [d' : DatF K0 A'] {m n : Rs α} (G : Gd X W k) (h1 : JN X W cl Γ a ta m A) (h2 : JN X W cl Γ b tb n A') (hd : ∀ x, d'.dat x = d.dat x := by intro _; rfl) (hl : Nat.ble d.dep 64 = true := by rfl) (hK : X.K = K0 := by rfl) :
    JT X W cl Γ (.Compare a [.NotEq] [b] pos) (tTest (tOp (rNeD K0) ta tb)) (m.b fun x => n.b fun y => .ok (!decide (x = y))) := by
  subst hK
  exact (jt_c (jn_neD G h1 h2 hd hl) (pt_cmpR (op_neD G.room.units) h1.pe h2.pe (nomark _)))
theorem jn_max2 (G : Gd X W k) (hm : X.mg "max" = none) (h1 : JN X W cl Γ a ta m aI) (h2 : JN X W cl Γ b tb n aI) (hg : Gl X "max" := by rfl) (he : starEach [a, b] X.env = (false, eval a X.env) :: starEach [b] X.env := by rfl) (he2 : starEach [b] X.env = (false, eval b X.env) :: starEach [] X.env := by rfl) (hpl : (backTo pos (starEach [b] X.env)).any (·.1) = false := by rfl) :
    JN X W cl Γ (.Call (.Name "max" p) [a, b] [] pos) (tCB (fun xs H Q => ∃ i j, xs = [.int i, .int j] ∧ Q (.int (if j > i then j else i)) H) (tCons ta (tCons tb tNil))) (m.b fun x => n.b fun y => .ok (max x y)) aI := by
  have e : (m.b fun x => n.b fun y => .ok (max x y)) = ((m.b fun x => n.b fun y => .ok (x, y)).b fun q => opt (some (max q.1 q.2))) := by cases m <;> cases n <;> rfl
  rw [e]
  exact JN.args (f := fun q : Int × Int => some (max q.1 q.2)) (jns_cons h1 (jns_one h2 he2) he) (fun q => pe_callB (call_max2 G.calm) hg hm (by decide +kernel) q (he := he) (hpl := hpl)) fun q vs F h H R Q c e u sp k => by
    obtain ⟨v, w, h1, h2, rfl, t, ⟨rfl, e1⟩, ⟨rfl, e2⟩⟩ := sep2 sp
    subst e1 e2
    have eh := t.emp_r
    subst eh
    refine ⟨q.1, q.2, rfl, k _ F emp H .rfl u ?_⟩
    rw [← Option.some.inj e]
    exact ⟨by congr 1; simp only [Int.max_def]; split <;> split <;> omega, rfl⟩
theorem jn_min2 (G : Gd X W k) (hm : X.mg "min" = none) (h1 : JN X W cl Γ a ta m aI) (h2 : JN X W cl Γ b tb n aI) (hg : Gl X "min" := by rfl) (he : starEach [a, b] X.env = (false, eval a X.env) :: starEach [b] X.env := by rfl) (he2 : starEach [b] X.env = (false, eval b X.env) :: starEach [] X.env := by rfl) (hpl : (backTo pos (starEach [b] X.env)).any (·.1) = false := by rfl) :
    JN X W cl Γ (.Call (.Name "min" p) [a, b] [] pos) (tCB (fun xs H Q => ∃ i j, xs = [.int i, .int j] ∧ Q (.int (if j < i then j else i)) H) (tCons ta (tCons tb tNil))) (m.b fun x => n.b fun y => .ok (min x y)) aI := by
  have e : (m.b fun x => n.b fun y => .ok (min x y)) = ((m.b fun x => n.b fun y => .ok (x, y)).b fun q => opt (some (min q.1 q.2))) := by cases m <;> cases n <;> rfl
  rw [e]
  exact JN.args (f := fun q : Int × Int => some (min q.1 q.2)) (jns_cons h1 (jns_one h2 he2) he) (fun q => pe_callB (call_min2 G.calm) hg hm (by decide +kernel) q (he := he) (hpl := hpl)) fun q vs F h H R Q c e u sp k => by
    obtain ⟨v, w, h1, h2, rfl, t, ⟨rfl, e1⟩, ⟨rfl, e2⟩⟩ := sep2 sp
    subst e1 e2
    have eh := t.emp_r
    subst eh
    refine ⟨q.1, q.2, rfl, k _ F emp H .rfl u ?_⟩
    rw [← Option.some.inj e]
    exact ⟨by congr 1; simp only [Int.min_def]; split <;> split <;> omega, rfl⟩
def cut (xs : List α) (lo hi : Option Int) : List α := (xs.drop (HT.sIx xs.length 0 lo)).take (HT.sIx xs.length xs.length hi - HT.sIx xs.length 0 lo)
theorem Sep.perE {F : Hp} {As : List Asn} {vs : List V} (s : ∀ (i : Nat) (A : Asn), As[i]? = some A → ∃ v, vs[i]? = some v ∧ A.p v F emp) (l : As.length = vs.length) : Sep As vs F emp := by
  induction As generalizing vs with
  | nil =>
    cases vs with
    | nil => rfl
    | cons v vs => simp at l
  | cons A As ih =>
    cases vs with
    | nil => simp at l
    | cons v vs =>
      obtain ⟨w, e, p⟩ := s 0 A (by simp)
      simp at e; subst e
      exact ⟨emp, emp, .r_emp, p, ih (fun i B e => s (i + 1) B (by simpa using e)) (by simpa using l)⟩
theorem Sep.empE {F h : Hp} {E : α → Asn} [pf : PerF E] {xs : List α} {vs : List V} (sp : Sep (xs.map E) vs F h) : h = emp := sp.per (fun A m => by obtain ⟨y, _, e⟩ := List.mem_map.mp m; exact e ▸ pf.per y)
theorem sep_cut {F : Hp} {E : α → Asn} {xs : List α} {vs : List V} (sp : Sep (xs.map E) vs F emp) (lo hi : Option Int) : Sep ((cut xs lo hi).map E) (cutV vs lo hi) F emp := by
  have el : xs.length = vs.length := by have := sp.len; rwa [List.length_map] at this
  have gen : ∀ (d t : Nat), Sep (((xs.drop d).take t).map E) ((vs.drop d).take t) F emp := fun d t => by
    refine Sep.perE (fun i A e => ?_) (by simp [el])
    rw [List.getElem?_map, List.getElem?_take, List.getElem?_drop] at e
    rw [List.getElem?_take, List.getElem?_drop]
    split at e
    · rename_i h
      rw [if_pos h]
      exact sp.getE (i := d + i) (A := A) (by rw [List.getElem?_map]; exact e)
    · cases e
  unfold cut cutV
  rw [← el]
  exact gen _ _
/-- a part of a slice -/
structure JO (X : Cx) (W : WX) (cl : String → Addr) (Γ : Ctx) (e : Option Expr) (t : TO) (m : Rs (Option Int)) : Prop where
  pe : PO X e t
  run : ∀ (σ : L2.St) (F O H : Hp) (R : List Hp) (Q : Option Int → Hp → Prop), Pt (F :: O :: R) H → Slots Γ σ F O →
    Out m (fun a => ∀ F' H', Le F F' → Pt (F' :: O :: R) H' → Q a H') (fun c => ∀ F' H', Le F F' → Pt (F' :: O :: R) H' → W (.ref (cl c)) none σ H') → t σ H Q
theorem jo_none : JO X W cl Γ none tNoPart (.ok none) := ⟨po_none, fun σ F O H R Q u s q => q F H .rfl u⟩
theorem jo_some (h : JN X W cl Γ e ta m aI) : JO X W cl Γ (some e) (tPart ta) (m.b fun x => .ok (some x)) := by
  obtain ⟨p, k⟩ := h
  refine ⟨po_some p, fun σ F O H R Q u s q => k σ F O H R _ u s (q.bind.mono (fun x _ q v F1 h1 H1 le u1 p1 => ?_) fun c q => q)⟩
  exact ⟨x, p1.1, q F1 H1 le (pt_skip u1 p1.2)⟩
theorem jn_slice {K0 : PySem.W.Frag} {L : List α → Asn} {E : α → Asn} [rd : RdL K0 L E] [pf : PerF E] {m : Rs (List α)} {lo hi : Option Expr} {tl th : TO} {ml mh : Rs (Option Int)} {p2} (h : JN X W cl Γ e ta m L) (hl : JO X W cl Γ lo tl ml) (hh : JO X W cl Γ hi th mh) (hK : X.K = K0 := by rfl) :
    JN X W cl Γ (.Subscript e (.Slice lo hi none p2) pos) (tSl (rSlL K0) ta tl th) (m.b fun xs => ml.b fun l => mh.b fun u => .ok (cut xs l u)) (oA E) := by
  subst hK
  obtain ⟨p, k⟩ := h
  obtain ⟨pl, kl⟩ := hl
  obtain ⟨ph, kh⟩ := hh
  refine ⟨pe_slice sl_list p pl ph, fun σ F O H R Q u s q => k σ F O H R _ u s (q.bind.mono (fun xs _ q v F1 h1 H1 l1 u1 p1 => ?_) fun c q => q)⟩
  obtain ⟨F1', a1, a2, u1'⟩ := pt_leak3 u1
  refine kl σ F1' O H1 R _ u1' (s.mono (l1.tr a1)) (q.bind.mono (fun l _ q F2 H2 l2 u2 => ?_) fun c q F' H' l' u' => q F' H' (l1.tr (a1.tr l')) u')
  refine kh σ F2 O H2 R _ u2 (s.mono (l1.tr (a1.tr l2))) (q.bind.mono (fun w _ q F3 H3 l3 u3 => ?_) fun c q F' H' l' u' => q F' H' (l1.tr (a1.tr (l2.tr l'))) u')
  obtain ⟨a, vs, h', rfl, sq, lh, sp⟩ := rd.rd _ _ _ _ p1
  have eh := sp.empE
  subst eh
  have hq := sq H3 (a1.tr (l2.tr (l3.tr (u3.le (by simp))))) (a2.tr (l2.tr (l3.tr (u3.le (by simp)))))
  refine ⟨a, vs, rfl, hq, fun D hD => ?_⟩
  have sc := sep_cut (sp.mono (a1.tr (l2.tr l3))) l w
  exact q _ F3 (one D (.lst (cutV vs l w))) _ (l1.tr (a1.tr (l2.tr l3))) ((u3.alloc hD).perm (.trans (.swap _ _ _) (.cons _ (.swap _ _ _)))) ⟨D, _, emp, rfl, .r_emp, sc⟩
end
end Br
namespace Br
open PySem PySem.Spec L2
variable [tgi : Tbs]

/-- in a slot: A, perhaps at a known place (a parameter that is given back) -/
def ow (w : Option V) (A : Asn) : Asn := match w with
  | none => A
  | some v => atv v A
theorem ow_of {w : Option V} {A : Asn} {v : V} {F h : Hp} (q : (ow w A).p v F h) : A.p v F h := by
  cases w with
  | none => exact q
  | some v0 => exact q.2
theorem ow_to {w : Option V} {A B : Asn} {v : V} {F h F' h' : Hp} (q : (ow w A).p v F h) (r : B.p v F' h') : (ow w B).p v F' h' := by
  cases w with
  | none => exact r
  | some v0 => exact ⟨q.1, r⟩
section
variable {Γ : Ctx} {σ : L2.St} {F O H : Hp} {R : List Hp} {i : Nat} {w : Option V} {As : List Asn}
/-- one's own list at slot i, taken out -/
theorem own_at (s : Slots Γ σ F O) (hl : Γ[i]? = some (some (ow w (oL As)))) (u : Pt (F :: O :: R) H) :
    ∃ a vs h' O', σ[i]? = some (some (.ref a)) ∧ Sep As vs F h' ∧ Slots (Γ.set i none) σ F O' ∧ Pt (one a (.lst vs) :: h' :: F :: O' :: R) H ∧
      (∀ Bs ws F' h'' O'' R' H', Le F F' → Pt (one a (.lst ws) :: h'' :: F' :: O'' :: R') H' → Sep Bs ws F' h'' → Slots (Γ.set i none) σ F' O'' → ∃ O3, Pt (F' :: O3 :: R') H' ∧ Slots (Γ.set i (some (ow w (oL Bs)))) σ F' O3) := by
  obtain ⟨x, h, O', e', t, ⟨v, rfl, p⟩, s'⟩ := s.take hl
  obtain ⟨a, vs, h', rfl, t2, sp⟩ := ow_of p
  refine ⟨a, vs, h', O', e', sp, s', ?_, fun Bs ws F' h'' O'' R' H' l' u' sp' s2 => ?_⟩
  · have w1 : Pt (h :: O' :: F :: R) H := (u.swap).split2 t
    exact (w1.split2 t2).perm (.cons _ (.cons _ (.swap _ _ _)))
  · obtain ⟨c, j, u2⟩ := u'.join2
    obtain ⟨O3, j3, u3⟩ := (u2.perm (l' := c :: O'' :: F' :: R') (.cons _ (.swap _ _ _))).join2
    refine ⟨O3, u3.swap, ?_⟩
    have := s2.put' (set_none_at hl) (by rw [e']) (ow_to (B := oL Bs) p ⟨a, ws, h'', rfl, j, sp'⟩) j3
    rw [set_set] at this
    exact this
end
section
variable {α β γ B T S : Type} {X : Cx} {W : WX} {cl : String → Addr} {Γ Γe : Ctx} {tg e a b c : Expr} {es : List Expr} {pos p : Pos} {ta tb : TE} {k : Nat}
def appM (xs : List α) (y : α) : Rs (List α) := if xs.length ≤ 1000000 then .ok (xs ++ [y]) else .no
theorem line6 : (1000000 : Nat) < sizeLine := by rw [sizeLine_eq]; decide
/-- xs.append(e), xs in slot i, e changing nothing -/
theorem jl_append {K0 : PySem.W.Frag} (i : Nat) (w : Option V) {x : Str} {A : α → Asn} {xs : List α} {m : Rs α} {apos cpos px : Pos} (we : Wk Γ Γe) (h : JN X W cl Γ e ta m A) (hl : Γ[i]? = some (some (ow w (oA A xs))) := by rfl) (hN : X.N[i]? = some x := by rfl)
    (hv : Vis X.env.scope x := by first | exact Or.inl rfl | exact Or.inr (Or.inl rfl) | exact Or.inr (Or.inr rfl)) (hd : (x == ("__debug__" : Str)) = false := by decide) (hcd : (x == ("__classdict__" : Str)) = false := by decide)
    (hbase : attributeBase (.Name x px) "append" X.env (eval (.Name x px) X.env) = eval (.Name x px) X.env := by rfl)
    (hfew : ((backTo cpos (starEach [e] X.env)).all (fun x => !x.1) && (backToKw cpos (keywordEach [] X.env)).all (fun x => x.1.isSome) && decide ([e].length + ([] : List Keyword).length + (if ([] : List Keyword).isEmpty then 0 else 1) < 30)) = true := by rfl)
    (hline : (apos.endLine == cpos.line) = true := by rfl) (hs : starEach [e] X.env = (false, eval e X.env) :: starEach [] X.env := by rfl) (hplain : (backTo cpos (starEach [] X.env)).any (·.1) = false := by rfl)
    (hsw : swapsWith (.Call (.Attribute (.Name x px) "append" apos) [e] [] cpos) none pos.line X.env = pure false := by rfl) (hK : X.K = K0 := by rfl) :
    JL X W cl Γ (.Expr (.Call (.Attribute (.Name x px) "append" apos) [e] [] cpos) pos) (tDrop (tBM K0 "list" rAppend (tVar i) (tCons ta tNil))) (m.b fun y => appM xs y) (fun zs => Γ.set i (some (ow w (oA A zs)))) Γe := by
  subst hK
  obtain ⟨pa, ka⟩ := h
  refine ⟨ps_expr (pe_bm PySem.F.plainAttrs_list PySem.F.slot_list_append PySem.F.type_list_append mt_append (pe_var hN hv hd hcd) (pa_cons pa pa_nil hs) hbase hfew hline hs hplain) hsw, fun σ F O H R D u s q => ?_⟩
  obtain ⟨a, vs, h', O', es, sp, s', u1, back⟩ := own_at s hl u
  refine ⟨_, es, .inl ⟨rfl, vs, SqL.of u1.at1⟩, ?_⟩
  refine ka σ F O H R _ u s (q.bind.mono (fun y _ q v F1 h1 H1 l1 u2 p1 => ?_) fun c q F' H' l' u' => ?_)
  · unfold appM at q
    by_cases hz : xs.length ≤ 1000000
    case neg => rw [if_neg hz] at q; exact q.elim
    rw [if_pos hz] at q
    obtain ⟨a2, vs2, h2', O2', es2, sp2, s2', u3, back2⟩ := own_at (s.mono l1) hl u2
    have ea : a = a2 := by rw [es] at es2; cases es2; rfl
    subst ea
    have el : xs.length = vs2.length := by have := sp2.len; rwa [List.length_map] at this
    refine ⟨a, vs2, v, rfl, rfl, u3.at1, Nat.lt_of_le_of_lt (by omega) line6, ?_⟩
    have u4 : Pt (one a (.lst (vs2 ++ [v])) :: h2' :: F1 :: O2' :: h1 :: R) _ := u3.write
    have u5 : Pt (h2' :: h1 :: one a (.lst (vs2 ++ [v])) :: F1 :: O2' :: R) _ := u4.perm (by
      refine List.Perm.trans (.swap _ _ _) (.cons _ ?_)
      exact (List.perm_append_comm (l₁ := [one a (.lst (vs2 ++ [v])), F1, O2']) (l₂ := [h1])).append_right R)
    obtain ⟨hc, j, u6⟩ := u5.join2
    obtain ⟨O3, u7, s3⟩ := back2 ((xs ++ [y]).map A) (vs2 ++ [v]) F1 hc O2' R _ .rfl (u6.swap) (by rw [List.map_append]; exact Sep.append sp2 (Sep.sing p1) j) s2'
    exact q σ F1 O3 _ l1 u7 s3
  · obtain ⟨F2, O2, l2, u2, s2⟩ := we.slots (s.mono l') u'
    exact q σ F2 O2 H' (l'.tr l2) u2 s2
/-- the same where e may change other slots -/
theorem jl_appendE {K0 : PySem.W.Frag} (i : Nat) (w : Option V) {δ : Type} {x : Str} {A : α → Asn} {xs : List α} {m : Rs δ} (g : δ → α) {Γ' : δ → Ctx} {apos cpos px : Pos} (h : JE X W cl Γ e ta m Γ' (fun d => A (g d)) Γe) (hl : Γ[i]? = some (some (ow w (oA A xs))) := by rfl) (hl' : ∀ d, (Γ' d)[i]? = some (some (ow w (oA A xs))) := by intro _; rfl) (hN : X.N[i]? = some x := by rfl)
    (hv : Vis X.env.scope x := by first | exact Or.inl rfl | exact Or.inr (Or.inl rfl) | exact Or.inr (Or.inr rfl)) (hd : (x == ("__debug__" : Str)) = false := by decide) (hcd : (x == ("__classdict__" : Str)) = false := by decide)
    (hbase : attributeBase (.Name x px) "append" X.env (eval (.Name x px) X.env) = eval (.Name x px) X.env := by rfl)
    (hfew : ((backTo cpos (starEach [e] X.env)).all (fun x => !x.1) && (backToKw cpos (keywordEach [] X.env)).all (fun x => x.1.isSome) && decide ([e].length + ([] : List Keyword).length + (if ([] : List Keyword).isEmpty then 0 else 1) < 30)) = true := by rfl)
    (hline : (apos.endLine == cpos.line) = true := by rfl) (hs : starEach [e] X.env = (false, eval e X.env) :: starEach [] X.env := by rfl) (hplain : (backTo cpos (starEach [] X.env)).any (·.1) = false := by rfl)
    (hsw : swapsWith (.Call (.Attribute (.Name x px) "append" apos) [e] [] cpos) none pos.line X.env = pure false := by rfl) (hK : X.K = K0 := by rfl) :
    JL X W cl Γ (.Expr (.Call (.Attribute (.Name x px) "append" apos) [e] [] cpos) pos) (tDrop (tBM K0 "list" rAppend (tVar i) (tCons ta tNil))) (m.b fun d => (appM xs (g d)).b fun zs => .ok (zs, d)) (fun zd => (Γ' zd.2).set i (some (ow w (oA A zd.1)))) Γe := by
  subst hK
  obtain ⟨pa, ka⟩ := h
  refine ⟨ps_expr (pe_bm PySem.F.plainAttrs_list PySem.F.slot_list_append PySem.F.type_list_append mt_append (pe_var hN hv hd hcd) (pa_cons pa pa_nil hs) hbase hfew hline hs hplain) hsw, fun σ F O H R D u s q => ?_⟩
  obtain ⟨a, vs, h', O', es, sp, s', u1, back⟩ := own_at s hl u
  refine ⟨_, es, .inl ⟨rfl, vs, SqL.of u1.at1⟩, ?_⟩
  refine ka σ F O H R _ u s (q.bind.mono (fun y _ q v F1 O1 h1 H1 l1 u2 s1 p1 => ?_) fun c q F' O1 H' => q σ F' O1 H')
  replace q := q.bind
  unfold appM at q
  by_cases hz : xs.length ≤ 1000000
  case neg => rw [if_neg hz] at q; exact q.elim
  rw [if_pos hz] at q
  obtain ⟨a2, vs2, h2', O2', es2, sp2, s2', u3, back2⟩ := own_at s1 (hl' y) u2
  have ea : a = a2 := by rw [es] at es2; cases es2; rfl
  subst ea
  have el : xs.length = vs2.length := by have := sp2.len; rwa [List.length_map] at this
  refine ⟨a, vs2, v, rfl, rfl, u3.at1, Nat.lt_of_le_of_lt (by omega) line6, ?_⟩
  have u4 : Pt (one a (.lst (vs2 ++ [v])) :: h2' :: F1 :: O2' :: h1 :: R) _ := u3.write
  have u5 : Pt (h2' :: h1 :: one a (.lst (vs2 ++ [v])) :: F1 :: O2' :: R) _ := u4.perm (by
    refine List.Perm.trans (.swap _ _ _) (.cons _ ?_)
    exact (List.perm_append_comm (l₁ := [one a (.lst (vs2 ++ [v])), F1, O2']) (l₂ := [h1])).append_right R)
  obtain ⟨hc, j, u6⟩ := u5.join2
  obtain ⟨O3, u7, s3⟩ := back2 ((xs ++ [g y]).map A) (vs2 ++ [v]) F1 hc O2' R _ .rfl (u6.swap) (by rw [List.map_append]; exact Sep.append sp2 (Sep.sing p1) j) s2'
  exact q σ F1 O3 _ l1 u7 s3
/-- xs[j] = e, xs in slot i -/
def setM (xs : List α) (j : Int) (y : α) : Rs (List α) := match ixN xs.length j with
  | some n => .ok (xs.set n y)
  | none => .no
theorem Sep.setE {F h h1 H : Hp} {A : α → Asn} [pf : PerF A] {xs : List α} {vs : List V} {n : Nat} {y : α} {v : V} (sp : Sep (xs.map A) vs F h) (p : (A y).p v F h1) : Sep ((xs.set n y).map A) (vs.set n v) F emp := by
  have e1 := pf.per _ _ _ _ p
  have e2 := sp.empE
  subst e1 e2
  have el : xs.length = vs.length := by have := sp.len; rwa [List.length_map] at this
  refine Sep.perE (fun i B e => ?_) (by simp [el])
  rw [List.getElem?_map, List.getElem?_set] at e
  rw [List.getElem?_set]
  by_cases hi : n = i
  · rw [if_pos hi] at e ⊢
    by_cases hl : n < xs.length
    · rw [if_pos hl] at e
      rw [if_pos (by omega)]
      cases e
      exact ⟨v, rfl, p⟩
    · rw [if_neg hl] at e; cases e
  · rw [if_neg hi] at e ⊢
    exact sp.getE (i := i) (A := B) (by rw [List.getElem?_map]; exact e)
theorem jl_setix (i : Nat) (w : Option V) {x : Str} {A : α → Asn} [pf : PerF A] {xs : List α} {m : Rs α} {n : Rs Int} {apos px : Pos} {ie : Expr} (we : Wk Γ Γe) (h : JN X W cl Γ e ta m A) (h2 : JN X W cl Γ ie tb n aI) (hl : Γ[i]? = some (some (ow w (oA A xs))) := by rfl) (hN : X.N[i]? = some x := by rfl)
    (hv : Vis X.env.scope x := by first | exact Or.inl rfl | exact Or.inr (Or.inl rfl) | exact Or.inr (Or.inr rfl)) (hd : (x == ("__debug__" : Str)) = false := by decide) (hcd : (x == ("__classdict__" : Str)) = false := by decide)
    (ha : ∀ v, assign (.Subscript (.Name x px) ie apos) X.env v = (do
      let ov ← holding [v] (eval (.Name x px) X.env)
      let iv ← holding [v, ov] (eval ie X.env)
      standAt apos
      holding [v, ov, iv] (setItem ov iv v)
      release [v, ov, iv] []) := by intro _; rfl)
    (hs : swapsWithSole [.Subscript (.Name x px) ie apos] e pos.line X.env = pure false := by rfl) (hw : swappedStores [.Subscript (.Name x px) ie apos] e X.env = pure none := by rfl)
    (h1 : (assignEach [.Subscript (.Name x px) ie apos] X.env).map (·.2) = [assign (.Subscript (.Name x px) ie apos) X.env] := by rfl) :
    JL X W cl Γ (.Assign [.Subscript (.Name x px) ie apos] e pos) (tAsg ta (gSub (tVar i) tb rSetL)) (m.b fun y => n.b fun j => setM xs j y) (fun zs => Γ.set i (some (ow w (oA A zs)))) Γe := by
  obtain ⟨pa, ka⟩ := h
  obtain ⟨pb, kb⟩ := h2
  refine ⟨ps_asg pa (pg_sub (pe_var hN hv hd hcd) pb set_list ha) hs hw h1, fun σ F O H R D u s q => ?_⟩
  refine ka σ F O H R _ u s (q.bind.mono (fun y _ q v F1 h1 H1 l1 u1 p1 => ?_) fun c q F' H' l' u' => ?_)
  · obtain ⟨a, vs, h', O', es, sp, s', uu, back⟩ := own_at (s.mono l1) hl u1
    have e1 := pf.per _ _ _ _ p1
    subst e1
    refine ⟨_, es, ?_⟩
    refine kb σ F1 O H1 R _ (pt_skip u1 rfl) (s.mono l1) (q.bind.mono (fun j _ q z F2 h2 H2 l2 u2 p2 => ?_) fun c q F' H' l' u' => ?_)
    · obtain ⟨rfl, eh⟩ := p2
      subst eh
      have u2' := pt_skip u2 rfl
      obtain ⟨a2, vs2, h2', O2', es2, sp2, s2', u3, back2⟩ := own_at ((s.mono l1).mono l2) hl u2'
      have ea : a = a2 := by rw [es] at es2; cases es2; rfl
      subst ea
      have el : xs.length = vs2.length := by have := sp2.len; rwa [List.length_map] at this
      unfold setM at q
      cases ej : ixN xs.length j with
      | none => rw [ej] at q; exact q.elim
      | some n =>
        rw [ej] at q
        have eh2 := sp2.empE
        subst eh2
        refine ⟨a, vs2, j, n, rfl, rfl, u3.at1, by rw [← el]; exact ej, ?_⟩
        obtain ⟨O3, u7, s3⟩ := back2 ((xs.set n y).map A) (vs2.set n v) F2 emp O2' R _ .rfl u3.write (Sep.setE (H := emp) sp2 ((A y).mono l2 p1)) s2'
        exact q σ F2 O3 _ (l1.tr l2) u7 s3
    · obtain ⟨F2, O2, l2, u2, s2⟩ := we.slots (s.mono (l1.tr l')) u'
      exact q σ F2 O2 H' (l1.tr (l'.tr l2)) u2 s2
  · obtain ⟨F2, O2, l2, u2, s2⟩ := we.slots (s.mono l') u'
    exact q σ F2 O2 H' (l'.tr l2) u2 s2
end
end Br
namespace Br
open PySem PySem.Spec L2
variable [tgi : Tbs]

/-- the built-ins that a module's own names do not hide -/
structure Bt (mg : Str → Option Value) : Prop where
  len : mg "len" = none
  range : mg "range" = none
  list : mg "list" = none
  min : mg "min" = none
  max : mg "max" = none
  sum : mg "sum" = none
  sorted : mg "sorted" = none
  enumerate : mg "enumerate" = none
  zip : mg "zip" = none
  isinstance : mg "isinstance" = none
  int : mg "int" = none
  bool : mg "bool" = none
  str : mg "str" = none
  tuple : mg "tuple" = none
  dict : mg "dict" = none
  set : mg "set" = none
  any : mg "any" = none
  all : mg "all" = none
  reversed : mg "reversed" = none
  valueError : mg "ValueError" = none
/-- a callee by its name: its level, parameters, arguments, mirror, answer -/
structure CalR {ι ρ : Type} (P : Program) (w : World) (K : PySem.W.Frag) (mg : Str → Option Value) (base : Heap) (cl : String → Addr) (k : Nat) (x : Str) (ps : List Str) (As : ι → List Asn) (m : ι → Rs ρ) (C : ρ → Asn) : Prop where
  ex : ∃ f fd, FnR P w K mg base cl k f fd ps As m C ∧ mg x = some (.ref f) ∧ PySem.W.keepIn K (.ref f) = true ∧ Binds K fd ps []
section
variable {α β γ ι ρ B T S : Type} {X : Cx} {W : WX} {cl : String → Addr} {Γ Γe : Ctx} {tg e a b c : Expr} {es : List Expr} {pos p : Pos} {ta tb : TE} {k j : Nat} {Γn : S → Ctx} {Γb : B → Ctx} {RA : RAs T} {sts : List Stmt}
theorem jn_cal {x : Str} {t : TA} {ps : List Str} {As : ι → List Asn} {fm : ι → Rs ρ} {C : ρ → Asn} {m : Rs ι} (G : Gd X W k) (c : CalR X.prog X.w X.K X.mg X.base cl j x ps As fm C) (h : JNs X W cl Γ (e :: es) t m As) (hj : j ≤ k := by decide) (hg : Gl X x := by rfl) (hdb : (x == ("__debug__" : Str)) = false := by decide)
    (he : starEach (e :: es) X.env = (false, eval e X.env) :: starEach es X.env := by rfl) (hpl : (backTo pos (starEach es X.env)).any (·.1) = false := by rfl) :
    JN X W cl Γ (.Call (.Name x p) (e :: es) [] pos) (tCallS (Fsp cl As fm C) (WE W) t) (m.b fm) C := by
  obtain ⟨f, fd, F, hm, kp, hb⟩ := c.ex
  exact jn_call G F hj hm kp hb h hg hdb he hpl
theorem JB.to {t : TS} {m m' : Fl B T S} (h : JB X W cl Γ sts t m Γn Γb RA Γe) (e : m = m') : JB X W cl Γ sts t m' Γn Γb RA Γe := e ▸ h
theorem jb_wk {t : TS} {Γ2 : Ctx} {m : Fl B T S} (w : Wk Γ Γ2) (h : JB X W cl Γ2 sts t m Γn Γb RA Γe) : JB X W cl Γ sts t m Γn Γb RA Γe :=
  ⟨h.pe, fun σ F O H R D u s q => by
    obtain ⟨F2, O2, l2, u2, s2⟩ := w.slots s u
    exact h.run σ F2 O2 H R D u2 s2 (wants_le l2 q)⟩
structure JEs {α : Type} (X : Cx) (W : WX) (cl : String → Addr) (Γ : Ctx) (es : List Expr) (t : TA) (m : Rs α) (Γ' : α → Ctx) (As : α → List Asn) (Γe : Ctx) : Prop where
  pe : PA X es t
  run : ∀ (σ : L2.St) (F O H : Hp) (R : List Hp) (Q : List V → Hp → Prop), Pt (F :: O :: R) H → Slots Γ σ F O →
    Out m (fun a => ∀ vs F' O' h H', Le F F' → Pt (F' :: O' :: h :: R) H' → Slots (Γ' a) σ F' O' → Sep (As a) vs F' h → Q vs H')
      (fun c => ∀ F' O' H', Le F F' → Pt (F' :: O' :: R) H' → Slots Γe σ F' O' → W (.ref (cl c)) none σ H') → t σ H Q
theorem jes_nil : JEs X W cl Γ [] tNil (.ok ()) (fun _ => Γ) (fun _ => []) Γe := ⟨pa_nil, fun σ F O H R Q t s q => q [] F O emp H .rfl (pt_addE t) s rfl⟩
theorem jes_cons {tb : TA} {m : Rs α} {n : α → Rs β} {A : α → Asn} {Bs : β → List Asn} {Γ1 : α → Ctx} {Γ2 : β → Ctx} [ne : Nonempty α] (h1 : JE X W cl Γ e ta m Γ1 A Γe) (h2 : ∀ x, JEs X W cl (Γ1 x) es tb (n x) Γ2 Bs Γe)
    (hs : starEach (e :: es) X.env = (false, eval e X.env) :: starEach es X.env := by rfl) : JEs X W cl Γ (e :: es) (tCons ta tb) (m.b fun x => (n x).b fun y => .ok (x, y)) (fun p => Γ2 p.2) (fun p => A p.1 :: Bs p.2) Γe := by
  obtain ⟨pa, ka⟩ := h1
  refine ⟨pa_cons pa (ne.elim fun x => (h2 x).pe) hs, fun σ F O H R Q u s q => ka σ F O H R _ u s (q.bind.mono (fun x _ q v F1 O1 h1 H1 le1 u1 s1 p1 => ?_) fun c q => q)⟩
  refine (h2 x).run σ F1 O1 H1 (h1 :: R) _ u1 s1 (q.bind.mono (fun y _ q ws F2 O2 h2 H2 le2 u2 s2 p2 => ?_) fun c q F' O' H' le' u' s' => ?_)
  · have u3 : Pt (h2 :: h1 :: F2 :: O2 :: R) H2 := u2.perm (by
      exact (List.perm_append_comm (l₁ := [F2, O2]) (l₂ := [h2, h1])).append_right R)
    obtain ⟨c, j, u4⟩ := u3.join2
    exact q (v :: ws) F2 O2 c H2 (le1.tr le2) (u4.perm (.trans (.swap _ _ _) (.cons _ (.swap _ _ _)))) s2 ⟨h1, h2, j.comm, (A x).mono le2 p1, p2⟩
  · obtain ⟨F2, l1, l2, u2⟩ := pt_leak3 u'
    exact q F2 O' H' (le1.tr (le'.tr l1)) u2 (s'.mono l1)
theorem je_tup {ts : TA} {As : ι → List Asn} {C : γ → Asn} (g : ι → γ) {m : Rs ι} {Γ' : ι → Ctx} (Γ2 : γ → Ctx) {x1} (h : JEs X W cl Γ es ts m Γ' As Γe) (hΓ : ∀ i, Γ' i = Γ2 (g i) := by intro _; rfl) (hC : ∀ i, C (g i) = oT (As i) := by intro _; rfl) (hl : ∀ i, Nat.ble (As i).length 64 = true := by intro _; rfl) :
    JE X W cl Γ (.Tuple es x1 pos) (tTup ts) (m.b fun i => .ok (g i)) Γ2 C Γe := by
  obtain ⟨p, k⟩ := h
  refine ⟨pe_tup p, fun σ F O H R Q u s q => k σ F O H R _ u s (q.bind.mono (fun i _ q vs F' O' h H' l u' s' p' => ?_) fun c q => q)⟩
  refine ⟨by rw [← p'.len]; exact short (hl i), fun a ha => ?_⟩
  obtain ⟨c, j, u2⟩ := (u'.alloc ha).join2
  exact q _ c O' h _ (l.tr (j.le (by simp))) u2 (by rw [← hΓ]; exact s'.mono (j.le (by simp))) (by rw [hC]; exact ⟨a, vs, rfl, j.at1, p'.mono (j.le (by simp))⟩)
def whM (c : S → Rs Bool) (f : S → Fl S T S) : Nat → S → Fl B T S
  | 0, _ => .no
  | n + 1, s => match c s with
    | .ok true => (match f s with
      | .nx s' => whM c f n s'
      | .ct s' => whM c f n s'
      | .bk s' => .nx s'
      | .rt r => .rt r
      | .er c => .er c
      | .no => .no)
    | .ok false => .nx s
    | .er c => .er c
    | .no => .no
theorem js_while {tc : TT} {tb : TS} {Γl : S → Ctx} {s0 : S} (n : Nat) {c : S → Rs Bool} {f : S → Fl S T S} {ce : Expr} {body : List Stmt} (G : Gd X W k) (w0 : Wk Γ (Γl s0)) (we : ∀ s, Wk (Γl s) Γe) (hc : ∀ s, JT X W cl (Γl s) ce tc (c s)) (hb : ∀ s, JB X W cl (Γl s) body tb (f s) Γl Γl RA Γe) :
    JS X W cl Γ (.While ce body [] pos) (tWhile tc tb) (whM c f n s0 : Fl B T S) Γl Γb RA Γe := by
  refine ⟨ps_while G.po (hc s0).pe (hb s0).pe, fun σ F O H R D u s q => ?_⟩
  obtain ⟨F1, O1, l1, u1, s1⟩ := w0.slots s u
  refine ⟨fun m σ H => ∃ st F2 O2, Le F F2 ∧ Pt (F2 :: O2 :: R) H ∧ Slots (Γl st) σ F2 O2 ∧ OutF (whM c f m st : Fl B T S) (wants W cl Γl Γb RA Γe F2 R D), ⟨n, s0, F1, O1, l1, u1, s1, wants_le l1 q⟩, ?_⟩
  rintro m σ2 H2 ⟨st, F2, O2, l2, u2, s2, q2⟩
  cases m with
  | zero => exact q2.elim
  | succ m =>
    refine (hc st).run σ2 F2 O2 H2 R _ u2 s2 ?_
    unfold whM at q2
    cases ec : c st with
    | no => rw [ec] at q2; exact q2.elim
    | er x =>
      rw [ec] at q2
      intro F' H' l' u'
      obtain ⟨F3, O3, l3, u3, s3⟩ := (we st).slots (s2.mono l') u'
      exact q2 σ2 F3 O3 H' (l'.tr l3) u3 s3
    | ok bb =>
      rw [ec] at q2
      intro F3 H3 l3 u3
      cases bb with
      | false =>
        show if false = true then _ else _
        rw [if_neg Bool.false_ne_true]
        exact q2 σ2 F3 O2 H3 l3 u3 (s2.mono l3)
      | true =>
        show if true = true then _ else _
        rw [if_pos rfl]
        refine ⟨fun σ' H' => ∃ st F2 O2, Le F F2 ∧ Pt (F2 :: O2 :: R) H' ∧ Slots (Γl st) σ' F2 O2 ∧ OutF (whM c f m st : Fl B T S) (wants W cl Γl Γb RA Γe F2 R D), fun σ' H' h => ⟨m, Nat.lt_succ_self m, h⟩, ?_⟩
        refine (hb st).run σ2 F3 O2 H3 R _ u3 (s2.mono l3) ?_
        have q4 := wants_le (l3) (m := (match f st with
          | .nx s' => whM c f m s'
          | .ct s' => whM c f m s'
          | .bk s' => .nx s'
          | .rt r => .rt r
          | .er c => .er c
          | .no => .no : Fl B T S)) q2
        clear q2
        have lb : Le F F3 := l2.tr l3
        cases e : f st with
        | nx s' => rw [e] at q4; exact fun σ' F5 O5 H5 l5 u5 s5 => ⟨s', F5, O5, lb.tr l5, u5, s5, wants_le l5 q4⟩
        | ct s' => rw [e] at q4; exact fun σ' F5 O5 H5 l5 u5 s5 => ⟨s', F5, O5, lb.tr l5, u5, s5, wants_le l5 q4⟩
        | bk s' => rw [e] at q4; exact fun σ' F5 O5 H5 l5 u5 s5 => q4 σ' F5 O5 H5 l5 u5 s5
        | rt r => rw [e] at q4; exact q4
        | er c => rw [e] at q4; exact q4
        | no => rw [e] at q4; exact q4
theorem jn_list {K0 : PySem.W.Frag} {L : List α → Asn} {E : α → Asn} [rd : RdL K0 L E] [pf : PerF E] {m : Rs (List α)} (hm : X.mg "list" = none) (h1 : JN X W cl Γ a ta m L) (hg : Gl X "list" := by rfl) (hs : starEach [a] X.env = (false, eval a X.env) :: starEach [] X.env := by rfl) (hpl : (backTo pos (starEach [] X.env)).any (·.1) = false := by rfl) (hK : X.K = K0 := by rfl) :
    JN X W cl Γ (.Call (.Name "list" p) [a] [] pos) (tCB (fun xs H Q => ∃ p ys, xs = [.ref p] ∧ (SqL K0 H p ys ∨ SqT K0 H p ys) ∧ ∀ l, H l = none → Q (.ref l) (upd H l (.lst ys))) (tCons ta tNil)) m (oA E) := by
  subst hK
  have := JN.args (e := .Call (.Name "list" p) [a] [] pos) (C := oA E) (jns_one h1 hs) (fun q => pe_callTy call_list_of hg hm (by decide +kernel) q (he := hs) (hpl := hpl)) (f := fun x => some x) fun xs vs F h H R Q c e u sp k => by
    cases e
    obtain ⟨v, rfl, p1⟩ := sep1 sp
    obtain ⟨a, ws, h', rfl, sq, lh, sp⟩ := rd.rd _ _ _ _ p1
    obtain ⟨l1, l2⟩ := le_part u
    have eh := sp.empE
    subst eh
    refine ⟨a, ws, rfl, .inl (sq H l1 l2), fun l hl => ?_⟩
    obtain ⟨F2, l3, _, u2⟩ := u.leak
    exact k _ F2 (one l (.lst ws)) _ l3 ((u2.alloc hl).swap) ⟨l, ws, emp, rfl, .r_emp, sp.mono l3⟩
  have e : (m.b fun x => opt (some x)) = m := by cases m <;> rfl
  rw [e] at this
  exact this
theorem sep_ints {F : Hp} : ∀ {xs : List Int} {ws : List V}, Sep (xs.map aI) ws F emp → ws = xs.map V.int
  | [], [], _ => rfl
  | x :: xs, w :: ws, ⟨h1, h2, t, ⟨e, _⟩, r⟩ => by
    obtain ⟨e1, e2⟩ := t.of_emp
    subst e1 e2
    rw [e, sep_ints r]; rfl
theorem jn_sum {K0 : PySem.W.Frag} {L : List Int → Asn} [rd : RdL K0 L aI] {m : Rs (List Int)} (G : Gd X W k) (hm : X.mg "sum" = none) (h1 : JN X W cl Γ a ta m L) (hg : Gl X "sum" := by rfl) (hs : starEach [a] X.env = (false, eval a X.env) :: starEach [] X.env := by rfl) (hpl : (backTo pos (starEach [] X.env)).any (·.1) = false := by rfl) (hK : X.K = K0 := by rfl) :
    JN X W cl Γ (.Call (.Name "sum" p) [a] [] pos) (tCB (rSum K0) (tCons ta tNil)) (m.b fun xs => .ok xs.sum) aI := by
  subst hK
  exact (JN.args (C := aI) (jns_one h1 hs) (fun q => pe_callB (cr_sum G.calm) hg hm (by decide +kernel) q (he := hs) (hpl := hpl)) (f := fun xs : List Int => some xs.sum) fun xs vs F h H R Q c e u sp k => by
    cases e
    obtain ⟨v, rfl, p1⟩ := sep1 sp
    obtain ⟨a, ws, h', rfl, sq, lh, sp⟩ := rd.rd _ _ _ _ p1
    obtain ⟨l1, l2⟩ := le_part u
    have eh := sp.empE
    subst eh
    have ew := sep_ints sp
    exact ⟨a, xs, rfl, by rw [← ew]; exact sq H l1 l2, kt_val k u fun F' _ _ => ⟨rfl, rfl⟩⟩)
/-- a list that stands in the heap by itself -/
class StL {α : Type} (L : List α → Asn) (E : outParam (α → Asn)) : Prop where
  st : ∀ xs v F h, (L xs).p v F h → ∃ a vs h', v = .ref a ∧ (∀ H, Le F H → Le h H → H a = some (.lst vs)) ∧ Le h' h ∧ Sep (xs.map E) vs F h'
instance {A : α → Asn} : StL (lA A) A := ⟨fun xs v F h ⟨e, a, vs, e1, s, r⟩ => ⟨a, vs, emp, e1, fun H l _ => l _ _ s, emp_le, r⟩⟩
instance {A : α → Asn} : StL (oA A) A := ⟨fun xs v F h ⟨a, vs, h', e1, t, r⟩ => ⟨a, vs, h', e1, fun H _ l => l _ _ t.at1, t.le (by simp), r⟩⟩
def catO (xs ys : List α) : Option (List α) := if xs.length + ys.length ≤ 1000000 then some (xs ++ ys) else none
def repO (xs : List α) (n : Int) : Option (List α) := if xs.length * n.toNat ≤ 1000000 ∧ n < 2 ^ 40 ∧ -(2 ^ 40) < n then some (List.replicate n.toNat xs).flatten else none
theorem jn_cat {L L' : List α → Asn} {E : α → Asn} [rd : StL L E] [rd' : StL L' E] [pf : PerF E] {m n : Rs (List α)} (h1 : JN X W cl Γ a ta m L) (h2 : JN X W cl Γ b tb n L') :
    JN X W cl Γ (.BinOp a .Add b pos) (tOp rCat ta tb) (m.b fun x => n.b fun y => opt (catO x y)) (oA E) :=
  JN.bin (C := oA E) (f := catO) h1 h2 (fun p q => pe_op op_cat p q) fun xs ys v w F h1 h2 H R Q c e u p q k => by
    obtain ⟨a, vs, h', rfl, sq, lh, sp⟩ := rd.st _ _ _ _ p
    obtain ⟨b, ws, h'', rfl, sq2, lh2, sp2⟩ := rd'.st _ _ _ _ q
    have eh := sp.empE
    have eh2 := sp2.empE
    subst eh eh2
    have el : xs.length = vs.length := by have := sp.len; rwa [List.length_map] at this
    have el2 : ys.length = ws.length := by have := sp2.len; rwa [List.length_map] at this
    unfold catO at e
    by_cases hz : xs.length + ys.length ≤ 1000000
    case neg => rw [if_neg hz] at e; cases e
    rw [if_pos hz] at e; cases e
    refine ⟨a, b, vs, ws, rfl, rfl, sq H (u.le (by simp)) (u.le (by simp)), sq2 H (u.le (by simp)) (u.le (by simp)), Nat.le_of_lt (Nat.lt_of_le_of_lt (by omega) line6), fun p hp => ?_⟩
    obtain ⟨F2, l1, _, u2⟩ := u.leak
    obtain ⟨F3, l3, _, u3⟩ := u2.leak
    refine k _ F3 (one p (.lst (vs ++ ws))) _ (l1.tr l3) ((u3.alloc hp).swap) ⟨p, _, emp, rfl, .r_emp, ?_⟩
    rw [List.map_append]
    exact Sep.append (sp.mono (l1.tr l3)) (sp2.mono (l1.tr l3)) .l_emp
theorem sep_rep {F : Hp} {E : α → Asn} {xs : List α} {vs : List V} (sp : Sep (xs.map E) vs F emp) : ∀ n : Nat, Sep (((List.replicate n xs).flatten).map E) ((List.replicate n vs).flatten) F emp
  | 0 => rfl
  | n + 1 => by
    rw [List.replicate_succ, List.replicate_succ, List.flatten_cons, List.flatten_cons, List.map_append]
    exact Sep.append sp (sep_rep sp n) .l_emp
theorem jn_rep {L : List α → Asn} {E : α → Asn} [rd : StL L E] [pf : PerF E] {m : Rs (List α)} {n : Rs Int} (h1 : JN X W cl Γ a ta m L) (h2 : JN X W cl Γ b tb n aI) :
    JN X W cl Γ (.BinOp a .Mult b pos) (tOp rRep ta tb) (m.b fun x => n.b fun y => opt (repO x y)) (oA E) :=
  JN.bin (C := oA E) (f := repO) h1 h2 (fun p q => pe_op op_rep p q) fun xs y v w F h1 h2 H R Q c e u p q k => by
    obtain ⟨a, vs, h', rfl, sq, lh, sp⟩ := rd.st _ _ _ _ p
    obtain ⟨rfl, eh2⟩ := q
    have eh := sp.empE
    subst eh eh2
    have el : xs.length = vs.length := by have := sp.len; rwa [List.length_map] at this
    unfold repO at e
    by_cases hz : xs.length * y.toNat ≤ 1000000 ∧ y < 2 ^ 40 ∧ -(2 ^ 40) < y
    case neg => rw [if_neg hz] at e; cases e
    rw [if_pos hz] at e; cases e
    refine ⟨a, y, vs, rfl, rfl, sq H (u.le (by simp)) (u.le (by simp)), by omega, by omega, by rw [← el]; exact Nat.le_of_lt (Nat.lt_of_le_of_lt hz.1 line6), fun p hp => ?_⟩
    obtain ⟨F2, l1, _, u2⟩ := u.leak
    obtain ⟨F3, l3, _, u3⟩ := u2.leak
    exact k _ F3 (one p (.lst _)) _ (l1.tr l3) ((u3.alloc hp).swap) ⟨p, _, emp, rfl, .r_emp, sep_rep (sp.mono (l1.tr l3)) _⟩
end
end Br
namespace Br
open PySem PySem.Spec L2
variable [tgi : Tbs]

theorem not_aV {v : V} : NoT (aV v) := fun _ _ _ _ _ q => q
instance : NuF aI := ⟨fun _ => not_aV⟩
instance : NuF aB := ⟨fun _ => not_aV⟩
instance : NuF aS := ⟨fun _ => not_aV⟩
instance : NuF aU := ⟨fun _ => not_aV⟩
theorem Sep.not {F F' : Hp} (g : ∀ a t, F a = some (.tup t) → F' a = some (.tup t)) : ∀ {As : List Asn} {vs : List V} {h : Hp}, (∀ A ∈ As, NoT A) → Sep As vs F h → Sep As vs F' h
  | [], [], _, _, q => q
  | A :: As, v :: vs, _, k, ⟨h1, h2, t, p, r⟩ => ⟨h1, h2, t, k A List.mem_cons_self _ _ _ _ g p, Sep.not g (fun B m => k B (List.mem_cons_of_mem _ m)) r⟩
theorem not_oL {As : List Asn} (k : ∀ A ∈ As, NoT A) : NoT (oL As) := fun _ _ _ _ g ⟨a, vs, h', e1, t, r⟩ => ⟨a, vs, h', e1, t, r.not g k⟩
theorem not_oT {As : List Asn} (k : ∀ A ∈ As, NoT A) : NoT (oT As) := fun _ _ _ _ g ⟨a, vs, e1, t, r⟩ => ⟨a, vs, e1, g _ _ t, r.not g k⟩
theorem not_aT {As : List Asn} (k : ∀ A ∈ As, NoT A) : NoT (aT As) := fun _ _ _ _ g ⟨e, a, vs, e1, t, r⟩ => ⟨e, a, vs, e1, g _ _ t, r.not g k⟩
section
variable {α β γ δ : Type}
theorem nt_per {A : α → Asn} [p : PerF A] : ∀ x v F h, (A x).p v F h → ∀ a t, h a ≠ some (.tup t) := fun x v F h q a t => by
  rw [p.per _ _ _ _ q]; intro z; cases z
instance (priority := low) {A : α → Asn} [p : PerF A] : NtF A := ⟨nt_per⟩
theorem Sep.ntp {F : Hp} : ∀ {As : List Asn} {vs : List V} {h : Hp}, (∀ A ∈ As, ∀ v F h, A.p v F h → ∀ a t, h a ≠ some (.tup t)) → Sep As vs F h → ∀ a t, h a ≠ some (.tup t)
  | [], [], _, _, q => fun a t => by rw [show _ = emp from q]; intro z; cases z
  | A :: As, v :: vs, h, k, ⟨h1, h2, t, p, r⟩ => fun a u e => by
    obtain ⟨x, m, q⟩ := (t.2 a _).mp e
    rcases List.mem_cons.mp m with rfl | m
    · exact k A List.mem_cons_self _ _ _ p a u q
    · rw [List.mem_singleton.mp m] at q
      exact Sep.ntp (fun B m => k B (List.mem_cons_of_mem _ m)) r a u q
theorem nt_oL {As : List Asn} (k : ∀ A ∈ As, ∀ v F h, A.p v F h → ∀ a t, h a ≠ some (.tup t)) : ∀ v F h, (oL As).p v F h → ∀ a t, h a ≠ some (.tup t) := fun v F h ⟨a, vs, h', e1, t, r⟩ b u e => by
  obtain ⟨x, m, q⟩ := (t.2 b _).mp e
  rcases List.mem_cons.mp m with rfl | m
  · cases (one_some q).2
  · rw [List.mem_singleton.mp m] at q
    exact r.ntp k b u q
instance {A : α → Asn} [p : NtF A] : NtF (oA A) := ⟨fun xs => nt_oL fun B m => by
  obtain ⟨x, _, e⟩ := List.mem_map.mp m
  exact e ▸ p.nt x⟩
instance {A : α → Asn} [p : NuF A] : NuF (oA A) := ⟨fun xs => not_oL fun B m => by
  obtain ⟨x, _, e⟩ := List.mem_map.mp m
  exact e ▸ p.nu x⟩
theorem not_aO {A : α → Asn} (p : ∀ x, NoT (A x)) : ∀ o, NoT (aO A o)
  | none => not_aV
  | some x => p x
instance {A : α → Asn} [p : NuF A] : NuF (aO A) := ⟨not_aO p.nu⟩
theorem all2 {P : Asn → Prop} {A B : Asn} (a : P A) (b : P B) : ∀ C ∈ [A, B], P C := fun C m => by
  rcases List.mem_cons.mp m with e | m
  · exact e ▸ a
  · rw [List.mem_singleton.mp m]; exact b
theorem all3 {P : Asn → Prop} {A B D : Asn} (a : P A) (b : P B) (d : P D) : ∀ C ∈ [A, B, D], P C := fun C m => by
  rcases List.mem_cons.mp m with e | m
  · exact e ▸ a
  · exact all2 b d C m
theorem all4 {P : Asn → Prop} {A B D E : Asn} (a : P A) (b : P B) (d : P D) (f : P E) : ∀ C ∈ [A, B, D, E], P C := fun C m => by
  rcases List.mem_cons.mp m with e | m
  · exact e ▸ a
  · exact all3 b d f C m
instance {A : α → Asn} {B : β → Asn} [p : NuF A] [q : NuF B] : NuF (t2 A B) := ⟨fun x => not_aT (all2 (p.nu _) (q.nu _))⟩
instance {A : α → Asn} {B : β → Asn} [p : NuF A] [q : NuF B] : NuF (o2 A B) := ⟨fun x => not_oT (all2 (p.nu _) (q.nu _))⟩
def t1 (A : α → Asn) (x : α) : Asn := aT [A x]
def o1 (A : α → Asn) (x : α) : Asn := oT [A x]
def t3 (A : α → Asn) (B : β → Asn) (C : γ → Asn) (x : α × β × γ) : Asn := aT [A x.1, B x.2.1, C x.2.2]
def o3 (A : α → Asn) (B : β → Asn) (C : γ → Asn) (x : α × β × γ) : Asn := oT [A x.1, B x.2.1, C x.2.2]
def t4 (A : α → Asn) (B : β → Asn) (C : γ → Asn) (D : δ → Asn) (x : α × β × γ × δ) : Asn := aT [A x.1, B x.2.1, C x.2.2.1, D x.2.2.2]
def o4 (A : α → Asn) (B : β → Asn) (C : γ → Asn) (D : δ → Asn) (x : α × β × γ × δ) : Asn := oT [A x.1, B x.2.1, C x.2.2.1, D x.2.2.2]
variable {A A' : α → Asn} {B B' : β → Asn} {C C' : γ → Asn} {D D' : δ → Asn}
instance : PerF (t1 A) := ⟨fun _ => aT_per⟩
instance : PerF (t3 A B C) := ⟨fun _ => aT_per⟩
instance : PerF (t4 A B C D) := ⟨fun _ => aT_per⟩
instance [f : FrzF A A'] : FrzF (o1 A) (t1 A') := ⟨fun x => frz_oT (.cons (f.frz _) .nil)⟩
instance [f : FrzF A A'] [g : FrzF B B'] [h : FrzF C C'] : FrzF (o3 A B C) (t3 A' B' C') := ⟨fun x => frz_oT (.cons (f.frz _) (.cons (g.frz _) (.cons (h.frz _) .nil)))⟩
instance [f : FrzF A A'] [g : FrzF B B'] [h : FrzF C C'] [i : FrzF D D'] : FrzF (o4 A B C D) (t4 A' B' C' D') := ⟨fun x => frz_oT (.cons (f.frz _) (.cons (g.frz _) (.cons (h.frz _) (.cons (i.frz _) .nil))))⟩
instance : FrzF (t1 A) (t1 A) := ⟨fun _ => .per aT_per⟩
instance : FrzF (t3 A B C) (t3 A B C) := ⟨fun _ => .per aT_per⟩
instance : FrzF (t4 A B C D) (t4 A B C D) := ⟨fun _ => .per aT_per⟩
/-- no own thing holds a tuple as its own -/
def NtA (A : Asn) : Prop := ∀ v F h, A.p v F h → ∀ a t, h a ≠ some (.tup t)
theorem nt_oT {As : List Asn} (k : ∀ A ∈ As, NtA A) : NtA (oT As) := fun v F h ⟨a, vs, e1, t, r⟩ => r.ntp k
instance [p : NtF A] : NtF (o1 A) := ⟨fun x => nt_oT fun B m => by rw [List.mem_singleton.mp m]; exact p.nt _⟩
instance [p : NtF A] [q : NtF B] : NtF (o2 A B) := ⟨fun x => nt_oT (all2 (P := NtA) (p.nt _) (q.nt _))⟩
instance [p : NtF A] [q : NtF B] [r : NtF C] : NtF (o3 A B C) := ⟨fun x => nt_oT (all3 (P := NtA) (p.nt _) (q.nt _) (r.nt _))⟩
instance [p : NtF A] [q : NtF B] [r : NtF C] [s : NtF D] : NtF (o4 A B C D) := ⟨fun x => nt_oT (all4 (P := NtA) (p.nt _) (q.nt _) (r.nt _) (s.nt _))⟩
instance [p : NtF A] : NtF (aO A) := ⟨fun x v F h q => match x, q with
  | none, q => fun a t => by rw [q.2]; intro z; cases z
  | some x, q => p.nt x v F h q⟩
instance [p : NuF A] [q : NuF B] [r : NuF C] : NuF (t3 A B C) := ⟨fun x => not_aT (all3 (p.nu _) (q.nu _) (r.nu _))⟩
instance [p : NuF A] [q : NuF B] [r : NuF C] : NuF (o3 A B C) := ⟨fun x => not_oT (all3 (p.nu _) (q.nu _) (r.nu _))⟩
instance [p : NuF A] [q : NuF B] [r : NuF C] [s : NuF D] : NuF (t4 A B C D) := ⟨fun x => not_aT (all4 (p.nu _) (q.nu _) (r.nu _) (s.nu _))⟩
instance [p : NuF A] [q : NuF B] [r : NuF C] [s : NuF D] : NuF (o4 A B C D) := ⟨fun x => not_oT (all4 (p.nu _) (q.nu _) (r.nu _) (s.nu _))⟩
theorem rd_aT {Es : List Asn} : ∀ v F h, (aT Es).p v F h → ∃ a vs h', v = .ref a ∧ (∀ H, Le F H → Le h H → H a = some (.tup vs)) ∧ Le h' h ∧ Sep Es vs F h' := fun v F h ⟨e, a, vs, e1, s, r⟩ => ⟨a, vs, emp, e1, fun H l _ => l _ _ s, emp_le, r⟩
theorem rd_oT {Es : List Asn} : ∀ v F h, (oT Es).p v F h → ∃ a vs h', v = .ref a ∧ (∀ H, Le F H → Le h H → H a = some (.tup vs)) ∧ Le h' h ∧ Sep Es vs F h' := fun v F h ⟨a, vs, e1, t, r⟩ => ⟨a, vs, h, e1, fun H l _ => l _ _ t, .rfl, r⟩
instance : RdT (t1 A) (fun x => [A x]) := ⟨fun x => rd_aT⟩
instance : RdT (o1 A) (fun x => [A x]) := ⟨fun x => rd_oT⟩
instance : RdT (t3 A B C) (fun x => [A x.1, B x.2.1, C x.2.2]) := ⟨fun x => rd_aT⟩
instance : RdT (o3 A B C) (fun x => [A x.1, B x.2.1, C x.2.2]) := ⟨fun x => rd_oT⟩
instance : RdT (t4 A B C D) (fun x => [A x.1, B x.2.1, C x.2.2.1, D x.2.2.2]) := ⟨fun x => rd_aT⟩
instance : RdT (o4 A B C D) (fun x => [A x.1, B x.2.1, C x.2.2.1, D x.2.2.2]) := ⟨fun x => rd_oT⟩
instance : NnF (t3 A B C) := ⟨fun _ _ _ ⟨_, _, _, e, _⟩ => nomatch e⟩
instance : NnF (o3 A B C) := ⟨fun _ _ _ ⟨_, _, e, _⟩ => nomatch e⟩
instance : NnF (t4 A B C D) := ⟨fun _ _ _ ⟨_, _, _, e, _⟩ => nomatch e⟩
instance : NnF (o4 A B C D) := ⟨fun _ _ _ ⟨_, _, e, _⟩ => nomatch e⟩
end
/-- v stands within h (of v0) for A a0, and may be changed there -/
def Lns {α : Type} (S : α → Asn) (A : α → Asn) (a0 : α) (v0 v : V) (h : Hp) (F : Hp) : Prop :=
  ∃ hp hc, Pt [hp, hc] h ∧ (A a0).p v F hp ∧ ∀ y F2 h2 h3, Le F F2 → (A y).p v F2 h2 → Pt [h2, hc] h3 → (S y).p v0 F2 h3
theorem Lns.mono {α : Type} {S A : α → Asn} {a0 : α} {v0 v : V} {h F F' : Hp} (l : Le F F') (q : Lns S A a0 v0 v h F) : Lns S A a0 v0 v h F' := by
  obtain ⟨hp, hc, t, p, k⟩ := q
  exact ⟨hp, hc, t, (A a0).mono l p, fun y F2 h2 h3 l2 => k y F2 h2 h3 (l.tr l2)⟩
structure JP {ι δ α : Type} (X : Cx) (W : WX) (cl : String → Addr) (Γ : Ctx) (i : Nat) (w : Option V) (S : δ → Asn) (d0 : δ) (e : Expr) (t : TE) (m : Rs ι) (A : α → Asn) (get : ι → α) (put : ι → α → δ) : Prop where
  pe : PE X e t
  hl : Γ[i]? = some (some (ow w (S d0)))
  run : ∀ (σ : L2.St) (F O H : Hp) (R : List Hp) (Q : VK), Pt (F :: O :: R) H → Slots Γ σ F O → ∀ v0 h0 O', σ[i]? = some (some v0) → Pt [h0, O'] O → (ow w (S d0)).p v0 F h0 →
    Out m (fun x => ∀ v F' H', Le F F' → Pt (F' :: O :: R) H' → Lns (fun y => ow w (S (put x y))) A (get x) v0 v h0 F' → Q v H') (fun c => ∀ F' H', Le F F' → Pt (F' :: O :: R) H' → W (.ref (cl c)) none σ H') → t σ H Q
section
variable {α β γ δ ι ρ B T S' : Type} {X : Cx} {W : WX} {cl : String → Addr} {Γ Γe : Ctx} {tg e a b c : Expr} {es : List Expr} {pos p : Pos} {ta tb : TE} {k : Nat} {S : δ → Asn} {d0 : δ} {i : Nat} {w : Option V}
theorem jp_slot (i : Nat) (w : Option V) (S : δ → Asn) {d0 : δ} {x : Str} (hl : Γ[i]? = some (some (ow w (S d0))) := by rfl) (hN : X.N[i]? = some x := by rfl) (hv : Vis X.env.scope x := by first | exact Or.inl rfl | exact Or.inr (Or.inl rfl) | exact Or.inr (Or.inr rfl))
    (hd : (x == ("__debug__" : Str)) = false := by decide) (hcd : (x == ("__classdict__" : Str)) = false := by decide) : JP X W cl Γ i w S d0 (.Name x pos) (tVar i) (.ok ()) S (fun _ => d0) (fun _ y => y) :=
  ⟨pe_var hN hv hd hcd, hl, fun σ F O H R Q u s v0 h0 O' e0 t p q => ⟨v0, e0, q v0 F H .rfl u ⟨h0, emp, .r_emp, ow_of p, fun y F2 h2 h3 l r t3 => by
    rw [t3.emp_r]; exact ow_to p r⟩⟩⟩
/-- the n-th one taken out, and one put there instead -/
theorem Sep.focus {F : Hp} {E : α → Asn} : ∀ {xs : List α} {vs : List V} {h : Hp} {n : Nat} {x : α}, Sep (xs.map E) vs F h → xs[n]? = some x → ∃ v hp hc, vs[n]? = some v ∧ Pt [hp, hc] h ∧ (E x).p v F hp ∧ ∀ y F2 h2 h3, Le F F2 → (E y).p v F2 h2 → Pt [h2, hc] h3 → Sep ((xs.set n y).map E) vs F2 h3
  | x :: xs, v :: vs, _, 0, _, ⟨h1, h2, t, p, r⟩, e => by
    simp at e; subst e
    exact ⟨v, h1, h2, rfl, t, p, fun y F2 g g3 l q u => ⟨g, h2, u, q, Sep.mono l r⟩⟩
  | x :: xs, v :: vs, _, n + 1, z, ⟨h1, h2, t, p, r⟩, e => by
    obtain ⟨u, hp, hc, ev, t2, p2, k⟩ := Sep.focus (n := n) r (by simpa using e)
    -- [h1, h2] h, [hp, hc] h2
    have w : Pt [hp, hc, h1] _ := (t.swap).unfold t2
    obtain ⟨d, j, z2⟩ := (w.perm (l' := [hc, h1, hp]) (List.perm_append_comm (l₁ := [hp]) (l₂ := [hc, h1]))).join2
    refine ⟨u, hp, d, by simpa using ev, z2.swap, p2, fun y F2 g g3 l q t3 => ?_⟩
    -- [g, d] g3, [hc, h1] d
    have w2 : Pt [hc, h1, g] g3 := (t3.swap).unfold j
    obtain ⟨m, j2, z3⟩ := (w2.perm (l' := [g, hc, h1]) (List.perm_append_comm (l₁ := [hc, h1]) (l₂ := [g]))).join2
    exact ⟨h1, m, z3.swap, E x |>.mono l p, k y F2 g m l q j2⟩
  | [], [], _, _, _, _, e => by simp at e
def ixR (xs : List α) (j : Int) : Rs (Nat × α) := match ixN xs.length j with
  | some n => (match xs[n]? with
    | some x => .ok (n, x)
    | none => .no)
  | none => .no
/-- e[j], e a place that is a list -/
theorem jp_ix {K0 : PySem.W.Frag} {A : α → Asn} {m : Rs ι} {n : Rs Int} {get : ι → List α} {put : ι → List α → δ} (h1 : JP X W cl Γ i w S d0 a ta m (oA A) get put) (h2 : JN X W cl Γ b tb n aI) (hs : PlainIx b := by intro _ _; rfl) (hK : X.K = K0 := by rfl) :
    JP X W cl Γ i w S d0 (.Subscript a b pos) (tOp (rIxL K0) ta tb) (m.b fun x => n.b fun j => (ixR (get x) j).b fun nz => .ok (x, nz)) A (fun x => x.2.2) (fun x y => put x.1 ((get x.1).set x.2.1 y)) := by
  subst hK
  obtain ⟨pa, hl, ka⟩ := h1
  obtain ⟨pb, kb⟩ := h2
  refine ⟨pe_ix ix_list pa pb hs, hl, fun σ F O H R Q u s v0 h0 O' e0 t p q => ka σ F O H R _ u s v0 h0 O' e0 t p (q.bind.mono (fun x _ q v F1 H1 l1 u1 ln => ?_) fun c q => q)⟩
  refine kb σ F1 O H1 R _ u1 (s.mono l1) (q.bind.mono (fun j _ q z F2 g2 H2 l2 u2 p2 => ?_) fun c q F' H' l' u' => q F' H' (l1.tr l') u')
  obtain ⟨rfl, rfl⟩ := p2
  have u3 := pt_skip u2 rfl
  replace q := q.bind
  unfold ixR at q
  obtain ⟨hp, hc, tt, ⟨ad, vs, h', rfl, t2, sp⟩, kk⟩ := ln.mono l2
  have el : (get x).length = vs.length := by have := sp.len; rwa [List.length_map] at this
  cases ej : ixN (get x).length j with
  | none => rw [ej] at q; exact q.elim
  | some nn =>
    rw [ej] at q
    cases ex : (get x)[nn]? with
    | none => simp only [ex] at q; exact q.elim
    | some y =>
      simp only [ex] at q
      obtain ⟨v, fp, fc, ev, tf, pf, kf⟩ := sp.focus ex
      have lO : Le h0 H2 := (t.le (by simp)).tr (u3.le (by simp))
      have hL : H2 ad = some (.lst vs) := lO _ _ ((tt.le (by simp) : Le hp h0) _ _ t2.at1)
      refine ⟨ad, vs, j, v, rfl, rfl, SqL.of hL, ?_, ?_⟩
      · unfold atI; rw [← el, ej]; exact ev
      · refine q v F2 H2 (l1.tr l2) u3 ?_
        -- h0 = hp + hc, hp = one + h', h' = fp + fc
        have w1 : Pt [one ad (.lst vs), h', hc] h0 := tt.unfold t2
        have w2 : Pt [fp, fc, one ad (.lst vs), hc] h0 := (w1.swap).unfold tf
        obtain ⟨c1, j1, w3⟩ := Pt.fold (l := [fc, one ad (.lst vs), hc]) (l' := [fp]) (w2.perm (List.perm_append_comm (l₁ := [fp]) (l₂ := [fc, one ad (.lst vs), hc]))) |> fun z => (⟨_, jnl_pt (w2.1.sublist (List.sublist_cons_self _ _)), z⟩ : ∃ c, Pt [fc, one ad (.lst vs), hc] c ∧ Pt [c, fp] h0)
        refine ⟨fp, c1, w3.swap, pf, fun y' F3 g g3 l3 pg tg => ?_⟩
        have w4 : Pt [fc, one ad (.lst vs), hc, g] g3 := (tg.swap).unfold j1
        have w5 : Pt [g, fc, one ad (.lst vs), hc] g3 := w4.perm (List.perm_append_comm (l₁ := [fc, one ad (.lst vs), hc]) (l₂ := [g]))
        obtain ⟨c2, j2, w6⟩ := w5.join2
        obtain ⟨c3, j3, w7⟩ := (w6.swap).join2
        exact kk _ F3 c3 g3 l3 ⟨ad, vs, c2, rfl, j3, kf y' F3 g c2 l3 pg j2⟩ w7
end
end Br
namespace Br
open PySem PySem.Spec L2
variable [tgi : Tbs]
section
variable {α β γ δ ι ρ B T S' : Type} {X : Cx} {W : WX} {cl : String → Addr} {Γ Γe : Ctx} {tg e a b c : Expr} {es : List Expr} {pos p : Pos} {ta tb : TE} {k : Nat} {S : δ → Asn} {d0 : δ} {i : Nat} {w : Option V}
theorem pt_rot3 {a b c : Hp} {l : List Hp} {H : Hp} (t : Pt (a :: b :: c :: l) H) : Pt (c :: a :: b :: l) H := t.perm (List.perm_append_comm (l₁ := [a, b]) (l₂ := [c]) |>.append_right l)
theorem pt_rot3' {a b c : Hp} {l : List Hp} {H : Hp} (t : Pt (a :: b :: c :: l) H) : Pt (b :: c :: a :: l) H := t.perm (List.perm_append_comm (l₁ := [a]) (l₂ := [b, c]) |>.append_right l)
theorem pt_rot4 {a b c d : Hp} {l : List Hp} {H : Hp} (t : Pt (a :: b :: c :: d :: l) H) : Pt (d :: a :: b :: c :: l) H := t.perm (List.perm_append_comm (l₁ := [a, b, c]) (l₂ := [d]) |>.append_right l)
/-- a list at a place: what stands there, and how it is put back -/
theorem plc_list {A : α → Asn} {xs : List α} {put : List α → δ} {v0 v : V} {h0 O' O F H : Hp} {σ : L2.St} {R : List Hp} (hl : Γ[i]? = some (some (ow w (S d0)))) (e0 : σ[i]? = some (some v0)) (t : Pt [h0, O'] O) (s' : Slots (Γ.set i none) σ F O')
    (ln : Lns (fun y => ow w (S (put y))) (oA A) xs v0 v h0 F) (u : Pt (F :: O :: R) H) :
    ∃ a vs h' hc, v = .ref a ∧ Sep (xs.map A) vs F h' ∧ xs.length = vs.length ∧ Pt (one a (.lst vs) :: h' :: hc :: O' :: F :: R) H ∧
      ∀ ys ws F3 h2 R3 H3, Le F F3 → Sep (ys.map A) ws F3 h2 → Pt (one a (.lst ws) :: h2 :: hc :: O' :: F3 :: R3) H3 → ∃ O3, Pt (F3 :: O3 :: R3) H3 ∧ Slots (Γ.set i (some (ow w (S (put ys))))) σ F3 O3 := by
  obtain ⟨hp, hc, tt, ⟨a, vs, h', rfl, t2, sp⟩, kk⟩ := ln
  have el : xs.length = vs.length := by have := sp.len; rwa [List.length_map] at this
  refine ⟨a, vs, h', hc, rfl, sp, el, ?_, fun ys ws F3 h2 R3 H3 l3 sp3 u3 => ?_⟩
  · have w1 : Pt (h0 :: O' :: F :: R) H := (u.swap).split2 t
    have w2 : Pt (hp :: hc :: O' :: F :: R) H := w1.split2 tt
    exact w2.split2 t2
  · obtain ⟨c1, j1, w1⟩ := u3.join2
    obtain ⟨c2, j2, w2⟩ := w1.join2
    obtain ⟨c3, j3, w3⟩ := w2.join2
    refine ⟨c3, w3.swap, ?_⟩
    have pz := kk ys F3 c1 c2 l3 ⟨a, ws, h2, rfl, j1, sp3⟩ j2
    have := (s'.mono l3).put' (set_none_at hl) e0 pz j3
    rw [set_set] at this
    exact this
theorem jp_place {A : α → Asn} {t : TE} {m : Rs ι} {get : ι → α} {put : ι → α → δ} (h : JP X W cl Γ i w S d0 e t m A get put) {σ : L2.St} {F O H : Hp} {R : List Hp} {Q : VK} (u : Pt (F :: O :: R) H) (s : Slots Γ σ F O)
    (q : Out m (fun x => ∀ v v0 h0 O' F' H', Le F F' → Pt (F' :: O :: R) H' → σ[i]? = some (some v0) → Pt [h0, O'] O → Slots (Γ.set i none) σ F' O' → Lns (fun y => ow w (S (put x y))) A (get x) v0 v h0 F' → Q v H') (fun c => ∀ F' H', Le F F' → Pt (F' :: O :: R) H' → W (.ref (cl c)) none σ H')) : t σ H Q := by
  obtain ⟨x, h0, O', e0, t0, ⟨v0, rfl, p0⟩, s'⟩ := s.take h.hl
  exact h.run σ F O H R Q u s v0 h0 O' e0 t0 p0 (q.mono (fun x _ q v F' H' l u' ln => q v v0 h0 O' F' H' l u' e0 t0 (s'.mono l) ln) fun c q => q)
/-- what may be put into a list whose elements are by A -/
theorem jl_app {K0 : PySem.W.Frag} {A : α → Asn} {m : Rs ι} {n : Rs α} {get : ι → List α} {put : ι → List α → δ} {apos cpos : Pos} (we : Wk Γ Γe) (h : JP X W cl Γ i w S d0 a ta m (oA A) get put) (h2 : JN X W cl Γ e tb n A)
    (hbase : attributeBase a "append" X.env (eval a X.env) = eval a X.env := by rfl)
    (hfew : ((backTo cpos (starEach [e] X.env)).all (fun x => !x.1) && (backToKw cpos (keywordEach [] X.env)).all (fun x => x.1.isSome) && decide ([e].length + ([] : List Keyword).length + (if ([] : List Keyword).isEmpty then 0 else 1) < 30)) = true := by rfl)
    (hline : (apos.endLine == cpos.line) = true := by rfl) (hs : starEach [e] X.env = (false, eval e X.env) :: starEach [] X.env := by rfl) (hplain : (backTo cpos (starEach [] X.env)).any (·.1) = false := by rfl)
    (hsw : swapsWith (.Call (.Attribute a "append" apos) [e] [] cpos) none pos.line X.env = pure false := by rfl) (hK : X.K = K0 := by rfl) :
    JL X W cl Γ (.Expr (.Call (.Attribute a "append" apos) [e] [] cpos) pos) (tDrop (tBM K0 "list" rAppend ta (tCons tb tNil))) (m.b fun x => n.b fun y => (appM (get x) y).b fun zs => .ok (put x zs)) (fun d => Γ.set i (some (ow w (S d)))) Γe := by
  subst hK
  have hl := h.hl
  refine ⟨ps_expr (pe_bm PySem.F.plainAttrs_list PySem.F.slot_list_append PySem.F.type_list_append mt_append h.pe (pa_cons h2.pe pa_nil hs) hbase hfew hline hs hplain) hsw, fun σ F O H R D u s q => ?_⟩
  refine jp_place h u s (q.bind.mono (fun x _ q v v0 h0 O' F1 H1 l1 u1 e0 t0 s1 ln => ?_) fun c q F' H' l' u' => ?_)
  · obtain ⟨ad, vs, h', hc, rfl, sp, el, w1, _⟩ := plc_list hl e0 t0 s1 ln u1
    refine ⟨.inl ⟨rfl, vs, SqL.of w1.at1⟩, ?_⟩
    refine h2.run σ F1 O H1 R _ u1 (s.mono l1) (q.bind.mono (fun y _ q z F2 g H2 l2 u2 p2 => ?_) fun c q F' H' l' u' => ?_)
    · replace q := q.bind
      unfold appM at q
      by_cases hz : (get x).length ≤ 1000000
      case neg => rw [if_neg hz] at q; exact q.elim
      rw [if_pos hz] at q
      obtain ⟨ad2, vs2, h2', hc2, e2, sp2, el2, w2, back⟩ := plc_list hl e0 t0 (s1.mono l2) (ln.mono l2) u2
      cases e2
      refine ⟨ad, vs2, z, rfl, rfl, w2.at1, Nat.lt_of_le_of_lt (by omega) line6, ?_⟩
      -- one :: h2' :: hc2 :: O' :: F2 :: g :: R
      have w3 : Pt (one ad (.lst (vs2 ++ [z])) :: h2' :: hc2 :: O' :: F2 :: g :: R) _ := w2.write
      have w4 : Pt (h2' :: g :: one ad (.lst (vs2 ++ [z])) :: hc2 :: O' :: F2 :: R) _ := w3.perm (by
        refine List.Perm.trans (.swap _ _ _) (.cons _ ?_)
        exact (List.perm_append_comm (l₁ := [one ad (.lst (vs2 ++ [z])), hc2, O', F2]) (l₂ := [g])).append_right R)
      obtain ⟨c1, j1, w5⟩ := w4.join2
      obtain ⟨O3, w6, s3⟩ := back (get x ++ [y]) (vs2 ++ [z]) F2 c1 R _ .rfl (by rw [List.map_append]; exact Sep.append sp2 (Sep.sing p2) j1) w5.swap
      exact q σ F2 O3 _ (l1.tr l2) w6 s3
    · obtain ⟨F2, O2, l2, u2, s2⟩ := we.slots (s.mono (l1.tr l')) u'
      exact q σ F2 O2 H' (l1.tr (l'.tr l2)) u2 s2
  · obtain ⟨F2, O2, l2, u2, s2⟩ := we.slots (s.mono l') u'
    exact q σ F2 O2 H' (l'.tr l2) u2 s2
/-- e[j] = y at a place -/
theorem jl_put {A : α → Asn} {m : Rs ι} {n : Rs α} {o : Rs Int} {get : ι → List α} {put : ι → List α → δ} {apos : Pos} {ie : Expr} {tc : TE} (we : Wk Γ Γe) (hv : JN X W cl Γ e tb n A) (h : JP X W cl Γ i w S d0 a ta m (oA A) get put) (h2 : JN X W cl Γ ie tc o aI)
    (ha : ∀ v, assign (.Subscript a ie apos) X.env v = (do
      let ov ← holding [v] (eval a X.env)
      let iv ← holding [v, ov] (eval ie X.env)
      standAt apos
      holding [v, ov, iv] (setItem ov iv v)
      release [v, ov, iv] []) := by intro _; rfl)
    (hs : swapsWithSole [.Subscript a ie apos] e pos.line X.env = pure false := by rfl) (hw : swappedStores [.Subscript a ie apos] e X.env = pure none := by rfl)
    (h1 : (assignEach [.Subscript a ie apos] X.env).map (·.2) = [assign (.Subscript a ie apos) X.env] := by rfl) [pf : PerF A] :
    JL X W cl Γ (.Assign [.Subscript a ie apos] e pos) (tAsg tb (gSub ta tc rSetL)) (n.b fun y => m.b fun x => o.b fun j => (setM (get x) j y).b fun zs => .ok (put x zs)) (fun d => Γ.set i (some (ow w (S d)))) Γe := by
  have hl := h.hl
  refine ⟨ps_asg hv.pe (pg_sub h.pe h2.pe set_list ha) hs hw h1, fun σ F O H R D u s q => ?_⟩
  refine hv.run σ F O H R _ u s (q.bind.mono (fun y _ q z F1 g H1 l1 u1 p1 => ?_) fun c q F' H' l' u' => ?_)
  · have eg := pf.per _ _ _ _ p1
    subst eg
    have u1' := pt_skip u1 rfl
    refine jp_place h u1' (s.mono l1) (q.bind.mono (fun x _ q v v0 h0 O' F2 H2 l2 u2 e0 t0 s2 ln => ?_) fun c q F' H' l' u' => ?_)
    · refine h2.run σ F2 O H2 R _ u2 (s.mono (l1.tr l2)) (q.bind.mono (fun j _ q jv F3 g3 H3 l3 u3 p3 => ?_) fun c q F' H' l' u' => ?_)
      · obtain ⟨rfl, rfl⟩ := p3
        replace q := q.bind
        obtain ⟨ad, vs, h', hc, rfl, sp, el, w2, back⟩ := plc_list hl e0 t0 (s2.mono l3) (ln.mono l3) (pt_skip u3 rfl)
        unfold setM at q
        cases ej : ixN (get x).length j with
        | none => rw [ej] at q; exact q.elim
        | some nn =>
          rw [ej] at q
          refine ⟨ad, vs, j, nn, rfl, rfl, w2.at1, by rw [← el]; exact ej, ?_⟩
          have eh := sp.empE
          subst eh
          obtain ⟨O3, w6, s3⟩ := back ((get x).set nn y) (vs.set nn z) F3 emp R _ .rfl (Sep.setE (H := emp) sp ((A y).mono (l2.tr l3) p1)) w2.write
          exact q σ F3 O3 _ (l1.tr (l2.tr l3)) w6 s3
      · obtain ⟨F2, O2, l4, u4, s4⟩ := we.slots (s.mono (l1.tr (l2.tr l'))) u'
        exact q σ F2 O2 H' (l1.tr (l2.tr (l'.tr l4))) u4 s4
    · obtain ⟨F2, O2, l2, u2, s2⟩ := we.slots (s.mono (l1.tr l')) u'
      exact q σ F2 O2 H' (l1.tr (l'.tr l2)) u2 s2
  · obtain ⟨F2, O2, l2, u2, s2⟩ := we.slots (s.mono l') u'
    exact q σ F2 O2 H' (l'.tr l2) u2 s2
end
end Br
namespace Br
open PySem PySem.Spec L2 PyProof.Rows
variable [tgi : Tbs]

/-- the n-th part ahead -/
def mvL (n : Nat) (l : List Hp) : List Hp := match l.drop n with
  | x :: r => x :: (l.take n ++ r)
  | [] => l
theorem mvL_perm (n : Nat) (l : List Hp) : l.Perm (mvL n l) := by
  unfold mvL
  split
  · rename_i x r e
    have : l = l.take n ++ x :: r := by rw [← e, List.take_append_drop]
    rw (occs := [1]) [this]
    exact List.perm_middle
  · exact .refl _
theorem Pt.mv {l : List Hp} {H : Hp} (n : Nat) (t : Pt l H) : Pt (mvL n l) H := t.perm (mvL_perm n l)
abbrev Fds := List (Str × Asn)
def nmz : Fds → List V → List (Str × V)
  | (f, _) :: l, v :: vs => (f, v) :: nmz l vs
  | _, _ => []
def asl : Fds → List Asn
  | (_, A) :: l => A :: asl l
  | [] => []
def oCs (C : Addr) (l : Fds) : Asn := ⟨fun v F h => ∃ a dx vs h', v = .ref a ∧ Pt [one a (.ins C dx (nmz l vs)), one dx (.own a), h'] h ∧ Sep (asl l) vs F h', by
  intro v F F' h le q
  obtain ⟨a, dx, vs, h', e, t, s⟩ := q
  exact ⟨a, dx, vs, h', e, t, s.mono le⟩, fun ⟨a, dx, vs, h', e, t, s⟩ => t.cl fun g m => by
    rcases List.mem_cons.mp m with rfl | m
    · exact cl_one
    rcases List.mem_cons.mp m with rfl | m
    · exact cl_one
    rcases List.mem_cons.mp m with rfl | m
    · exact s.cl
    · cases m⟩
def aCs (C : Addr) (l : Fds) : Asn := ⟨fun v F h => h = emp ∧ ∃ a dx vs, v = .ref a ∧ F a = some (.ins C dx (nmz l vs)) ∧ Sep (asl l) vs F emp, by
  intro v F F' h le q
  obtain ⟨z, a, dx, vs, e, t, s⟩ := q
  exact ⟨z, a, dx, vs, e, le _ _ t, s.mono le⟩, fun q => q.1 ▸ cl_emp⟩
theorem aCs_per {C : Addr} {l : Fds} : Per (aCs C l) := fun _ _ _ q => q.1
inductive FrzC : Fds → Fds → Prop
  | nil : FrzC [] []
  | cons {f A B l l'} : Frz A B → FrzC l l' → FrzC ((f, A) :: l) ((f, B) :: l')
theorem FrzC.names : ∀ {l l' : Fds} {vs : List V}, FrzC l l' → nmz l vs = nmz l' vs
  | _, _, [], .nil => rfl
  | _, _, _ :: _, .nil => rfl
  | _, _, [], .cons _ r => rfl
  | _, _, v :: vs, .cons _ r => congrArg (_ :: ·) r.names
theorem FrzC.asns : ∀ {l l' : Fds}, FrzC l l' → FrzL (asl l) (asl l')
  | _, _, .nil => .nil
  | _, _, .cons f r => .cons f r.asns
theorem frz_oCs {C : Addr} {l l' : Fds} (f : FrzC l l') : Frz (oCs C l) (aCs C l') := fun v F h F' ⟨a, dx, vs, h', e, t, s⟩ le lh =>
  ⟨rfl, a, dx, vs, e, by rw [← f.names]; exact lh _ _ (t.at1), s.frz f.asns le ((t.le (by simp)).tr lh)⟩
theorem Sep.look {F : Hp} {f : Str} {A : Asn} : ∀ {l : Fds} {vs : List V} {h : Hp}, Sep (asl l) vs F h → l.lookup f = some A → ∃ v h1 h2, (nmz l vs).lookup f = some v ∧ Pt [h1, h2] h ∧ A.p v F h1
  | (g, B) :: l, v :: vs, h, ⟨h1, h2, t, p, r⟩, e => by
    rw [List.lookup_cons] at e
    show ∃ w g1 g2, List.lookup f ((g, v) :: nmz l vs) = some w ∧ _
    rw [List.lookup_cons]
    by_cases q : (f == g) = true
    · simp only [q, if_true] at e ⊢
      cases e
      exact ⟨v, h1, h2, rfl, t, p⟩
    · simp only [q, if_false, Bool.false_eq_true] at e ⊢
      obtain ⟨w, g1, g2, e', t', p'⟩ := Sep.look r e
      have u : Pt [g1, g2, h1] _ := (t.swap).unfold t'
      obtain ⟨c, j, z⟩ := (u.perm (l' := [g2, h1, g1]) (List.perm_append_comm (l₁ := [g1]) (l₂ := [g2, h1]))).join2
      exact ⟨w, g1, c, e', z.swap, p'⟩
  | [], _, _, _, e => by cases e
section
variable {α β γ δ ι ρ B T S' : Type} {X : Cx} {W : WX} {cl : String → Addr} {Γ Γe : Ctx} {tg e a b c : Expr} {es : List Expr} {pos p : Pos} {ta tb : TE} {k j : Nat} {S : δ → Asn} {d0 : δ} {i : Nat} {w : Option V}
/-- e.f, e a frozen instance -/
theorem jn_fld {K0 : PySem.W.Frag} {f : Str} {fl : α → Fds} {C : Addr} {Bf : β → Asn} [pf : PerF Bf] (g : α → β) {m : Rs α} (c : Cls X.K C) (n : NoAttr X.K C f) (h : JN X W cl Γ e ta m (fun x => aCs C (fl x))) (hf : ∀ x, (fl x).lookup f = some (Bf (g x)) := by intro _; rfl) (hb : attributeBase e f X.env (eval e X.env) = eval e X.env := by rfl) (hK : X.K = K0 := by rfl) :
    JN X W cl Γ (.Attribute e f pos) (tFld K0 ta f) (m.b fun x => .ok (g x)) Bf := by
  subst hK
  obtain ⟨p, k⟩ := h
  refine ⟨pe_fld p hb, fun σ F O H R Q u s q => k σ F O H R _ u s (q.bind.mono (fun x _ q v F1 h1 H1 l1 u1 p1 => ?_) fun c q => q)⟩
  obtain ⟨e1, a, dx, vs, rfl, ea, sp⟩ := p1
  subst e1
  obtain ⟨v, g1, g2, ev, t, pv⟩ := sp.look (hf x)
  have eg := pf.per _ _ _ _ pv
  subst eg
  exact ⟨a, C, dx, _, v, rfl, (u1.le (by simp)) _ _ ea, c, n, ev, q v F1 emp H1 l1 u1 pv⟩
end
def ctxO (io : List Nat) (vf : Nat → V) : Nat → List Asn → Ctx
  | _, [] => []
  | k, A :: As => some (cond (io.contains k) (atv (vf k) A) A) :: ctxO io vf (k + 1) As
/-- slots js hold Bs at the places ws -/
inductive AtS : Ctx → List Nat → List V → List Asn → Prop
  | nil {Γ} : AtS Γ [] [] []
  | cons {Γ j js w ws B Bs} : Γ[j]? = some (some (atv w B)) → AtS (Γ.set j none) js ws Bs → AtS Γ (j :: js) (w :: ws) (B :: Bs)
theorem AtS.out {F : Hp} {σ : L2.St} : ∀ {Γ : Ctx} {js : List Nat} {ws : List V} {Bs : List Asn} {O : Hp}, AtS Γ js ws Bs → Slots Γ σ F O → ∃ h O', Pt [h, O'] O ∧ Sep Bs ws F h
  | Γ, _, _, _, O, .nil, s => ⟨emp, O, .l_emp, rfl⟩
  | Γ, j :: js, w :: ws, B :: Bs, O, .cons e r, s => by
    obtain ⟨x, h, O', e', t, ⟨v, rfl, p⟩, s'⟩ := s.take e
    obtain ⟨g, O2, t2, sp⟩ := r.out s'
    obtain ⟨rfl, pb⟩ := p
    have u : Pt [g, O2, h] O := (t.swap).unfold t2
    obtain ⟨c, jc, z⟩ := (u.perm (l' := [h, g, O2]) (List.perm_append_comm (l₁ := [g, O2]) (l₂ := [h]))).join2
    exact ⟨c, O2, z, h, g, jc, pb, sp⟩
theorem Sep.slotsO {F : Hp} (tgo : TgOk F) {io : List Nat} {vf : Nat → V} (n : Nat) : ∀ {As : List Asn} {vs : List V} {h : Hp} (k : Nat), Sep As vs F h → (∀ i v, vs[i]? = some v → vf (k + i) = v) → Slots (ctxO io vf k As ++ List.replicate n none) (vs.map some ++ List.replicate n none) F h
  | [], [], h, _, e, _ => Sep.slots tgo (As := []) (vs := []) n e
  | A :: As, v :: vs, h, k, ⟨h1, h2, t, p, r⟩, hv => by
    refine ⟨h1, h2, t, ⟨v, rfl, ?_⟩, Sep.slotsO tgo n (k + 1) r fun i w e => by rw [← hv (i + 1) w (by simpa using e)]; congr 1; omega⟩
    cases io.contains k with
    | true => exact ⟨(hv 0 v (by simp)).symm ▸ rfl, p⟩
    | false => exact p
def ats (vs : List V) (k : Nat) : V := vs.getD k .non
/-- what such a def promises -/
def FspO {ι ρ : Type} (cl : String → Addr) (io : List Nat) (As : ι → List Asn) (f : ι → Rs ρ) (C : ρ → Asn) (Os : ρ → List Asn) : Sp := fun vs H Q E =>
  ∃ i F h R, TgOk F ∧ Pt (F :: h :: R) H ∧ Sep (As i) vs F h ∧ Out (f i) (fun r => ∀ v F' h' H', Le F F' → Pt (F' :: h' :: R) H' → Sep (C r :: Os r) (v :: io.map (ats vs)) F' h' → Q v H') (fun c => ∀ F' H', Le F F' → Pt (F' :: R) H' → E (.ref (cl c)) none H')
section
variable {P : Program} {w : World} {K : PySem.W.Frag} {mg : Str → Option Value} {base : Heap} {cl : String → Addr} {ι ρ S B : Type}
abbrev FnRO (P : Program) (w : World) (K : PySem.W.Frag) (mg : Str → Option Value) (base : Heap) (cl : String → Addr) (k : Nat) (f : Addr) (fd : FuncData) (ps : List Str) (io : List Nat) (As : ι → List Asn) (m : ι → Rs ρ) (C : ρ → Asn) (Os : ρ → List Asn) : Prop :=
  FnOk P w K mg base (L2.CX P w) k f fd ps (FspO cl io As m C Os)
theorem fn_okO {x qual : Str} {st : Stmt} {f : Addr} {fd : FuncData} {N ps : List Str} {k : Nat} {io : List Nat} {As : ι → List Asn} {m : ι → Fl B ρ S} {C : ρ → Asn} {Os : ρ → List Asn} {d : S → ρ} {Γn : (Nat → V) → S → Ctx} {Γb : B → Ctx} (F : FnP K x qual st f fd) (S : FnScope N ps (defScope st))
    (len : ∀ i, (As i).length = ps.length) (hd : ∀ vf s, (∀ F, (C (d s)).p .non F emp) ∧ AtS (Γn vf s) io (io.map vf) (Os (d s)))
    (hb : ∀ (cdv : Value) (A : Around) (outer : List Env) (s : Shared) (H : Hp) (E : XK), Gd (cxOf (L2.CX P w) P w K mg base N qual (defScope st) f cdv A outer s H E) (fun cls dd _ H' => E cls dd H') k → ∀ i vf,
      ∃ t, JB (cxOf (L2.CX P w) P w K mg base N qual (defScope st) f cdv A outer s H E) (fun cls dd _ H' => E cls dd H') cl (ctxO io vf 0 (As i) ++ List.replicate (N.length - ps.length) none) (defBody st) t (m i) (Γn vf) Γb (fun r v F h => Sep (C r :: Os r) (v :: io.map vf) F h) (List.replicate N.length none)) :
    FnRO P w K mg base cl (k + 1) f fd ps io As (fun i => (m i).fn d) C Os := by
  have hlen : ∀ vs H Q E, FspO cl io As (fun i => (m i).fn d) C Os vs H Q E → vs.length = ps.length := fun vs H Q E ⟨i, F, h, R, _, _, s, _⟩ => s.len.symm.trans (len i)
  refine F.ok S hlen fun cdv A outer s H vs Q E hr hsp => ?_
  have hv := hlen _ _ _ _ hsp
  obtain ⟨i, F0, h, R, tg0, u, sp, q⟩ := hsp
  have G : Gd (cxOf (L2.CX P w) P w K mg base N qual (defScope st) f cdv A outer s H E) (fun cls dd _ H' => E cls dd H') k := ⟨takes_of rfl rfl rfl rfl, passes_of rfl, rfl, S.nd, hr⟩
  obtain ⟨t, p, r⟩ := hb cdv A outer s H E G i (ats vs)
  refine ⟨t, p, ?_⟩
  have e : L2.start N vs = vs.map some ++ List.replicate (N.length - ps.length) none := by unfold L2.start; rw [hv]
  rw [e]
  refine r _ F0 h H R _ u (sp.slotsO tg0 _ 0 fun i v e => ?_) ?_
  · unfold ats; rw [List.getD_eq_getElem?_getD, Nat.zero_add, e]; rfl
  replace q : Out ((m i).fn d) _ _ := q
  cases em : m i with
  | nx s =>
    rw [em] at q
    intro σ' F' O' H' l u' s'
    obtain ⟨hc, ha⟩ := hd (ats vs) s
    obtain ⟨g, O2, t2, so⟩ := ha.out s'
    have w1 : Pt (g :: O2 :: F' :: R) H' := (u'.swap).split2 t2
    have w2 : Pt (F' :: O2 :: g :: R) H' := w1.perm (by
      exact List.Perm.trans (List.perm_append_comm (l₁ := [g]) (l₂ := [O2, F']) |>.append_right R) (.swap _ _ _))
    obtain ⟨F2, l1, _, u2⟩ := w2.leak
    exact q .non F2 g H' (l.tr l1) u2 ⟨emp, g, .l_emp, hc F2, so.mono l1⟩
  | rt r => rw [em] at q; exact q
  | er c =>
    rw [em] at q
    intro σ' F' O' H' l u' s'
    obtain ⟨F2, l1, _, u2⟩ := u'.leak
    exact q F2 H' (l.tr l1) u2
  | bk b => rw [em] at q; exact q.elim
  | ct b => rw [em] at q; exact q.elim
  | no => rw [em] at q; exact q.elim
end
section
variable {α β γ δ ι ρ B T S' : Type} {X : Cx} {W : WX} {cl : String → Addr} {Γ Γe : Ctx} {tg e a b c : Expr} {es : List Expr} {pos p : Pos} {ta tb : TE} {k j : Nat} {S : δ → Asn} {d0 : δ} {i : Nat} {w : Option V} {Γn : S' → Ctx} {Γb : B → Ctx}
/-- return e, giving back -/
theorem js_retO {t : TE} {m : Rs α} {Γ' : α → Ctx} {A : α → Asn} {C : ρ → Asn} {Os : ρ → List Asn} {io : List Nat} {vf : Nat → V} (g : α → ρ) (he : JE X W cl Γ e t m Γ' A Γe) (hA : ∀ a, AtS (Γ' a) io (io.map vf) (Os (g a))) (hC : ∀ a, C (g a) = A a := by intro _; rfl) :
    JS X W cl Γ (.Return (some e) pos) (tRet t) (m.f fun a => .rt (g a) : Fl B ρ S') Γn Γb (fun r v F h => Sep (C r :: Os r) (v :: io.map vf) F h) Γe := by
  obtain ⟨p, k⟩ := he
  refine ⟨ps_ret p, fun σ F O H R D u s q => k σ F O H R _ u s (q.bindR.mono (fun a _ q v F' O' h H' l u' s' p' => ?_) fun c q F' O' H' => q σ F' O' H')⟩
  obtain ⟨g2, O2, t2, so⟩ := (hA a).out s'
  have w1 : Pt (g2 :: O2 :: F' :: h :: R) H' := (u'.swap).split2 t2
  have w2 : Pt (F' :: O2 :: h :: g2 :: R) H' := w1.perm (by
    refine List.Perm.trans (List.perm_append_comm (l₁ := [g2]) (l₂ := [O2, F', h]) |>.append_right R) (.swap _ _ _))
  obtain ⟨F2, l1, _, u2⟩ := w2.leak
  obtain ⟨c, jc, u3⟩ := Pt.join2 (u2.perm (l' := h :: g2 :: F2 :: R) (List.perm_append_comm (l₁ := [F2]) (l₂ := [h, g2]) |>.append_right R))
  exact q v F2 c H' (l.tr l1) u3.swap ⟨h, g2, jc, by rw [hC]; exact (A a).mono l1 p', so.mono l1⟩
theorem js_retNO {C : ρ → Asn} {Os : ρ → List Asn} {io : List Nat} {vf : Nat → V} (r : ρ) (hA : AtS Γ io (io.map vf) (Os r)) (hC : ∀ F, (C r).p .non F emp := by intro _; exact ⟨rfl, rfl⟩) :
    JS X W cl Γ (.Return none pos) tRetN (.rt r : Fl B ρ S') Γn Γb (fun r v F h => Sep (C r :: Os r) (v :: io.map vf) F h) Γe :=
  ⟨ps_retN, fun σ F O H R D u s q => by
    obtain ⟨g2, O2, t2, so⟩ := hA.out s
    have w1 : Pt (g2 :: O2 :: F :: R) H := (u.swap).split2 t2
    have w2 : Pt (F :: O2 :: g2 :: R) H := w1.perm (by
      refine List.Perm.trans (List.perm_append_comm (l₁ := [g2]) (l₂ := [O2, F]) |>.append_right R) (.swap _ _ _))
    obtain ⟨F2, l1, _, u2⟩ := w2.leak
    exact q .non F2 g2 H l1 u2 ⟨emp, g2, .l_emp, hC F2, so.mono l1⟩⟩
structure JH {ρ : Type} (X : Cx) (W : WX) (cl : String → Addr) (Γ : Ctx) (Hs : List Asn) (vps : List V) (e : Expr) (t : TE) (m : Rs ρ) (C : ρ → Asn) (Os : ρ → List Asn) : Prop where
  pe : PE X e t
  run : ∀ (σ : L2.St) (F O H hx : Hp) (R : List Hp) (Q : VK), Pt (F :: O :: hx :: R) H → Slots Γ σ F O → Sep Hs vps F hx →
    Out m (fun r => ∀ v F' h H', Le F F' → Pt (F' :: O :: h :: R) H' → Sep (C r :: Os r) (v :: vps) F' h → Q v H') (fun c => ∀ F' H', Le F F' → Pt (F' :: O :: R) H' → W (.ref (cl c)) none σ H') → t σ H Q
/-- what is given: the arguments' values (holes by their places) and the holes' contents together -/
def Gives (As' As : List Asn) (Hs : List Asn) (vps : List V) (io : List Nat) : Prop :=
  ∀ vs F h1 h2 h, Pt [h1, h2] h → Sep As' vs F h1 → Sep Hs vps F h2 → Sep As vs F h ∧ io.map (ats vs) = vps
theorem Gives.mk0 {A : Asn} {Bs : List Asn} {vp : V} : Gives (aV vp :: Bs) (A :: Bs) [A] [vp] [0] := by
  intro vs F h1 h2 h t s1 s2
  cases vs with
  | nil => exact s1.elim
  | cons v vs =>
    obtain ⟨g1, g2, t1, ⟨rfl, rfl⟩, r⟩ := s1
    have e := t1.emp_l
    subst e
    obtain ⟨g3, g4, t3, pA, rfl⟩ := s2
    have e := t3.emp_r
    subst e
    exact ⟨⟨h2, h1, t.swap, pA, r⟩, rfl⟩
/-- the first one is passed by -/
theorem Gives.skip {A : Asn} {As' As Hs : List Asn} {vps : List V} {io : List Nat} (g : Gives As' As Hs vps io) : Gives (A :: As') (A :: As) Hs vps (io.map (· + 1)) := by
  intro vs F h1 h2 h t s1 s2
  cases vs with
  | nil => exact s1.elim
  | cons v vs =>
    obtain ⟨g1, g2, t1, p, r⟩ := s1
    have u : Pt [g1, g2, h2] h := t.unfold (l := [g1, g2]) t1
    obtain ⟨c, j, z⟩ := (u.perm (l' := [g2, h2, g1]) (List.perm_append_comm (l₁ := [g1]) (l₂ := [g2, h2]))).join2
    obtain ⟨s3, e⟩ := g vs F g2 h2 c j r s2
    refine ⟨⟨g1, c, z.swap, p, s3⟩, ?_⟩
    rw [List.map_map, ← e]
    apply List.map_congr_left
    intro n _
    rfl
/-- the first one is a hole -/
theorem Gives.hole {A : Asn} {As' As Hs : List Asn} {vps : List V} {vp : V} {io : List Nat} (g : Gives As' As Hs vps io) : Gives (aV vp :: As') (A :: As) (A :: Hs) (vp :: vps) (0 :: io.map (· + 1)) := by
  intro vs F h1 h2 h t s1 s2
  cases vs with
  | nil => exact s1.elim
  | cons v vs =>
    obtain ⟨g1, g2, t1, ⟨rfl, rfl⟩, r⟩ := s1
    have e := t1.emp_l
    subst e
    obtain ⟨g3, g4, t3, pA, r4⟩ := s2
    have u : Pt [g3, g4, h1] h := (t.swap).unfold t3
    obtain ⟨c, j, z⟩ := (u.perm (l' := [h1, g4, g3]) (by
      refine List.Perm.trans (List.perm_append_comm (l₁ := [g3]) (l₂ := [g4, h1])) (.swap _ _ _))).join2
    obtain ⟨s3, e⟩ := g vs F h1 g4 c j r r4
    refine ⟨⟨g3, c, z.swap, pA, s3⟩, ?_⟩
    rw [List.map_cons, List.map_map, ← e]
    congr 1
theorem Gives.nil {As : List Asn} : Gives As As [] [] [] := by
  intro vs F h1 h2 h t s1 s2
  have e : h2 = emp := s2
  subst e
  rw [t.emp_r]
  exact ⟨s1, rfl⟩
structure CalRO {ι ρ : Type} (P : Program) (w : World) (K : PySem.W.Frag) (mg : Str → Option Value) (base : Heap) (cl : String → Addr) (k : Nat) (x : Str) (ps : List Str) (io : List Nat) (As : ι → List Asn) (m : ι → Rs ρ) (C : ρ → Asn) (Os : ρ → List Asn) : Prop where
  ex : ∃ f fd, FnRO P w K mg base cl k f fd ps io As m C Os ∧ mg x = some (.ref f) ∧ PySem.W.keepIn K (.ref f) = true ∧ Binds K fd ps []
theorem jh_call {x : Str} {t : TA} {ps : List Str} {io : List Nat} {As : ι → List Asn} {As' : α → List Asn} {fm : ι → Rs ρ} {C : ρ → Asn} {Os : ρ → List Asn} {m : Rs α} {Hs : List Asn} {vps : List V} (g : α → ι) (G : Gd X W k) (c : CalRO X.prog X.w X.K X.mg X.base cl j x ps io As fm C Os) (h : JNs X W cl Γ (e :: es) t m As') (gv : ∀ a, Gives (As' a) (As (g a)) Hs vps io) (hj : j ≤ k := by decide) (hg : Gl X x := by rfl) (hdb : (x == ("__debug__" : Str)) = false := by decide)
    (he : starEach (e :: es) X.env = (false, eval e X.env) :: starEach es X.env := by rfl) (hpl : (backTo pos (starEach es X.env)).any (·.1) = false := by rfl) :
    JH X W cl Γ Hs vps (.Call (.Name x p) (e :: es) [] pos) (tCallS (FspO cl io As fm C Os) (WE W) t) (m.b fun a => fm (g a)) C Os := by
  obtain ⟨f, fd, F, hm, kp, hb⟩ := c.ex
  obtain ⟨pp, kk⟩ := h
  refine ⟨pe_callS F (G.room.mono hj) hg hm kp hb (passAt G.tk) pp hdb he hpl, fun σ F0 O H hx R Q u s sh q => kk σ F0 O H (hx :: R) _ u s (q.bind.mono (fun i _ q vs F' h H' l u' p' => ?_) fun c q F' H' l u' => ?_)⟩
  · have w1 : Pt (h :: hx :: F' :: O :: R) H' := u'.perm (List.perm_append_comm (l₁ := [F', O]) (l₂ := [h, hx]) |>.append_right R)
    obtain ⟨c1, j1, w2⟩ := w1.join2
    obtain ⟨sa, ev⟩ := gv i vs F' h hx c1 j1 p' (sh.mono l)
    refine ⟨g i, F', c1, O :: R, s.tgo.mono l, w2.swap, sa, q.mono (fun r _ q v F2 h2 H2 l2 u2 p2 => ?_) fun c q F2 H2 l2 u2 => q F2 H2 (l.tr l2) u2⟩
    rw [ev] at p2
    exact q v F2 h2 H2 (l.tr l2) u2.swap1 p2
  · obtain ⟨F2, l1, l2, u2⟩ := pt_leak3 u'
    exact q F2 H' (l.tr l1) u2
theorem JH.bor (i : Nat) {t : TE} {δ : Type} {Bo Co : δ → Asn} {y : δ} {m : Rs ρ} {C : ρ → Asn} {Os : ρ → List Asn} {Hs : List Asn} {vps : List V} [f : FrzF Bo Co] [nt : NtF Bo] (n : ∀ r, ∀ A ∈ C r :: Os r, NoT A) (h : JH X W cl (Γ.set i (some (Co y))) Hs vps e t m C Os) (hl : Γ[i]? = some (some (Bo y)) := by rfl) : JH X W cl Γ Hs vps e t m C Os := by
  obtain ⟨p, k⟩ := h
  refine ⟨p, fun σ F O H hx R Q u s sh q => ?_⟩
  obtain ⟨F1, O1, l1, u1, s1, back⟩ := bor_core s hl (f.frz y) u
  refine k σ F1 O1 H hx R Q u1 s1 (sh.mono l1) (q.mono (fun a _ q v F2 h2 H2 le2 u2 p2 => ?_) fun c q F2 H2 le2 u2 => ?_)
  · obtain ⟨F', lf, uf, z⟩ := back F2 (h2 :: R) H2 le2 u2
    exact q v F' h2 H2 lf uf (p2.not (z (nt.nt y)) (n a))
  · obtain ⟨F', lf, uf, _⟩ := back F2 R H2 le2 u2
    exact q F' H2 lf uf
/-- slot i's value taken apart: a hole and what is in it -/
structure Spl {α : Type} (S : α → Asn) (Hl : V → Asn) (A : α → Asn) (y0 : α) : Prop where
  take : ∀ v F h, (S y0).p v F h → ∃ vp h1 h2, Pt [h1, h2] h ∧ (Hl vp).p v F h1 ∧ (A y0).p vp F h2
  back : ∀ y vp v F h1 h2 h, (Hl vp).p v F h1 → (A y).p vp F h2 → Pt [h1, h2] h → (S y).p v F h
theorem spl_all {S : δ → Asn} {y0 : δ} : Spl S aV S y0 := ⟨fun v F h p => ⟨v, emp, h, .l_emp, ⟨rfl, rfl⟩, p⟩, fun y vp v F h1 h2 h ⟨e1, e2⟩ p t => by subst e1 e2; rw [t.emp_l]; exact p⟩
theorem hole_at {F O : Hp} {σ : L2.St} {A S : α → Asn} {Hl : V → Asn} {y0 : α} (s : Slots Γ σ F O) (hl : Γ[i]? = some (some (ow w (S y0)))) (sp : Spl S Hl A y0) :
    ∃ vp h2 O', Pt [h2, O'] O ∧ (A y0).p vp F h2 ∧ Slots (Γ.set i (some (ow w (Hl vp)))) σ F O' ∧ ∀ (Γ2 : Ctx) y F2 g O2 O3, Γ2[i]? = some (some (ow w (Hl vp))) → Slots Γ2 σ F2 O2 → (A y).p vp F2 g → Pt [g, O2] O3 → Slots (Γ2.set i (some (ow w (S y)))) σ F2 O3 := by
  obtain ⟨x, h, O', e', t, ⟨v, rfl, p⟩, s'⟩ := s.take hl
  obtain ⟨vp, h1, h2, t1, pH, pA⟩ := sp.take v F h (ow_of p)
  have u : Pt [h1, h2, O'] O := t.unfold (l := [h1, h2]) t1
  obtain ⟨c, j, z⟩ := (u.perm (l' := [h1, O', h2]) (.cons _ (.swap _ _ _))).join2
  refine ⟨vp, h2, c, z.swap, pA, ?_, fun Γ2 y F2 g O2 O3 hl2 s2 pg t3 => ?_⟩
  · have := s'.put' (set_none_at hl) e' (ow_to (B := Hl vp) p pH) j
    rw [set_set] at this
    exact this
  · obtain ⟨x2, h3, O4, e2, t4, ⟨v2, rfl, p2⟩, s4⟩ := s2.take hl2
    have ev : v2 = v := by rw [e'] at e2; cases e2; rfl
    subst ev
    -- O3 = g + (h3 + O4)
    have u2 : Pt [h3, O4, g] O3 := (t3.swap).unfold t4
    obtain ⟨c2, j2, z2⟩ := (u2.perm (l' := [h3, g, O4]) (.cons _ (.swap _ _ _))).join2
    have := s4.put' (set_none_at hl2) e2 (ow_to (B := S y) p2 (sp.back y vp v2 F2 h3 g c2 (ow_of p2) pg j2)) z2
    rw [set_set] at this
    exact this
/-- a call with one hole -/
theorem je_hole1 (i : Nat) (w : Option V) {t : TE} {m : Rs ρ} {C : ρ → Asn} {A S : α → Asn} {Hl : V → Asn} {y0 : α} (o : ρ → α) (we : Wk Γ Γe) (sp : Spl S Hl A y0) (h : ∀ vp, JH X W cl (Γ.set i (some (ow w (Hl vp)))) [A y0] [vp] e t m C (fun r => [A (o r)])) (wee : ∀ vp, Wk (Γ.set i (some (ow w (Hl vp)))) Γe) (hl : Γ[i]? = some (some (ow w (S y0))) := by rfl) :
    JE X W cl Γ e t m (fun r => Γ.set i (some (ow w (S (o r))))) C Γe := by
  refine ⟨(h .non).pe, fun σ F O H R Q u s q => ?_⟩
  obtain ⟨vp, h2, O', t2, pA, s1, back⟩ := hole_at s hl sp
  have w1 : Pt (F :: O' :: h2 :: R) H := ((u.swap).split2 t2).perm (.trans (.cons _ (.swap _ _ _)) (.trans (.swap _ _ _) (.cons _ (.swap _ _ _))))
  refine (h vp).run σ F O' H h2 R Q w1 s1 (Sep.sing pA) (q.mono (fun r _ q v F2 g H2 l2 u2 p2 => ?_) fun c q F2 H2 l2 u2 => ?_)
  · obtain ⟨g1, g2, tg, pc, so⟩ := p2
    obtain ⟨g3, g4, t3, pB, e4⟩ := so
    have e4' : g4 = emp := e4
    subst e4'
    have e3 := t3.emp_r
    subst e3
    have w2 : Pt (g1 :: g2 :: F2 :: O' :: R) H2 := (u2.perm (l' := g :: F2 :: O' :: R) (List.perm_append_comm (l₁ := [F2, O']) (l₂ := [g]) |>.append_right R)).split2 tg
    obtain ⟨c, jc, w3⟩ := (w2.perm (l' := g2 :: O' :: F2 :: g1 :: R) (by
      refine List.Perm.trans (List.perm_append_comm (l₁ := [g1]) (l₂ := [g2, F2, O']) |>.append_right R) (.cons _ ?_)
      exact .trans (.swap _ _ _) (.refl _))).join2
    have sl := back _ (o r) F2 g2 O' c (by rw [List.getElem?_set_self (List.getElem?_eq_some_iff.mp hl).1]) (s1.mono l2) pB jc
    rw [set_set] at sl
    exact q v F2 c g1 H2 l2 w3.swap sl pc
  · obtain ⟨F3, O3, l3, u3, s3⟩ := (wee vp).slots (s1.mono l2) u2
    exact q F3 O3 H2 (l2.tr l3) u3 s3
/-- with two -/
theorem je_hole2 (i i2 : Nat) (w w2 : Option V) {t : TE} {m : Rs ρ} {C : ρ → Asn} {A S : α → Asn} {Hl : V → Asn} {y0 : α} {A2 S2 : β → Asn} {Hl2 : V → Asn} {y2 : β} (o : ρ → α) (o2 : ρ → β) (sp : Spl S Hl A y0) (sp2 : Spl S2 Hl2 A2 y2)
    (h : ∀ vp vp2, JH X W cl ((Γ.set i (some (ow w (Hl vp)))).set i2 (some (ow w2 (Hl2 vp2)))) [A y0, A2 y2] [vp, vp2] e t m C (fun r => [A (o r), A2 (o2 r)])) (wee : ∀ vp vp2, Wk ((Γ.set i (some (ow w (Hl vp)))).set i2 (some (ow w2 (Hl2 vp2)))) Γe) (hl : Γ[i]? = some (some (ow w (S y0))) := by rfl) (hl2 : ∀ vp, (Γ.set i (some (ow w (Hl vp))))[i2]? = some (some (ow w2 (S2 y2))) := by intro _; rfl) (hne : i ≠ i2 := by decide) :
    JE X W cl Γ e t m (fun r => (Γ.set i (some (ow w (S (o r))))).set i2 (some (ow w2 (S2 (o2 r))))) C Γe := by
  refine ⟨(h .non .non).pe, fun σ F O H R Q u s q => ?_⟩
  obtain ⟨vp, h1, O1, t1, pA, s1, back⟩ := hole_at s hl sp
  obtain ⟨vp2, h2, O2, t2, pA2, s2, back2⟩ := hole_at s1 (hl2 vp) sp2
  have w1 : Pt (h1 :: O1 :: F :: R) H := (u.swap).split2 t1
  have w3 : Pt (h2 :: O2 :: h1 :: F :: R) H := (w1.swap).split2 t2
  obtain ⟨c, jc, w4⟩ := (w3.perm (l' := h1 :: h2 :: F :: O2 :: R) (by
    refine List.Perm.trans (List.perm_append_comm (l₁ := [h2, O2]) (l₂ := [h1]) |>.append_right (F :: R)) (.cons _ (.cons _ (.swap _ _ _))))).join2
  have w5 : Pt (F :: O2 :: c :: R) H := w4.perm (List.perm_append_comm (l₁ := [c]) (l₂ := [F, O2]) |>.append_right R)
  refine (h vp vp2).run σ F O2 H c R Q w5 s2 ⟨h1, h2, jc, pA, Sep.sing pA2⟩ (q.mono (fun r _ q v F2 g H2 l2 u2 p2 => ?_) fun cc q F2 H2 l2 u2 => ?_)
  · obtain ⟨g1, g2, tg, pc, so⟩ := p2
    obtain ⟨g3, g4, t3, pB, so2⟩ := so
    obtain ⟨v', e', pB2'⟩ := sep1 so2
    cases e'
    have w6 : Pt (g1 :: g2 :: F2 :: O2 :: R) H2 := (u2.perm (l' := g :: F2 :: O2 :: R) (List.perm_append_comm (l₁ := [F2, O2]) (l₂ := [g]) |>.append_right R)).split2 tg
    have w7 : Pt (g3 :: g4 :: g1 :: F2 :: O2 :: R) H2 := (w6.swap).split2 t3
    obtain ⟨c1, j1, w8⟩ := (w7.perm (l' := g4 :: O2 :: g3 :: F2 :: g1 :: R) (by
      refine List.Perm.trans (List.perm_append_comm (l₁ := [g3, g4, g1, F2]) (l₂ := [O2]) |>.append_right R) ?_
      refine List.Perm.trans (.cons _ (.swap _ _ _)) (.trans (.swap _ _ _) (.cons _ (.cons _ (.cons _ (.swap _ _ _))))))).join2
    obtain ⟨c2, j2, w9⟩ := (w8.swap).join2
    have k1 : (((Γ.set i (some (ow w (Hl vp)))).set i2 (some (ow w2 (Hl2 vp2)))))[i2]? = some (some (ow w2 (Hl2 vp2))) := by rw [List.getElem?_set_self (List.getElem?_eq_some_iff.mp (hl2 vp)).1]
    have sl := back2 _ (o2 r) F2 g4 O2 c1 k1 (s2.mono l2) pB2' j1
    rw [set_set] at sl
    have k2 : (((Γ.set i (some (ow w (Hl vp)))).set i2 (some (ow w2 (S2 (o2 r))))))[i]? = some (some (ow w (Hl vp))) := by
      rw [List.getElem?_set_ne (Ne.symm hne), List.getElem?_set_self (List.getElem?_eq_some_iff.mp hl).1]
    have sl2 := back _ (o r) F2 g3 c1 c2 k2 sl pB j2
    have e3 : (((Γ.set i (some (ow w (Hl vp)))).set i2 (some (ow w2 (S2 (o2 r)))))).set i (some (ow w (S (o r)))) = (Γ.set i (some (ow w (S (o r))))).set i2 (some (ow w2 (S2 (o2 r)))) := by
      rw [List.set_comm _ _ (Ne.symm hne), set_set]
    rw [e3] at sl2
    exact q v F2 c2 g1 H2 l2 (w9.swap) sl2 pc
  · obtain ⟨F3, O3, l3, u3, s3⟩ := (wee vp vp2).slots (s2.mono l2) u2
    exact q F3 O3 H2 (l2.tr l3) u3 s3
end
end Br
namespace Br
open PySem PySem.Spec L2 PyProof.Rows
variable [tgi : Tbs]
section
variable {X : Cx} {CX : CXT} {k : Nat} {f C : Addr} {fd : FuncData} {ps : List Str} {sp : Sp} {E : L2.St → XK} {x m : Str} {p pos apos : Pos} {e o : Expr} {es : List Expr} {ta : TE} {t : TA}
theorem run_makeS {pins : List (Addr × Obj)} {σ : L2.St} {H : Hp} {s : Shared} {Q : VK} {us : List Value} {vs : List V} (M : Mk X.K C f) (F : FnOk X.prog X.w X.K X.mg X.base CX k f fd ps sp) (hr : Room (k + 1) X.A) (hb : Binds X.K fd ps [])
    (hx : PassesAt CX X σ (E σ)) (I : Inv X pins σ H s) (r : Vals vs us)
    (h : ∀ x dx, H x = none → H dx = none → dx ≠ x → sp (.ref x :: vs) (upd (upd H dx (.own x)) x (.ins C dx [])) (fun v H2 => v = .non ∧ Q (.ref x) H2) (E σ)) :
    wpAny (model X.prog X.w) X.A (call (.ref C) us) (EP X pins σ Q) X.xe s := by
  have hq := h (s.heap.objs.size + 1) s.heap.objs.size (I.hok.fresh (Nat.le_succ _)) (I.hok.fresh (Nat.le_refl _)) (Nat.ne_of_lt (Nat.lt_succ_self _))
  have I2 := Inv.made (C := C) I
  have r2 : Vals (V.ref (s.heap.objs.size + 1) :: vs) (Value.ref (s.heap.objs.size + 1) :: us) := .cons rfl r
  have hl : (Value.ref (s.heap.objs.size + 1) :: us).length = ps.length := by
    have e := r2.length
    rw [F.len _ _ _ _ hq] at e
    exact e.symm
  have b := hb _ (Value.ref (s.heap.objs.size + 1) :: us) I2.kIn (by rw [List.append_nil]; exact hl)
  rw [List.append_nil] at b
  refine wpAny_call (make_map (f := f) I.kIn M.makes M.init (beq_iff_eq.mp M.fn) (codeAny_mono (F.run _ X.stack _ _ ⟨Value.ref (s.heap.objs.size + 1) :: us, []⟩ (Value.ref (s.heap.objs.size + 1) :: us) _ _ (E σ) (hr.make C us [])
    (I2.env0.make C us []) b r2 hq) fun r s' hq' => ?_))
  cases r with
  | error e => exact hx pins _ _ e s' I2 hq'
  | ok fl =>
    cases fl with
    | ret u =>
      obtain ⟨v, H', I3, rv, ev, q3⟩ := I2.after hq'
      subst ev
      exact ⟨rv, ⟨V.ref (s.heap.objs.size + 1), H', I3, rfl, q3⟩⟩
    | next => exact False.elim hq'
    | brk => exact False.elim hq'
    | cont => exact False.elim hq'
def tMakeS (C : Addr) (sp : Sp) (E : L2.St → XK) (t : TA) : TE := fun σ H Q => t σ H fun vs H1 => ∀ x dx, H1 x = none → H1 dx = none → dx ≠ x → sp (.ref x :: vs) (upd (upd H1 dx (.own x)) x (.ins C dx [])) (fun v H2 => v = .non ∧ Q (.ref x) H2) (E σ)
theorem pe_makeS (M : Mk X.K C f) (F : FnOk X.prog X.w X.K X.mg X.base CX k f fd ps sp) (hr : Room (k + 1) X.A) (hg : Gl X x) (hm : X.mg x = some (.ref C)) (hb : Binds X.K fd ps []) (hx : ∀ σ, PassesAt CX X σ (E σ))
    (ha : PA X (e :: es) t) (hdb : (x == ("__debug__" : Str)) = false := by decide) (he : starEach (e :: es) X.env = (false, eval e X.env) :: starEach es X.env := by rfl) (hpl : (backTo pos (starEach es X.env)).any (·.1) = false := by rfl) :
    PE X (.Call (.Name x p) (e :: es) [] pos) (tMakeS C sp E t) := by
  refine ⟨fun pins s σ H Q I h => ?_⟩
  refine wpAny_Call_Name_kw (ld_glob I hg hm ?_ hdb)
  refine PySem.W.callWith_K (h₀ := X.base) I.ok.mod.kin M.kp (thn (ha.run pos pins s σ H _ I h) fun us s1 ⟨vs, H1, I1, r, q⟩ => ⟨I1.kIn, ?_⟩) he hpl
  exact run_makeS M F hr hb (hx σ) I1 r q
def tMethS' (C : Addr) (m : Str) (sp : Sp) (E : L2.St → XK) (ta : TE) (t : TA) : TE := fun σ H Q => ta σ H fun x H1 => ∃ a dx fs, x = .ref a ∧ H1 a = some (.ins C dx fs) ∧ fs.lookup m = none ∧ t σ H1 fun vs H2 => sp (x :: vs) H2 Q (E σ)
theorem pe_methS' {pl : Sem Bool} (he : PE X o ta) (c : Cls X.K C) (hm : Meth X.K C m f) (F : FnOk X.prog X.w X.K X.mg X.base CX k f fd ps sp) (hr : Room k X.A) (hb : Binds X.K fd ps []) (hx : ∀ σ, PassesAt CX X σ (E σ)) (ha : PA X (e :: es) t)
    (hst : starEach (e :: es) X.env = (false, eval e X.env) :: starEach es X.env := by rfl) (hpl : (backTo pos (starEach es X.env)).any (·.1) = false := by rfl)
    (ht : eval (.Call (.Attribute o m apos) (e :: es) [] pos) X.env = (do
      let ov ← eval o X.env
      standAt apos.atName
      let (f, first) ← holding [ov] (getMethod ov m pl)
      callWith pos f first (backTo pos (starEach (e :: es) X.env)) (backToKw pos (keywordEach [] X.env))) := by rfl) :
    PE X (.Call (.Attribute o m apos) (e :: es) [] pos) (tMethS' C m sp E ta t) := by
  refine ⟨fun pins s σ H Q I h => ?_⟩
  refine PySem.W.methodCall_KW (pl := pl) (thn (he.run pins s σ H _ I h) fun u s1 ⟨x, H1, I1, rx, a, dx, fs, ex, ea, l, q⟩ => ?_) ht
  subst ex
  obtain rfl : u = Value.ref a := rx
  refine getmeth_ok I1 ea c hm l ?_
  exact PySem.W.callWith_K (h₀ := X.base) (first := [.ref a]) I1.ok.mod.kin hm.kp (thn (ha.run pos pins s1 σ H1 _ I1 q) fun us s2 ⟨vs, H2, I2, r, q2⟩ => ⟨I2.kIn, run_fnS (us := .ref a :: us) (vs := .ref a :: vs) F hr hb (hx σ) I2 (.cons rfl r) q2⟩) hst hpl
theorem pe_methS0' {pl : Sem Bool} (he : PE X o ta) (c : Cls X.K C) (hm : Meth X.K C m f) (F : FnOk X.prog X.w X.K X.mg X.base CX k f fd ps sp) (hr : Room k X.A) (hb : Binds X.K fd ps []) (hx : ∀ σ, PassesAt CX X σ (E σ))
    (ht : eval (.Call (.Attribute o m apos) [] [] pos) X.env = (do
      let ov ← eval o X.env
      standAt apos.atName
      let (f, first) ← holding [ov] (getMethod ov m pl)
      callWith pos f first (backTo pos (starEach [] X.env)) (backToKw pos (keywordEach [] X.env))) := by rfl) :
    PE X (.Call (.Attribute o m apos) [] [] pos) (tMethS' C m sp E ta tNil) := by
  refine ⟨fun pins s σ H Q I h => ?_⟩
  refine PySem.W.methodCall_KW (pl := pl) (thn (he.run pins s σ H _ I h) fun u s1 ⟨x, H1, I1, rx, a, dx, fs, ex, ea, l, q⟩ => ?_) ht
  subst ex
  obtain rfl : u = Value.ref a := rx
  refine getmeth_ok I1 ea c hm l ?_
  exact PySem.W.callWith_K0 (first := [.ref a]) I1.kIn hm.kp (run_fnS (us := [.ref a]) (vs := [.ref a]) F hr hb (hx σ) I1 (.cons rfl .nil) q)
end
section
variable {α β γ δ ι ρ B T S' : Type} {X : Cx} {W : WX} {cl : String → Addr} {Γ Γe : Ctx} {tg e o a b c : Expr} {es : List Expr} {pos p : Pos} {ta tb : TE} {k j : Nat} {S : δ → Asn} {d0 : δ} {i : Nat} {w : Option V}
/-- a class by its name: what its __init__ makes of a new instance -/
structure MkR {ι ρ : Type} (P : Program) (w : World) (K : PySem.W.Frag) (mg : Str → Option Value) (base : Heap) (cl : String → Addr) (k : Nat) (x : Str) (n : String) (ps : List Str) (As : ι → List Asn) (m : ι → Rs ρ) (fl : ρ → Fds) : Prop where
  ex : ∃ f fd, Mk K (cl n) f ∧ FnRO P w K mg base cl k f fd ps [0] (fun i => oCs (cl n) [] :: As i) m (fun _ => aV .non) (fun r => [oCs (cl n) (fl r)]) ∧ mg x = some (.ref (cl n)) ∧ Binds K fd ps []
theorem jn_make {x : Str} {n : String} {t : TA} {ps : List Str} {As : ι → List Asn} {fm : ι → Rs ρ} {fl : ρ → Fds} {m : Rs ι} (G : Gd X W k) (c : MkR X.prog X.w X.K X.mg X.base cl j x n ps As fm fl) (h : JNs X W cl Γ (e :: es) t m As) (hj : j + 1 ≤ k := by decide) (hg : Gl X x := by rfl) (hdb : (x == ("__debug__" : Str)) = false := by decide)
    (he : starEach (e :: es) X.env = (false, eval e X.env) :: starEach es X.env := by rfl) (hpl : (backTo pos (starEach es X.env)).any (·.1) = false := by rfl) :
    JN X W cl Γ (.Call (.Name x p) (e :: es) [] pos) (tMakeS (cl n) (FspO cl [0] (fun i => oCs (cl n) [] :: As i) fm (fun _ => aV .non) (fun r => [oCs (cl n) (fl r)])) (WE W) t) (m.b fm) (fun r => oCs (cl n) (fl r)) := by
  obtain ⟨f, fd, M, F, hm, hb⟩ := c.ex
  obtain ⟨pp, kk⟩ := h
  refine ⟨pe_makeS M F (G.room.mono hj) hg hm hb (passAt G.tk) pp hdb he hpl, fun σ F0 O H R Q u s q => kk σ F0 O H R _ u s (q.bind.mono (fun i _ q vs F' h H' l u' p' => ?_) fun c q => q)⟩
  intro x dx hx hdx hne
  have u1 := u'.alloc (o := .own x) hdx
  have u2 := u1.alloc (o := .ins (cl n) dx []) (p := x) (by rw [upd_ne (Ne.symm hne)]; exact hx)
  obtain ⟨c1, j1, u3⟩ := u2.join2
  obtain ⟨c2, j2, u4⟩ := (u3.perm (l' := c1 :: h :: F' :: O :: R) (.cons _ (List.perm_append_comm (l₁ := [F', O]) (l₂ := [h]) |>.append_right R))).join2
  refine ⟨i, F', c2, O :: R, s.tgo.mono l, u4.swap, ⟨c1, h, j2, ⟨x, dx, [], emp, rfl, ?_, rfl⟩, p'⟩, q.mono (fun r _ q v F2 h2 H2 l2 u5 p2 => ?_) fun c q F2 H2 l2 u5 => q F2 H2 (l.tr l2) u5⟩
  · exact (j1.addE).perm (by exact List.perm_append_comm (l₁ := [emp]) (l₂ := [one x (.ins (cl n) dx []), one dx (.own x)]))
  · obtain ⟨g1, g2, t2, ⟨rfl, rfl⟩, sp⟩ := p2
    obtain ⟨v', e', pB⟩ := sep1 sp
    cases e'
    have eg := t2.emp_l
    subst eg
    exact ⟨rfl, q (.ref x) F2 h2 H2 (l.tr l2) u5.swap1 pB⟩
theorem look_none {f : Str} : ∀ {l : Fds} {vs : List V}, l.lookup f = none → (nmz l vs).lookup f = none
  | [], [], _ => rfl
  | [], _ :: _, _ => rfl
  | (g, B) :: l, [], _ => rfl
  | (g, B) :: l, v :: vs, e => by
    rw [List.lookup_cons] at e
    show List.lookup f ((g, v) :: nmz l vs) = none
    rw [List.lookup_cons]
    by_cases q : (f == g) = true
    · simp only [q, if_true] at e; cases e
    · simp only [q, if_false, Bool.false_eq_true] at e ⊢
      exact look_none e
/-- a method by its name -/
structure MtRO {ι ρ : Type} (P : Program) (w : World) (K : PySem.W.Frag) (mg : Str → Option Value) (base : Heap) (cl : String → Addr) (k : Nat) (C : Addr) (x : Str) (ps : List Str) (As : ι → List Asn) (m : ι → Rs ρ) (Cr : ρ → Asn) (Os : ρ → List Asn) : Prop where
  ex : ∃ f fd, Meth K C x f ∧ FnRO P w K mg base cl k f fd ps [0] As m Cr Os ∧ Binds K fd ps []
theorem jh_meth0 {pl : Sem Bool} {x : Str} {ps : List Str} {l0 : Fds} {C : Addr} {fm : ι → Rs ρ} {Cr : ρ → Asn} {Os : ρ → List Asn} {As : ι → List Asn} {vp : V} {apos : Pos} (i0 : ι) (G : Gd X W k) (cc : Cls X.K C) (c : MtRO X.prog X.w X.K X.mg X.base cl j C x ps As fm Cr Os) (ho : JN X W cl Γ o ta (.ok ()) (fun _ => aV vp)) (hA : As i0 = [oCs C l0] := by rfl) (hn : l0.lookup x = none := by rfl) (hj : j ≤ k := by decide)
    (ht : eval (.Call (.Attribute o x apos) [] [] pos) X.env = (do
      let ov ← eval o X.env
      standAt apos.atName
      let (f, first) ← holding [ov] (getMethod ov x pl)
      callWith pos f first (backTo pos (starEach [] X.env)) (backToKw pos (keywordEach [] X.env))) := by rfl) :
    JH X W cl Γ [oCs C l0] [vp] (.Call (.Attribute o x apos) [] [] pos) (tMethS' C x (FspO cl [0] As fm Cr Os) (WE W) ta tNil) (fm i0) Cr Os := by
  obtain ⟨f, fd, M, F, hb⟩ := c.ex
  obtain ⟨pp, kk⟩ := ho
  refine ⟨pe_methS0' pp cc M F (G.room.mono hj) hb (passAt G.tk) ht, fun σ F0 O H hx R Q u s sh q => kk σ F0 O H (hx :: R) _ u s ?_⟩
  intro v F' h H' l u' ⟨e1, e2⟩
  subst e1 e2
  have u2 := pt_skip u' rfl
  obtain ⟨v', e', pB⟩ := sep1 (sh.mono l)
  cases e'
  obtain ⟨a, dx, vs, h', rfl, t2, sp⟩ := pB
  refine ⟨a, dx, _, rfl, ((u2.le (by simp) : Le hx H') _ _ t2.at1), look_none hn, i0, F', hx, O :: R, s.tgo.mono l, u2.swap1, ?_, q.mono (fun r _ q v F2 h2 H2 l2 u5 p2 => ?_) fun c q F2 H2 l2 u5 => q F2 H2 (l.tr l2) u5⟩
  · rw [hA]; exact Sep.sing ⟨a, dx, vs, h', rfl, t2, sp⟩
  · exact q v F2 h2 H2 (l.tr l2) u5.swap1 p2
theorem jh_meth {pl : Sem Bool} {x : Str} {ps : List Str} {t : TA} {l0 : Fds} {C : Addr} {fm : ι → Rs ρ} {Cr : ρ → Asn} {Os : ρ → List Asn} {As : ι → List Asn} {As' : α → List Asn} {m : Rs α} {vp : V} {apos : Pos} (g : α → ι) (G : Gd X W k) (cc : Cls X.K C) (c : MtRO X.prog X.w X.K X.mg X.base cl j C x ps As fm Cr Os) (ho : JN X W cl Γ o ta (.ok ()) (fun _ => aV vp)) (h : JNs X W cl Γ (e :: es) t m As') (hA : ∀ a, As (g a) = oCs C l0 :: As' a := by intro _; rfl) (hn : l0.lookup x = none := by rfl) (hj : j ≤ k := by decide)
    (hst : starEach (e :: es) X.env = (false, eval e X.env) :: starEach es X.env := by rfl) (hpl : (backTo pos (starEach es X.env)).any (·.1) = false := by rfl)
    (ht : eval (.Call (.Attribute o x apos) (e :: es) [] pos) X.env = (do
      let ov ← eval o X.env
      standAt apos.atName
      let (f, first) ← holding [ov] (getMethod ov x pl)
      callWith pos f first (backTo pos (starEach (e :: es) X.env)) (backToKw pos (keywordEach [] X.env))) := by rfl) :
    JH X W cl Γ [oCs C l0] [vp] (.Call (.Attribute o x apos) (e :: es) [] pos) (tMethS' C x (FspO cl [0] As fm Cr Os) (WE W) ta t) (m.b fun a => fm (g a)) Cr Os := by
  obtain ⟨f, fd, M, F, hb⟩ := c.ex
  obtain ⟨pp, kk⟩ := ho
  refine ⟨pe_methS' pp cc M F (G.room.mono hj) hb (passAt G.tk) h.pe hst hpl ht, fun σ F0 O H hx R Q u s sh q => kk σ F0 O H (hx :: R) _ u s ?_⟩
  intro v F' h0 H' l u' ⟨e1, e2⟩
  subst e1 e2
  have u2 := pt_skip u' rfl
  obtain ⟨v', e', pB⟩ := sep1 (sh.mono l)
  cases e'
  obtain ⟨a, dx, vs, h', rfl, t2, sp⟩ := pB
  refine ⟨a, dx, _, rfl, ((u2.le (by simp) : Le hx H') _ _ t2.at1), look_none hn, ?_⟩
  refine h.run σ F' O H' (hx :: R) _ u2 (s.mono l) (q.bind.mono (fun i _ q ws F2 g2 H2 l2 u3 p2 => ?_) fun c q F2 H2 l2 u3 => ?_)
  · have w1 : Pt (hx :: g2 :: F2 :: O :: R) H2 := u3.perm (by
      refine List.Perm.trans (List.perm_append_comm (l₁ := [F2, O]) (l₂ := [g2, hx]) |>.append_right R) (.swap _ _ _))
    obtain ⟨c1, j1, w2⟩ := w1.join2
    refine ⟨g i, F2, c1, O :: R, s.tgo.mono (l.tr l2), w2.swap, ?_, q.mono (fun r _ q v F3 h3 H3 l3 u5 p3 => ?_) fun c q F3 H3 l3 u5 => q F3 H3 (l.tr (l2.tr l3)) u5⟩
    · rw [hA]; exact ⟨hx, g2, j1, (oCs C l0).mono l2 ⟨a, dx, vs, h', rfl, t2, sp⟩, p2⟩
    · exact q v F3 h3 H3 (l.tr (l2.tr l3)) u5.swap1 p3
  · obtain ⟨F3, l3, _, u4⟩ := pt_leak3 u3
    exact q F3 H2 (l.tr (l2.tr l3)) u4
def putA (f : Str) (A : Asn) : Fds → Fds
  | [] => [(f, A)]
  | (g, B) :: r => match decide (g = f) with
    | true => (g, A) :: r
    | false => (g, B) :: putA f A r
theorem Sep.putA {F : Hp} {f : Str} {A : Asn} {v : V} : ∀ {l : Fds} {vs : List V} {h g h3 : Hp}, Sep (asl l) vs F h → A.p v F g → Pt [h, g] h3 →
    ∃ vs' h4 hr, nmz (Br.putA f A l) vs' = putF f v (nmz l vs) ∧ Sep (asl (Br.putA f A l)) vs' F h4 ∧ Pt [h4, hr] h3
  | [], [], h, g, h3, e, p, t => by
    have e' : h = emp := e
    subst e'
    exact ⟨[v], g, emp, rfl, Sep.sing p, t.swap⟩
  | (n, B) :: l, u :: vs, h, g, h3, ⟨h1, h2, t1, p1, r⟩, p, t => by
    have w : Pt [h1, h2, g] h3 := t.unfold (l := [h1, h2]) t1
    show ∃ vs' h4 hr, nmz (Br.putA f A ((n, B) :: l)) vs' = putF f v ((n, u) :: nmz l vs) ∧ _
    unfold Br.putA putF
    by_cases q : n = f
    · rw [if_pos q]
      simp only [q, decide_true]
      obtain ⟨c, j, z⟩ := (w.mv 2 : Pt [g, h1, h2] h3).mv 2 |>.join2
      exact ⟨v :: vs, c, h1, rfl, ⟨g, h2, j.swap, p, r⟩, z⟩
    · rw [if_neg q]
      simp only [q, decide_false]
      obtain ⟨c, j, z⟩ := ((w.mv 2 : Pt [g, h1, h2] h3).mv 2).join2
      obtain ⟨vs', h4, hr, e, s4, t4⟩ := Sep.putA r p j
      have w2 : Pt [h4, hr, h1] h3 := z.unfold (l := [h4, hr]) t4
      obtain ⟨c2, j2, z2⟩ := (w2.mv 2 : Pt [h1, h4, hr] h3).join2
      exact ⟨u :: vs', c2, hr, congrArg ((n, u) :: ·) e, ⟨h1, h4, j2, p1, s4⟩, z2⟩
theorem nmz_len : ∀ {l : Fds} {vs : List V}, (nmz l vs).length ≤ l.length
  | [], [] => Nat.le_refl _
  | [], _ :: _ => Nat.le_refl _
  | _ :: _, [] => Nat.zero_le _
  | _ :: l, _ :: vs => Nat.succ_le_succ (nmz_len (l := l) (vs := vs))
/-- self.f = e -/
theorem jl_fst {K0 : PySem.W.Frag} (i : Nat) (w : Option V) {x f : Str} {C : Addr} {l0 : Fds} {A : α → Asn} {m : Rs α} {px apos : Pos} (c : Cls X.K C) (n : NoAttr X.K C f) (we : Wk Γ Γe) (h : JN X W cl Γ e ta m A) (hl : Γ[i]? = some (some (ow w (oCs C l0))) := by rfl) (hlen : Nat.blt l0.length 1000 = true := by rfl) (hN : X.N[i]? = some x := by rfl)
    (hv : Vis X.env.scope x := by first | exact Or.inl rfl | exact Or.inr (Or.inl rfl) | exact Or.inr (Or.inr rfl)) (hd : (x == ("__debug__" : Str)) = false := by decide) (hcd : (x == ("__classdict__" : Str)) = false := by decide)
    (hs : swapsWith e (some (.Attribute (.Name x px) f apos)) pos.line X.env = pure false := by rfl) (hK : X.K = K0 := by rfl) :
    JL X W cl Γ (.Assign [.Attribute (.Name x px) f apos] e pos) (sFld K0 (tVar i) ta f) m (fun y => Γ.set i (some (ow w (oCs C (putA f (A y) l0))))) Γe := by
  subst hK
  obtain ⟨p, kk⟩ := h
  refine ⟨ps_fld (pe_var hN hv hd hcd) p hs, fun σ F O H R D u s q => kk σ F O H R _ u s (q.mono (fun y _ q v F1 g H1 l1 u1 p1 => ?_) fun cc q F' H' l' u' => ?_)⟩
  · obtain ⟨x', h, O', e', t, ⟨v0, rfl, p0⟩, s'⟩ := (s.mono l1).take hl
    obtain ⟨a, dx, vs, h', rfl, t2, sp⟩ := ow_of p0
    have hlz : (nmz l0 vs).length < 1000 := Nat.lt_of_le_of_lt nmz_len (Nat.blt_eq.mp hlen)
    have w1 : Pt (h :: O' :: F1 :: g :: R) H1 := (u1.swap).split2 t
    have w2 : Pt (one a (.ins C dx (nmz l0 vs)) :: one dx (.own a) :: h' :: O' :: F1 :: g :: R) H1 := by
      have := w1.unfold (l := [one a (.ins C dx (nmz l0 vs)), one dx (.own a), h']) t2
      exact this
    refine ⟨.ref a, e', a, C, dx, _, rfl, w2.at1, c, n, hlz, ?_⟩
    have w3 : Pt (one a (.ins C dx (putF f v (nmz l0 vs))) :: one dx (.own a) :: h' :: O' :: F1 :: g :: R) _ := w2.write
    have w4 : Pt (h' :: g :: one a (.ins C dx (putF f v (nmz l0 vs))) :: one dx (.own a) :: O' :: F1 :: R) _ := (w3.mv 5).mv 3
    obtain ⟨c1, j1, w5⟩ := w4.join2
    obtain ⟨vs', h4, hr, ez, s4, t4⟩ := Sep.putA (f := f) sp p1 j1
    have w6 : Pt (h4 :: hr :: one a (.ins C dx (putF f v (nmz l0 vs))) :: one dx (.own a) :: O' :: F1 :: R) _ := w5.split2 t4
    have w7 : Pt (F1 :: hr :: h4 :: one a (.ins C dx (putF f v (nmz l0 vs))) :: one dx (.own a) :: O' :: R) _ := (w6.mv 1).mv 5
    obtain ⟨F2, lf, _, w8⟩ := w7.leak
    have w9 : Pt ([one a (.ins C dx (putF f v (nmz l0 vs))), one dx (.own a), h4] ++ (F2 :: O' :: R)) _ := ((w8.mv 1).mv 3).mv 3 |>.mv 0 |> fun z => (z.mv 0 |>.mv 0)
    have w10 := w9.fold
    have jj : Pt [one a (.ins C dx (putF f v (nmz l0 vs))), one dx (.own a), h4] (jnl [one a (.ins C dx (putF f v (nmz l0 vs))), one dx (.own a), h4]) := jnl_pt ((List.pairwise_append.mp w9.1).1)
    obtain ⟨c3, j3, w11⟩ := (w10.mv 1 |>.mv 1 |>.mv 2 |>.mv 1).join2
    refine q σ F2 c3 _ (l1.tr lf) w11.swap ?_
    have := (s'.mono lf).put' (set_none_at hl) e' (ow_to (B := oCs C (putA f (A y) l0)) p0 ⟨a, dx, vs', h4, rfl, by rw [ez]; exact jj, s4.mono lf⟩) j3
    rw [set_set] at this
    exact this
  · obtain ⟨F2, O2, l2, u2, s2⟩ := we.slots (s.mono l') u'
    exact q σ F2 O2 H' (l'.tr l2) u2 s2
def setA (f : Str) (A : Asn) : Fds → Fds
  | [] => []
  | (g, B) :: r => match f == g with
    | true => (g, A) :: r
    | false => (g, B) :: setA f A r
theorem setA_names {f : Str} {A : Asn} : ∀ {l : Fds} {vs : List V}, nmz (setA f A l) vs = nmz l vs
  | [], _ => rfl
  | (g, B) :: r, [] => by
    unfold setA
    cases f == g <;> rfl
  | (g, B) :: r, v :: vs => by
    unfold setA
    cases f == g with
    | true => rfl
    | false => exact congrArg ((g, v) :: ·) setA_names
theorem Sep.focusF {F : Hp} {f : Str} {A : Asn} : ∀ {l : Fds} {vs : List V} {h : Hp}, Sep (asl l) vs F h → l.lookup f = some A →
    ∃ v hp hc, (nmz l vs).lookup f = some v ∧ Pt [hp, hc] h ∧ A.p v F hp ∧ ∀ (A' : Asn) F2 g h3, Le F F2 → A'.p v F2 g → Pt [g, hc] h3 → Sep (asl (setA f A' l)) vs F2 h3
  | (g, B) :: l, v :: vs, h, ⟨h1, h2, t, p, r⟩, e => by
    rw [List.lookup_cons] at e
    show ∃ w hp hc, List.lookup f ((g, v) :: nmz l vs) = some w ∧ _
    rw [List.lookup_cons]
    unfold setA
    by_cases q : (f == g) = true
    · simp only [q, if_true] at e ⊢
      cases e
      exact ⟨v, h1, h2, rfl, t, p, fun A' F2 g h3 l2 pg tg => ⟨g, h2, tg, pg, r.mono l2⟩⟩
    · simp only [q, if_false, Bool.false_eq_true] at e ⊢
      obtain ⟨w, hp, hc, e', t', p', k⟩ := Sep.focusF r e
      have u : Pt [hp, hc, h1] h := (t.swap).unfold t'
      obtain ⟨c, j, z⟩ := (u.perm (l' := [hc, h1, hp]) (List.perm_append_comm (l₁ := [hp]) (l₂ := [hc, h1]))).join2
      refine ⟨w, hp, c, e', z.swap, p', fun A' F2 g h3 l2 pg tg => ?_⟩
      have u2 : Pt [hc, h1, g] h3 := (tg.swap).unfold j
      obtain ⟨m, j2, z3⟩ := (u2.perm (l' := [g, hc, h1]) (List.perm_append_comm (l₁ := [hc, h1]) (l₂ := [g]))).join2
      exact ⟨h1, m, z3.swap, B.mono l2 p, k A' F2 g m l2 pg j2⟩
  | [], _, _, _, e => by cases e
theorem jp_fld {K0 : PySem.W.Frag} {f : Str} {C : Addr} {fl : β → Fds} {Bf : γ → Asn} (g : β → γ) (sf : β → γ → β) {m : Rs ι} {get : ι → β} {put : ι → β → δ} (c : Cls X.K C) (n : NoAttr X.K C f) (h1 : JP X W cl Γ i w S d0 a ta m (fun y => oCs C (fl y)) get put)
    (hf : ∀ y, (fl y).lookup f = some (Bf (g y)) := by intro _; rfl) (hs : ∀ y z, fl (sf y z) = setA f (Bf z) (fl y) := by intro _ _; rfl) (hb : attributeBase a f X.env (eval a X.env) = eval a X.env := by rfl) (hK : X.K = K0 := by rfl) :
    JP X W cl Γ i w S d0 (.Attribute a f pos) (tFld K0 ta f) m Bf (fun x => g (get x)) (fun x y => put x (sf (get x) y)) := by
  subst hK
  obtain ⟨pa, hl, ka⟩ := h1
  refine ⟨pe_fld pa hb, hl, fun σ F O H R Q u s v0 h0 O' e0 t p q => ka σ F O H R _ u s v0 h0 O' e0 t p (q.mono (fun x _ q v F1 H1 l1 u1 ln => ?_) fun c q => q)⟩
  obtain ⟨hp, hc, tt, ⟨ad, dx, vs, h', rfl, t2, sp⟩, kk⟩ := ln
  obtain ⟨v, fp, fc, ev, tf, pf, kf⟩ := sp.focusF (hf (get x))
  have lO : Le h0 H1 := (t.le (by simp)).tr (u1.le (by simp))
  refine ⟨ad, C, dx, _, v, rfl, lO _ _ ((tt.le (by simp) : Le hp h0) _ _ t2.at1), c, n, ev, q v F1 H1 l1 u1 ?_⟩
  have w1 : Pt [one ad (.ins C dx (nmz (fl (get x)) vs)), one dx (.own ad), h', hc] h0 := tt.unfold t2
  have w3 : Pt ([fp, fc] ++ [one ad (.ins C dx (nmz (fl (get x)) vs)), one dx (.own ad), hc]) h0 := (w1.mv 2 : Pt [h', one ad (.ins C dx (nmz (fl (get x)) vs)), one dx (.own ad), hc] h0).unfold tf
  obtain ⟨c1, j1, w4⟩ : ∃ c, Pt [fc, one ad (.ins C dx (nmz (fl (get x)) vs)), one dx (.own ad), hc] c ∧ Pt [c, fp] h0 :=
    ⟨_, jnl_pt (w3.1.sublist (List.sublist_cons_self _ _)), Pt.fold (l := [fc, one ad (.ins C dx (nmz (fl (get x)) vs)), one dx (.own ad), hc]) (l' := [fp]) (w3.perm (List.perm_append_comm (l₁ := [fp]) (l₂ := [fc, one ad (.ins C dx (nmz (fl (get x)) vs)), one dx (.own ad), hc])))⟩
  refine ⟨fp, c1, w4.swap, pf, fun y' F3 g1 g3 l3 pg tg => ?_⟩
  have w5 : Pt [fc, one ad (.ins C dx (nmz (fl (get x)) vs)), one dx (.own ad), hc, g1] g3 := (tg.swap).unfold j1
  have w6 : Pt [g1, fc, one ad (.ins C dx (nmz (fl (get x)) vs)), one dx (.own ad), hc] g3 := w5.mv 4
  obtain ⟨c2, j2, w7⟩ := w6.join2
  have w8 : Pt ([one ad (.ins C dx (nmz (fl (get x)) vs)), one dx (.own ad), c2] ++ [hc]) g3 := (w7.mv 2 |>.mv 2)
  have jj := jnl_pt ((List.pairwise_append.mp w8.1).1)
  have w9 := w8.fold
  refine kk (sf (get x) y') F3 _ g3 l3 ⟨ad, dx, vs, c2, rfl, ?_, ?_⟩ w9
  · rw [hs, setA_names]; exact jj
  · rw [hs]; exact kf (Bf y') F3 g1 c2 l3 pg j2
end
end Br
namespace Br
open PySem PySem.Spec L2
variable [tgi : Tbs]
section
variable {α : Type}
def dget (d : List (Int × α)) (k : Int) : Option α := (d.find? fun q => decide (q.1 = k)).map (·.2)
def dhas (d : List (Int × α)) (k : Int) : Bool := d.any fun q => decide (q.1 = k)
def dput (d : List (Int × α)) (k : Int) (v : α) : List (Int × α) := if dhas d k = true then d.map (fun q => if q.1 = k then (q.1, v) else q) else d ++ [(k, v)]
def ddel (d : List (Int × α)) (k : Int) : List (Int × α) := d.filter fun q => decide (q.1 ≠ k)
def DKs (E : α → Asn) (F : Hp) : List (Int × α) → List (Key × V) → Prop
  | [], [] => True
  | (k, x) :: d, (k', v) :: kvs => k' = Sum.inl k ∧ (E x).p v F emp ∧ DKs E F d kvs
  | _, _ => False
variable {E : α → Asn} {F F' : Hp}
theorem DKs.mono (l : Le F F') : ∀ {d : List (Int × α)} {kvs : List (Key × V)}, DKs E F d kvs → DKs E F' d kvs
  | [], [], _ => trivial
  | (k, x) :: d, (k', v) :: kvs, ⟨e, p, r⟩ => ⟨e, (E x).mono l p, DKs.mono l r⟩
theorem DKs.len : ∀ {d : List (Int × α)} {kvs : List (Key × V)}, DKs E F d kvs → d.length = kvs.length
  | [], [], _ => rfl
  | (k, x) :: d, (k', v) :: kvs, ⟨_, _, r⟩ => by simp [r.len]
theorem inl_dec {j k : Int} : decide ((Sum.inl j : Key) = Sum.inl k) = decide (j = k) := by
  by_cases h : j = k
  · subst h; simp
  · rw [decide_eq_false h, decide_eq_false]; intro e; exact h (Sum.inl.inj e)
theorem DKs.get {k : Int} : ∀ {d : List (Int × α)} {kvs : List (Key × V)}, DKs E F d kvs → (dget d k = none ∧ valV kvs (Sum.inl k) = none) ∨ ∃ x v, dget d k = some x ∧ valV kvs (Sum.inl k) = some v ∧ (E x).p v F emp
  | [], [], _ => .inl ⟨rfl, rfl⟩
  | (j, x) :: d, (k', v) :: kvs, ⟨e, p, r⟩ => by
    subst e
    unfold dget valV
    rw [List.find?_cons, List.find?_cons]
    simp only [inl_dec]
    cases decide (j = k) with
    | true => exact .inr ⟨x, v, rfl, rfl, p⟩
    | false => exact r.get
theorem dhas_get {d : List (Int × α)} {k : Int} : dhas d k = (dget d k).isSome := by
  unfold dhas dget
  rw [Option.isSome_map, List.find?_isSome_of_any]
where
  List.find?_isSome_of_any : ∀ {d : List (Int × α)} {k : Int}, (d.find? fun q => decide (q.1 = k)).isSome = d.any fun q => decide (q.1 = k)
  | [], _ => rfl
  | q :: d, k => by
    rw [List.find?_cons, List.any_cons]
    cases decide (q.1 = k) with
    | true => rfl
    | false => simpa using List.find?_isSome_of_any
theorem DKs.has {k : Int} {d : List (Int × α)} {kvs : List (Key × V)} (q : DKs E F d kvs) : (valV kvs (Sum.inl k)).isSome = dhas d k := by
  rw [dhas_get]
  rcases q.get (k := k) with ⟨a, b⟩ | ⟨x, v, a, b, _⟩ <;> rw [a, b] <;> rfl
theorem DKs.map {k : Int} {x : α} {v : V} (p : (E x).p v F emp) : ∀ {d : List (Int × α)} {kvs : List (Key × V)}, DKs E F d kvs → DKs E F (d.map fun q => if q.1 = k then (q.1, x) else q) (kvs.map fun q => if q.1 = Sum.inl k then (q.1, v) else q)
  | [], [], _ => trivial
  | (j, y) :: d, (k', u) :: kvs, ⟨e, p1, r⟩ => by
    subst e
    rw [List.map_cons, List.map_cons]
    by_cases h : j = k
    · rw [if_pos h, if_pos (congrArg Sum.inl h)]
      exact ⟨rfl, p, r.map p⟩
    · rw [if_neg h, if_neg (fun z => h (Sum.inl.inj z))]
      exact ⟨rfl, p1, r.map p⟩
theorem DKs.snoc {k : Int} {x : α} {v : V} (p : (E x).p v F emp) : ∀ {d : List (Int × α)} {kvs : List (Key × V)}, DKs E F d kvs → DKs E F (d ++ [(k, x)]) (kvs ++ [(Sum.inl k, v)])
  | [], [], _ => ⟨rfl, p, trivial⟩
  | (j, y) :: d, (k', u) :: kvs, ⟨e, p1, r⟩ => ⟨e, p1, r.snoc p⟩
theorem DKs.put {k : Int} {x : α} {v : V} {d : List (Int × α)} {kvs : List (Key × V)} (q : DKs E F d kvs) (p : (E x).p v F emp) : DKs E F (dput d k x) (putK kvs (Sum.inl k) v) := by
  unfold dput putK
  rw [valV_any, q.has]
  split
  · exact q.map p
  · exact q.snoc p
theorem DKs.del {k : Int} : ∀ {d : List (Int × α)} {kvs : List (Key × V)}, DKs E F d kvs → DKs E F (ddel d k) (dropK kvs (Sum.inl k))
  | [], [], _ => trivial
  | (j, y) :: d, (k', u) :: kvs, ⟨e, p1, r⟩ => by
    subst e
    unfold ddel dropK
    rw [List.filter_cons, List.filter_cons]
    by_cases h : j = k
    · have h2 : (Sum.inl j : Key) = Sum.inl k := congrArg Sum.inl h
      simp only [h, h2, ne_eq, not_true, decide_false]
      exact r.del
    · have h2 : ¬ (Sum.inl j : Key) = Sum.inl k := fun z => h (Sum.inl.inj z)
      simp only [h, h2, ne_eq, not_false_iff, decide_true, if_true]
      exact ⟨rfl, p1, r.del⟩
theorem DKs.keys : ∀ {d : List (Int × α)} {kvs : List (Key × V)}, DKs E F d kvs → kvs.map (·.1) = (d.map (·.1)).map Sum.inl
  | [], [], _ => rfl
  | (j, y) :: d, (k', u) :: kvs, ⟨e, p1, r⟩ => by
    subst e
    rw [List.map_cons, List.map_cons, List.map_cons, r.keys]
theorem DKs.nof {G : Hp} (n : ∀ x, NoF (E x)) : ∀ {d : List (Int × α)} {kvs : List (Key × V)}, DKs E F d kvs → DKs E G d kvs
  | [], [], _ => trivial
  | (j, y) :: d, (k', u) :: kvs, ⟨e, p, r⟩ => ⟨e, n y _ _ _ _ p, r.nof n⟩
theorem DKs.not {G : Hp} (g : ∀ a t, F a = some (.tup t) → G a = some (.tup t)) (n : ∀ x, NoT (E x)) : ∀ {d : List (Int × α)} {kvs : List (Key × V)}, DKs E F d kvs → DKs E G d kvs
  | [], [], _ => trivial
  | (j, y) :: d, (k', u) :: kvs, ⟨e, p, r⟩ => ⟨e, n y _ _ _ _ g p, r.not g n⟩
/-- one's own dict; a frozen one -/
def oD (E : α → Asn) (d : List (Int × α)) : Asn := ⟨fun v F h => ∃ a kvs, v = .ref a ∧ h = one a (.dK kvs) ∧ DKs E F d kvs, by
  intro v F F' h le q
  obtain ⟨a, kvs, e, e2, r⟩ := q
  exact ⟨a, kvs, e, e2, r.mono le⟩, fun ⟨a, kvs, e, e2, r⟩ => e2 ▸ cl_one⟩
def lD (E : α → Asn) (d : List (Int × α)) : Asn := ⟨fun v F h => h = emp ∧ ∃ a kvs, v = .ref a ∧ F a = some (.dK kvs) ∧ DKs E F d kvs, by
  intro v F F' h le q
  obtain ⟨z, a, kvs, e, e2, r⟩ := q
  exact ⟨z, a, kvs, e, le _ _ e2, r.mono le⟩, fun q => q.1 ▸ cl_emp⟩
instance : PerF (lD E) := ⟨fun _ _ _ _ q => q.1⟩
instance : FrzF (oD E) (lD E) := ⟨fun d v F h F' ⟨a, kvs, e, e2, r⟩ le lh => ⟨rfl, a, kvs, e, lh _ _ (by rw [e2]; exact one_same), r.mono le⟩⟩
instance : FrzF (lD E) (lD E) := ⟨fun _ => .per fun _ _ _ q => q.1⟩
instance [n : NofF E] : NofF (oD E) := ⟨fun d v F F' h ⟨a, kvs, e, e2, r⟩ => ⟨a, kvs, e, e2, r.nof n.nof⟩⟩
instance [n : NuF E] : NuF (oD E) := ⟨fun d v F F' h g ⟨a, kvs, e, e2, r⟩ => ⟨a, kvs, e, e2, r.not g n.nu⟩⟩
instance : NtF (oD E) := ⟨fun d v F h ⟨a, kvs, e, e2, r⟩ b t => by
  rw [e2]; intro z; cases (one_some z).2⟩
instance : NnF (oD E) := ⟨fun _ _ _ ⟨_, _, e, _⟩ => nomatch e⟩
instance : NnF (lD E) := ⟨fun _ _ _ ⟨_, _, _, e, _⟩ => nomatch e⟩
class RdD (D : List (Int × α) → Asn) (E : outParam (α → Asn)) : Prop where
  rd : ∀ d v F h, (D d).p v F h → ∃ a kvs, v = .ref a ∧ (∀ H, Le F H → Le h H → H a = some (.dK kvs)) ∧ DKs E F d kvs
instance : RdD (oD E) E := ⟨fun d v F h ⟨a, kvs, e, e2, r⟩ => ⟨a, kvs, e, fun H _ l => l _ _ (by rw [e2]; exact one_same), r⟩⟩
instance : RdD (lD E) E := ⟨fun d v F h ⟨z, a, kvs, e, e2, r⟩ => ⟨a, kvs, e, fun H l _ => l _ _ e2, r⟩⟩
end
section
variable {α β γ δ ι ρ B T S' : Type} {X : Cx} {W : WX} {cl : String → Addr} {Γ Γe : Ctx} {tg e o a b c : Expr} {es : List Expr} {pos p : Pos} {ta tb : TE} {k j : Nat} {S : δ → Asn} {d0 : δ} {i : Nat} {w : Option V}
theorem hu_of' (G : Gd X W k) : X.A.units + 1 < cLine := by have := G.room.units; omega
theorem jn_dnew {A : α → Asn} : JN X W cl Γ (.Dict [] [] pos) tDNewK (.ok []) (oD A) :=
  ⟨pe_dnewK, fun σ F O H R Q u s q p hp => q _ F (one p (.dK [])) _ .rfl ((u.alloc hp).mv 2 |>.mv 2) ⟨p, [], rfl, rfl, trivial⟩⟩
/-- {k: v} -/
theorem jn_d1 {A : α → Asn} [pf : PerF A] {m : Rs Int} {n : Rs α} (h1 : JN X W cl Γ a ta m aI) (h2 : JN X W cl Γ b tb n A) : JN X W cl Γ (.Dict [some a] [b] pos) (tDisp [(ta, tb)]) (m.b fun x => n.b fun y => .ok [(x, y)]) (oD A) := by
  obtain ⟨pa, ka⟩ := h1
  obtain ⟨pb, kb⟩ := h2
  refine ⟨pe_disp (pps_cons pa pb pps_nil) rfl rfl (by simp) (by simp), fun σ F O H R Q u s q p hp => ?_⟩
  have u1 : Pt (F :: O :: one p (.dK []) :: R) _ := ((u.alloc (o := .dK []) hp).mv 2).mv 2
  refine ka σ F O _ (one p (.dK []) :: R) _ u1 s (q.bind.mono (fun x _ q v F1 h1 H1 l1 u2 p1 => ?_) fun c q F1 H1 l1 u2 => ?_)
  · obtain ⟨rfl, rfl⟩ := p1
    refine kb σ F1 O H1 (one p (.dK []) :: R) _ (pt_skip u2 rfl) (s.mono l1) (q.bind.mono (fun y _ q v F2 h2 H2 l2 u3 p2 => ?_) fun c q F2 H2 l2 u3 => ?_)
    · have e2 := pf.per _ _ _ _ p2
      subst e2
      have u4 := pt_skip u3 rfl
      have w1 : Pt (one p (.dK []) :: F2 :: O :: R) H2 := u4.mv 2
      refine ⟨w1.at1, [(Sum.inl x, v)], rfl, by simp, ?_⟩
      have w2 : Pt (one p (.dK (mergeK [] [(Sum.inl x, v)])) :: F2 :: O :: R) _ := w1.write
      exact q _ F2 (one p (.dK [(Sum.inl x, v)])) _ (l1.tr l2) (w2.mv 2 |>.mv 2) ⟨p, _, rfl, rfl, rfl, p2, trivial⟩
    · obtain ⟨F3, l3, _, u4⟩ := pt_leak3 u3
      exact q F3 H2 (l1.tr (l2.tr l3)) u4
  · obtain ⟨F3, l3, _, u4⟩ := pt_leak3 u2
    exact q F3 H1 (l1.tr l3) u4
theorem jn_dget {D : List (Int × α) → Asn} {A : α → Asn} [rd : RdD D A] [pf : PerF A] {m : Rs (List (Int × α))} {n : Rs Int} (G : Gd X W k) (h1 : JN X W cl Γ a ta m D) (h2 : JN X W cl Γ b tb n aI) (hs : NoSl b := by intro _ _; rfl) :
    JN X W cl Γ (.Subscript a b pos) (tDGet ta tb) (m.b fun x => n.b fun y => opt (dget x y)) A :=
  JN.bin (C := A) (f := fun x y => dget x y) h1 h2 (r := fun x y H Q => ∃ a v, x = .ref a ∧ DGet H a y (some v) ∧ Q v H) (fun p q => pe_dget (hu_of' G) p q hs) fun d k v w F h1 h2 H R Q c e u p q kk => by
    obtain ⟨a, kvs, rfl, ha, r⟩ := rd.rd _ _ _ _ p
    obtain ⟨rfl, e2⟩ := q
    subst e2
    have u2 : Pt (F :: h1 :: R) H := (u.swap).dropE
    obtain ⟨l1, l2⟩ := le_part u2
    replace e : dget d k = some c := e
    rcases r.get (k := k) with ⟨z, _⟩ | ⟨x, v, z1, z2, pv⟩
    · rw [z] at e; cases e
    · rw [z1] at e; cases e
      refine ⟨a, v, rfl, ?_, kt_val kk u2 fun F' l _ => (A c).mono l pv⟩
      have := DGet.k (k := Sum.inl k) (ha H l1 l2)
      rw [z2] at this
      exact this
/-- k in d, k not in d -/
theorem jn_din {D : List (Int × α) → Asn} {A : α → Asn} [rd : RdD D A] {m : Rs (List (Int × α))} {n : Rs Int} (G : Gd X W k) (h2 : JN X W cl Γ a ta n aI) (h1 : JN X W cl Γ b tb m D) (hp : PE X a ta → PE X b tb → PE X e (tDIn ta tb)) :
    JN X W cl Γ e (tDIn ta tb) (n.b fun y => m.b fun x => .ok (dhas x y)) aB :=
  JN.bin (C := aB) (f := fun y x => some (dhas x y)) h2 h1 (r := fun y x H Q => ∃ a o, x = .ref a ∧ DGet H a y o ∧ Q (.bl o.isSome) H) hp fun k d w v F h2 h1 H R Q c e u q p kk => by
    obtain ⟨a, kvs, rfl, ha, r⟩ := rd.rd _ _ _ _ p
    obtain ⟨rfl, e2⟩ := q
    subst e2
    have u2 : Pt (F :: h1 :: R) H := (u.mv 2).dropE
    obtain ⟨l1, l2⟩ := le_part u2
    exact ⟨a, _, rfl, DGet.k (k := Sum.inl k) (ha H l1 l2), kt_val kk u2 fun F' l _ => ⟨by rw [r.has]; cases e; rfl, rfl⟩⟩
theorem jn_dnin {D : List (Int × α) → Asn} {A : α → Asn} [rd : RdD D A] {m : Rs (List (Int × α))} {n : Rs Int} (G : Gd X W k) (h2 : JN X W cl Γ a ta n aI) (h1 : JN X W cl Γ b tb m D) (hp : PE X a ta → PE X b tb → PE X e (tDNotIn ta tb)) :
    JN X W cl Γ e (tDNotIn ta tb) (n.b fun y => m.b fun x => .ok (!dhas x y)) aB :=
  JN.bin (C := aB) (f := fun y x => some (!dhas x y)) h2 h1 (r := fun y x H Q => ∃ a o, x = .ref a ∧ DGet H a y o ∧ Q (.bl (!o.isSome)) H) hp fun k d w v F h2 h1 H R Q c e u q p kk => by
    obtain ⟨a, kvs, rfl, ha, r⟩ := rd.rd _ _ _ _ p
    obtain ⟨rfl, e2⟩ := q
    subst e2
    have u2 : Pt (F :: h1 :: R) H := (u.mv 2).dropE
    obtain ⟨l1, l2⟩ := le_part u2
    exact ⟨a, _, rfl, DGet.k (k := Sum.inl k) (ha H l1 l2), kt_val kk u2 fun F' l _ => ⟨by rw [r.has]; cases e; rfl, rfl⟩⟩
theorem jn_in {D : List (Int × α) → Asn} {A : α → Asn} [rd : RdD D A] {m : Rs (List (Int × α))} {n : Rs Int} (G : Gd X W k) (h2 : JN X W cl Γ a ta n aI) (h1 : JN X W cl Γ b tb m D) (hm : behindInMarks .In b = false := by rfl) : JN X W cl Γ (.Compare a [.In] [b] pos) (tDIn ta tb) (n.b fun y => m.b fun x => .ok (dhas x y)) aB :=
  jn_din G h2 h1 fun p q => pe_cmp (pc_din (hu_of' G) p q) hm
theorem jn_nin {D : List (Int × α) → Asn} {A : α → Asn} [rd : RdD D A] {m : Rs (List (Int × α))} {n : Rs Int} (G : Gd X W k) (h2 : JN X W cl Γ a ta n aI) (h1 : JN X W cl Γ b tb m D) (hm : behindInMarks .NotIn b = false := by rfl) : JN X W cl Γ (.Compare a [.NotIn] [b] pos) (tDNotIn ta tb) (n.b fun y => m.b fun x => .ok (!dhas x y)) aB :=
  jn_dnin G h2 h1 fun p q => pe_cmp (pc_dnotin (hu_of' G) p q) hm
theorem jt_in {D : List (Int × α) → Asn} {A : α → Asn} [rd : RdD D A] {m : Rs (List (Int × α))} {n : Rs Int} (G : Gd X W k) (h2 : JN X W cl Γ a ta n aI) (h1 : JN X W cl Γ b tb m D) (hm : behindInMarks .In b = false := by rfl) : JT X W cl Γ (.Compare a [.In] [b] pos) (tTest (tDIn ta tb)) (n.b fun y => m.b fun x => .ok (dhas x y)) := jt_c (jn_in G h2 h1 hm) (pt_cmp (pc_din (hu_of' G) h2.pe h1.pe) hm)
theorem jt_nin {D : List (Int × α) → Asn} {A : α → Asn} [rd : RdD D A] {m : Rs (List (Int × α))} {n : Rs Int} (G : Gd X W k) (h2 : JN X W cl Γ a ta n aI) (h1 : JN X W cl Γ b tb m D) (hm : behindInMarks .NotIn b = false := by rfl) : JT X W cl Γ (.Compare a [.NotIn] [b] pos) (tTest (tDNotIn ta tb)) (n.b fun y => m.b fun x => .ok (!dhas x y)) := jt_c (jn_nin G h2 h1 hm) (pt_cmp (pc_dnotin (hu_of' G) h2.pe h1.pe) hm)
def dputR (d : List (Int × α)) (k : Int) (v : α) : Rs (List (Int × α)) := if d.length ≤ 1000000 then .ok (dput d k v) else .no
/-- d[k] = v, d a place -/
theorem jl_dput {A : α → Asn} [pf : PerF A] {m : Rs ι} {n : Rs α} {o : Rs Int} {get : ι → List (Int × α)} {put : ι → List (Int × α) → δ} {apos : Pos} {ie : Expr} {tc : TE} (G : Gd X W k) (we : Wk Γ Γe) (hv : JN X W cl Γ e tb n A) (h : JP X W cl Γ i w S d0 a ta m (oD A) get put) (h2 : JN X W cl Γ ie tc o aI)
    (hs : swapsWith e (some (.Subscript a ie apos)) pos.line X.env = pure false := by rfl) :
    JL X W cl Γ (.Assign [.Subscript a ie apos] e pos) (sDPut ta tc tb) (n.b fun y => m.b fun x => o.b fun j => (dputR (get x) j y).b fun zs => .ok (put x zs)) (fun d => Γ.set i (some (ow w (S d)))) Γe := by
  have hl := h.hl
  refine ⟨ps_dput (hu_of' G) h.pe h2.pe hv.pe hs, fun σ F O H R D u s q => ?_⟩
  refine hv.run σ F O H R _ u s (q.bind.mono (fun y _ q z F1 g H1 l1 u1 p1 => ?_) fun c q F' H' l' u' => ?_)
  · have eg := pf.per _ _ _ _ p1
    subst eg
    have u1' := pt_skip u1 rfl
    refine jp_place h u1' (s.mono l1) (q.bind.mono (fun x _ q v v0 h0 O' F2 H2 l2 u2 e0 t0 s2 ln => ?_) fun c q F' H' l' u' => ?_)
    · refine h2.run σ F2 O H2 R _ u2 (s.mono (l1.tr l2)) (q.bind.mono (fun j _ q jv F3 g3 H3 l3 u3 p3 => ?_) fun c q F' H' l' u' => ?_)
      · obtain ⟨rfl, rfl⟩ := p3
        replace q := q.bind
        unfold dputR at q
        by_cases hz : (get x).length ≤ 1000000
        case neg => rw [if_neg hz] at q; exact q.elim
        rw [if_pos hz] at q
        have u4 := pt_skip u3 rfl
        obtain ⟨hp, hc, tt, ⟨ad, kvs, rfl, rfl, r⟩, kk⟩ := ln.mono l3
        have w1 : Pt (h0 :: O' :: F3 :: R) H3 := (u4.swap).split2 t0
        have w2 : Pt (one ad (.dK kvs) :: hc :: O' :: F3 :: R) H3 := w1.split2 tt
        refine ⟨ad, _, rfl, DPut.k (k := Sum.inl j) (v := z) w2.at1 (by rw [← r.len]; exact Nat.lt_of_le_of_lt hz line6), ?_⟩
        have w3 : Pt (one ad (.dK (putK kvs (Sum.inl j) z)) :: hc :: O' :: F3 :: R) _ := w2.write
        obtain ⟨c1, j1, w4⟩ := w3.join2
        obtain ⟨c2, j2, w5⟩ := w4.join2
        have pz := kk (dput (get x) j y) F3 _ c1 .rfl ⟨ad, _, rfl, rfl, r.put ((A y).mono (l2.tr l3) p1)⟩ j1
        have := (s2.mono l3).put' (set_none_at hl) e0 pz j2
        rw [set_set] at this
        exact q σ F3 c2 _ (l1.tr (l2.tr l3)) w5.swap this
      · obtain ⟨F2, O2, l4, u4, s4⟩ := we.slots (s.mono (l1.tr (l2.tr l'))) u'
        exact q σ F2 O2 H' (l1.tr (l2.tr (l'.tr l4))) u4 s4
    · obtain ⟨F2, O2, l2, u2, s2⟩ := we.slots (s.mono (l1.tr l')) u'
      exact q σ F2 O2 H' (l1.tr (l'.tr l2)) u2 s2
  · obtain ⟨F2, O2, l2, u2, s2⟩ := we.slots (s.mono l') u'
    exact q σ F2 O2 H' (l'.tr l2) u2 s2
theorem jn_dlen {D : List (Int × α) → Asn} {A : α → Asn} [rd : RdD D A] {m : Rs (List (Int × α))} (hm : X.mg "len" = none) (h1 : JN X W cl Γ a ta m D) (hg : Gl X "len" := by rfl) (hs : starEach [a] X.env = (false, eval a X.env) :: starEach [] X.env := by rfl) :
    JN X W cl Γ (.Call (.Name "len" p) [a] [] pos) (tCB (fun xs H Q => ∃ a kvs, xs = [V.ref a] ∧ H a = some (.dK kvs) ∧ Q (.int kvs.length) H) (tCons ta tNil)) (m.b fun x => .ok (x.length : Int)) aI :=
  JN.args (jns_one h1 hs) (fun q => pe_callB call_lenD hg hm boot_len q (he := hs)) (f := fun x => some (x.length : Int)) fun xs vs F h H R Q c e u sp k => by
    cases e
    obtain ⟨v, rfl, p1⟩ := sep1 sp
    obtain ⟨a, kvs, rfl, ha, r⟩ := rd.rd _ _ _ _ p1
    obtain ⟨l1, l2⟩ := le_part u
    exact ⟨a, kvs, rfl, ha H l1 l2, kt_val k u fun F' _ _ => ⟨by rw [r.len], rfl⟩⟩
theorem sep_intsI {F : Hp} : ∀ {xs : List Int}, Sep (xs.map aI) (xs.map V.int) F emp
  | [] => rfl
  | x :: xs => ⟨emp, emp, .r_emp, ⟨rfl, rfl⟩, sep_intsI⟩
theorem jn_dlist {D : List (Int × α) → Asn} {A : α → Asn} [rd : RdD D A] {m : Rs (List (Int × α))} (G : Gd X W k) (hm : X.mg "list" = none) (h1 : JN X W cl Γ a ta m D) (hg : Gl X "list" := by rfl) (hs : starEach [a] X.env = (false, eval a X.env) :: starEach [] X.env := by rfl) (hpl : (backTo pos (starEach [] X.env)).any (·.1) = false := by rfl) :
    JN X W cl Γ (.Call (.Name "list" p) [a] [] pos) (tCB (fun xs H Q => ∃ (a : Addr) (kvs : List (Key × V)), xs = [.ref a] ∧ Rd H a (.dK kvs) ∧ ∀ p, H p = none → Q (.ref p) (upd H p (.lst (kvs.map fun kv => kV kv.1)))) (tCons ta tNil)) (m.b fun d => .ok (d.map (·.1))) (oA aI) :=
  JN.args (C := oA aI) (jns_one h1 hs) (fun q => pe_callTy (call_listD G.calm) hg hm (by decide +kernel) q (he := hs) (hpl := hpl)) (f := fun x : List (Int × α) => some (x.map (·.1))) fun xs vs F h H R Q c e u sp k => by
    cases e
    obtain ⟨v, rfl, p1⟩ := sep1 sp
    obtain ⟨a, kvs, rfl, ha, r⟩ := rd.rd _ _ _ _ p1
    obtain ⟨l1, l2⟩ := le_part u
    refine ⟨a, kvs, rfl, .inl (ha H l1 l2), fun l hl => ?_⟩
    have ek : (kvs.map fun kv => kV kv.1) = (xs.map (·.1)).map V.int := by
      have := congrArg (List.map kV) r.keys
      rw [List.map_map, List.map_map] at this
      exact this
    rw [ek]
    obtain ⟨F2, l3, _, u2⟩ := u.leak
    exact k _ F2 (one l (.lst ((xs.map (·.1)).map V.int))) _ l3 ((u2.alloc hl).swap) ⟨l, _, emp, rfl, .r_emp, sep_intsI⟩
def srt (xs : List Int) : List Int := xs.mergeSort fun a b => decide (a ≤ b)
theorem srt_perm (xs : List Int) : (srt xs).Perm xs := List.mergeSort_perm _ _
theorem srt_le (xs : List Int) : (srt xs).Pairwise (· ≤ ·) := by
  have := List.pairwise_mergeSort (le := fun a b : Int => decide (a ≤ b)) (fun a b c => by simp; omega) (fun a b => by simp; omega) xs
  exact this.imp fun h => by simpa using h
theorem perm_le_eq : ∀ {xs ys : List Int}, xs.Perm ys → xs.Pairwise (· ≤ ·) → ys.Pairwise (· ≤ ·) → xs = ys := by
  intro xs
  induction xs with
  | nil => intro ys p _ _; exact (List.nil_perm.mp p).symm
  | cons x xs ih =>
    intro ys p a b
    cases ys with
    | nil => exact absurd p.length_eq (by simp)
    | cons y ys =>
      obtain ⟨a1, a2⟩ := List.pairwise_cons.mp a
      obtain ⟨b1, b2⟩ := List.pairwise_cons.mp b
      have h1 : x ≤ y := by
        rcases List.mem_cons.mp (p.mem_iff.mpr (List.mem_cons_self : y ∈ y :: ys)) with e | m
        · omega
        · exact a1 y m
      have h2 : y ≤ x := by
        rcases List.mem_cons.mp (p.mem_iff.mp (List.mem_cons_self : x ∈ x :: xs)) with e | m
        · omega
        · exact b1 x m
      have e : x = y := by omega
      subst e
      rw [ih (List.Perm.cons_inv p) a2 b2]
def srtO (xs : List Int) : Option (List Int) := if xs.length < 64 then some (srt xs) else none
theorem jn_sorted {K0 : PySem.W.Frag} {L : List Int → Asn} [rd : RdL K0 L aI] {m : Rs (List Int)} (hm : X.mg "sorted" = none) (h1 : JN X W cl Γ a ta m L) (hg : Gl X "sorted" := by rfl) (hs : starEach [a] X.env = (false, eval a X.env) :: starEach [] X.env := by rfl) (hpl : (backTo pos (starEach [] X.env)).any (·.1) = false := by rfl) (hK : X.K = K0 := by rfl) :
    JN X W cl Γ (.Call (.Name "sorted" p) [a] [] pos) (tCB (rSorted K0) (tCons ta tNil)) (m.b fun d => opt (srtO d)) (oA aI) := by
  subst hK
  exact (JN.args (C := oA aI) (jns_one h1 hs) (fun q => pe_callB cr_sorted hg hm (by decide +kernel) q (he := hs) (hpl := hpl)) (f := srtO) fun xs vs F h H R Q c e u sp k => by
    obtain ⟨v, rfl, p1⟩ := sep1 sp
    obtain ⟨a, ws, h', rfl, sq, lh, sp⟩ := rd.rd _ _ _ _ p1
    obtain ⟨l1, l2⟩ := le_part u
    have eh := sp.empE
    subst eh
    have ew := sep_ints sp
    unfold srtO at e
    by_cases hz : xs.length < 64
    case neg => rw [if_neg hz] at e; cases e
    rw [if_pos hz] at e; cases e
    refine ⟨a, xs, rfl, by rw [← ew]; exact sq H l1 l2, hz, fun ns l pm pw hl => ?_⟩
    have en : ns = srt xs := perm_le_eq (pm.trans (srt_perm xs).symm) pw (srt_le xs)
    subst en
    obtain ⟨F2, l3, _, u2⟩ := u.leak
    exact k _ F2 (one l (.lst ((srt xs).map V.int))) _ l3 ((u2.alloc hl).swap) ⟨l, _, emp, rfl, .r_emp, sep_intsI⟩)
theorem jn_dsorted {D : List (Int × α) → Asn} {A : α → Asn} [rd : RdD D A] {m : Rs (List (Int × α))} (G : Gd X W k) (hm : X.mg "sorted" = none) (h1 : JN X W cl Γ a ta m D) (hg : Gl X "sorted" := by rfl) (hs : starEach [a] X.env = (false, eval a X.env) :: starEach [] X.env := by rfl) (hpl : (backTo pos (starEach [] X.env)).any (·.1) = false := by rfl) :
    JN X W cl Γ (.Call (.Name "sorted" p) [a] [] pos) (tCB (fun xs H Q => ∃ (a : Addr) (kvs : List (Key × V)) (ks : List Int), xs = [.ref a] ∧ Rd H a (.dK kvs) ∧ kvs.map (·.1) = ks.map Sum.inl ∧ ks.length < 64 ∧ ∀ (ys : List Int) (p : Addr), ys.Perm ks → ys.Pairwise (· ≤ ·) → H p = none → Q (.ref p) (upd H p (.lst (ys.map V.int)))) (tCons ta tNil)) (m.b fun d => opt (srtO (d.map (·.1)))) (oA aI) :=
  JN.args (C := oA aI) (jns_one h1 hs) (fun q => pe_callB (call_sortedDI G.calm) hg hm (by decide +kernel) q (he := hs) (hpl := hpl)) (f := fun d : List (Int × α) => srtO (d.map (·.1))) fun xs vs F h H R Q c e u sp k => by
    obtain ⟨v, rfl, p1⟩ := sep1 sp
    obtain ⟨a, kvs, rfl, ha, r⟩ := rd.rd _ _ _ _ p1
    obtain ⟨l1, l2⟩ := le_part u
    replace e : srtO (xs.map (·.1)) = some c := e
    unfold srtO at e
    by_cases hz : (xs.map (·.1)).length < 64
    case neg => rw [if_neg hz] at e; cases e
    rw [if_pos hz] at e; cases e
    refine ⟨a, kvs, xs.map (·.1), rfl, .inl (ha H l1 l2), r.keys, hz, fun ns l pm pw hl => ?_⟩
    have en : ns = srt (xs.map (·.1)) := perm_le_eq (pm.trans (srt_perm _).symm) pw (srt_le _)
    subst en
    obtain ⟨F2, l3, _, u2⟩ := u.leak
    exact k _ F2 (one l (.lst ((srt (xs.map (·.1))).map V.int))) _ l3 ((u2.alloc hl).swap) ⟨l, _, emp, rfl, .r_emp, sep_intsI⟩
end
end Br
namespace RT
open PySem PySem.Spec PyProof.Rows
section
variable {prog : Program} {w : World} {A : Around} {E : Value → Shared → Prop} {s : Shared}
theorem call_list_rev {it l : Addr} {items : Array Value} {Q : Value → Shared → Prop} (hh : A.handled = none) (hit : s.heap.IsRevIter it l ((items.size : Int) - 1)) (hl : s.heap.IsList l items) (hne : l ≠ it) (hn : items.size ≤ sizeLine)
    (hQ : ∀ h' tk acc' c', (∀ b o, b ≠ it → s.heap.get? b = some o → h'.get? b = some o) →
      h'.get? s.heap.objs.size = some { cls := .type "list", dict := none, data := .seq acc' c', slots := #[] } → ItemsOf (fun i v => items[items.size - 1 - i]? = some v) acc' items.size → Q (.ref s.heap.objs.size) { s with heap := h', toks := tk }) :
    wpAny (model prog w) A (call (.type "list") [.ref it]) Q E s := by
  refine callType_codes (Q₁ := fun obj s₁ => obj = .ref s.heap.objs.size ∧ s₁ = { s with heap := s.heap.push { cls := .type "list", data := .seq #[] } }) F.called_list (F.typeCall_list_1 _) F.entry_list_init
    (code_list_new _ ⟨rfl, rfl⟩) fun obj s₁ h₁ => ?_
  obtain ⟨rfl, rfl⟩ := h₁
  have hS : (s.heap.push { cls := .type "list", data := .seq #[] }).get? s.heap.objs.size = some { cls := .type "list", data := .seq #[] } := Heap.get?_push_size _ rfl
  refine ⟨⟨_, hS, rfl⟩, F.args_list_init_2 _ _, ?_⟩
  have W := (Walks.listRev (prog := prog) (w := w) (A := A.in1.in1) hh it l hne items).toS
  obtain ⟨oi, hoi, _⟩ := id hit
  obtain ⟨ol, hol, _⟩ := id hl
  have hSi : s.heap.objs.size ≠ it := Nat.ne_of_gt (Heap.lt_size hoi)
  have hSl : s.heap.objs.size ≠ l := Nat.ne_of_gt (Heap.lt_size hol)
  have hSf : s.heap.objs.size ∉ [it, l] := by simp only [List.mem_cons, List.not_mem_nil, or_false, not_or]; exact ⟨hSi, hSl⟩
  show wpAny _ _ (do let old ← Builtin.List.listItems (.ref s.heap.objs.size); Builtin.List.listUpdate (.ref s.heap.objs.size) (fun _ => #[]); letGo old.toList.reverse; Builtin.List.listExtendWith (.ref s.heap.objs.size) (.ref it) .none) _ _ _
  refine wpAny_bind ?_
  unfold Builtin.List.listItems
  refine wpAny_bind (wpAny_seqItems hS rfl (wpAny_pure ?_))
  show wpAny _ _ (updateSeq s.heap.objs.size (fun _ => #[]) >>= fun _ => letGo (#[] : Array Value).toList.reverse >>= fun _ => Builtin.List.listExtendWith (.ref s.heap.objs.size) (.ref it) .none) _ _ _
  refine wpAny_bind (wpAny_updateSeq hS rfl ?_)
  have hS₂ := Heap.get?_update_self (Obj.mapSeq (fun _ => (#[] : Array Value))) hS rfl
  have oth : ∀ b o, b ≠ s.heap.objs.size → (s.heap.push { cls := .type "list", data := .seq #[] }).get? b = some o → ((s.heap.push { cls := .type "list", data := .seq #[] }).update s.heap.objs.size (Obj.mapSeq (fun _ => (#[] : Array Value)))).get? b = some o :=
    fun b o hb e => (Heap.get?_update_other _ _ (Ne.symm hb)).trans e
  refine wpAny_bind (wpAny_letGo ?_)
  have hit1 : ((s.heap.push { cls := .type "list", data := .seq #[] }).update s.heap.objs.size (Obj.mapSeq (fun _ => (#[] : Array Value)))).IsRevIter it l ((items.size : Int) - 1) := hit.at fun o e => oth _ _ (Ne.symm hSi) (Heap.get?_push_of_some _ e)
  have hl1 : ((s.heap.push { cls := .type "list", data := .seq #[] }).update s.heap.objs.size (Obj.mapSeq (fun _ => (#[] : Array Value)))).IsList l items := by
    obtain ⟨o, ho, r⟩ := hl
    exact ⟨o, oth _ _ (Ne.symm hSl) (Heap.get?_push_of_some _ ho), r⟩
  have hT : ({ s with heap := (s.heap.push { cls := .type "list", data := .seq #[] }).update s.heap.objs.size (Obj.mapSeq (fun _ => (#[] : Array Value))) } : Shared).TypeIs (.ref it) "list_reverseiterator" := by
    obtain ⟨o, ho, hc, _⟩ := hit1
    exact ⟨o, ho, hc⟩
  have h1 : Builtin.List.listSameRef (.ref s.heap.objs.size) (.ref it) = false := by simp [Builtin.List.listSameRef, hSi]
  unfold Builtin.List.listExtendWith
  refine wpAny_bind (wpAny_typeOf hT ?_)
  rw [if_neg (by rw [h1]; decide)]
  refine wpAny_bind (wpAny_pyIter_revIter (s := { s with heap := (s.heap.push { cls := .type "list", data := .seq #[] }).update s.heap.objs.size (Obj.mapSeq (fun _ => (#[] : Array Value))) }) hit1 ?_)
  refine wpAny_bind (wpAny_holding ?_)
  unfold Builtin.List.listLengthHint
  refine wpAny_bind (wpAny_specialOf hT nolen_lri ?_)
  show wpAny _ _ (specialOf (Value.ref it) (Str.ofString "__length_hint__") >>= _) _ _ _
  refine wpAny_bind (wpAny_specialOf hT hint_lri ?_)
  generalize hid : ("list_reverseiterator.__length_hint__" : String) = id0
  wp_delta
  rw [show splitId id0 = some ("list_reverseiterator", "__length_hint__") from by subst hid; decide +kernel]
  subst hid
  refine wpAny_bind (wpAny_isInstance (b := true) hT (by rw [isSubtype_type]; kernel_rfl) ?_)
  refine wpAny_pure ?_
  have e0 : ((items.size : Nat) : Int) - 1 - ((0 : Nat) : Int) = (items.size : Int) - 1 := by omega
  have key : ∀ (h : Heap) (c₁ tk : Nat), h.IsRevIter it l ((items.size : Int) - 1) → h.IsList l items → (∀ b o, b ≠ s.heap.objs.size → s.heap.get? b = some o → h.get? b = some o) →
      h.get? s.heap.objs.size = some { cls := .type "list", data := .seq #[] c₁ } → codeAny (model prog w) A.in1 (.builtin "list.extend.loop" ⟨[.ref s.heap.objs.size, .ref it, .none], []⟩) (wants (fun r s₂ => r = Value.none ∧ Q (.ref s.heap.objs.size) s₂) E) { s with heap := h, toks := tk } := by
    intro h c₁ tk ht hlt hk hS₁
    refine codeAny_extend_loopS W hn _ hSf _ items.size 0 _ _ _ rfl (Nat.zero_le _) ⟨Nat.zero_le _, by rw [e0]; exact ht, hlt⟩ hS₁ (ItemsOf.nil _) fun s' acc' c' hm hS' hacc => ?_
    rw [Moved.eq_with hm]
    refine ⟨rfl, hQ s'.heap s'.toks acc' c' (fun b o hb e => hm.heap b o (fun hmem => ?_) (hk b o (Nat.ne_of_lt (Heap.lt_size e)) e)) hS' hacc⟩
    rcases List.mem_cons.mp hmem with e' | hmem
    · exact absurd (Heap.lt_size e) (by rw [e']; exact Nat.lt_irrefl _)
    · exact hb (List.mem_singleton.mp hmem)
  have hk0 : ∀ b o, b ≠ s.heap.objs.size → s.heap.get? b = some o → ((s.heap.push { cls := .type "list", data := .seq #[] }).update s.heap.objs.size (Obj.mapSeq (fun _ => (#[] : Array Value)))).get? b = some o := fun b o hb e => oth b o hb (Heap.get?_push_of_some _ e)
  refine wpAny_ite_split (fun _ => ?_) (fun _ => wpAny_pure ⟨plainId_quiet F.plain_extend_loop _, key _ _ _ hit1 hl1 hk0 hS₂⟩)
  refine wpAny_bind (wpAny_rule ?_)
  refine wpAny_bind ?_
  show wpAny _ _ (updateSeq s.heap.objs.size (·.push .none) >>= fun _ => updateSeq s.heap.objs.size (·.pop)) _ _ _
  refine wpAny_bind (wpAny_updateSeq hS₂ rfl ?_)
  have hS₃ := Heap.get?_update_self (Obj.mapSeq (·.push Value.none)) hS₂ rfl
  refine wpAny_updateSeq (hz := by seq_fits) hS₃ rfl ?_
  have hS₄ := Heap.get?_update_self (Obj.mapSeq (·.pop)) hS₃ rfl
  refine wpAny_pure ⟨plainId_quiet F.plain_extend_loop _, key _ _ _ ?_ ?_ (fun b o hb e => ?_) hS₄⟩
  · exact hit1.at fun o e => (Heap.get?_update_other _ _ hSi).trans ((Heap.get?_update_other _ _ hSi).trans e)
  · obtain ⟨o, ho, r⟩ := hl1
    exact ⟨o, (Heap.get?_update_other _ _ hSl).trans ((Heap.get?_update_other _ _ hSl).trans ho), r⟩
  · exact (Heap.get?_update_other _ _ (Ne.symm hb)).trans ((Heap.get?_update_other _ _ (Ne.symm hb)).trans (hk0 b o hb e))
def tLstRev (K : PySem.W.Frag) (te : L2.TE) : L2.TE := fun σ H Q => te σ H fun v H1 => ∃ (a : Addr) (xs : List L2.V), v = .ref a ∧ L2.SqL K H1 a xs ∧ ∀ q, H1 q = none → Q (.ref q) (L2.upd H1 q (.lst xs.reverse))
open L2 in
theorem pe_listRev {X : Cx} {e : Expr} {te : L2.TE} {p p2 pos pos2 : Pos} (hc : X.calm = true) (hg : Gl X "list") (hm : X.mg "list" = none) (hg2 : Gl X "reversed") (hm2 : X.mg "reversed" = none) (he : PE X e te)
    (hs : starEach [e] X.env = (false, eval e X.env) :: starEach [] X.env := by rfl)
    (hs2 : starEach [.Call (.Name "reversed" p2) [e] [] pos2] X.env = (false, eval (.Call (.Name "reversed" p2) [e] [] pos2) X.env) :: starEach [] X.env := by rfl) :
    PE X (.Call (.Name "list" p) [.Call (.Name "reversed" p2) [e] [] pos2] [] pos) (tLstRev X.K te) := by
  refine ⟨fun pins s σ H Q I h => ?_⟩
  refine Call_ (ld_blt I hg hm boot_list (PyProof.Rows.callWith_type1 (args_cons (Call_ (ld_blt I hg2 hm2 PyProof.Rows.boot_reversed (PyProof.Rows.callWith_type1 (args_cons (thn (he.run pins s σ H _ I h) fun u s1 ⟨v, H1, I1, r1, q1⟩ => args_nil ?_) hs) hs rfl))) hs2) hs2 rfl))
  obtain ⟨a, xs, ev, hq, q⟩ := q1
  subst ev
  obtain rfl : u = Value.ref a := r1
  obtain ⟨its, rv, p', hz⟩ := I1.list hq
  refine call_reversed_list p'.isList (args_nil ?_)
  have k0 : ∀ b o, s1.heap.get? b = some o → (s1.heap.push (revObj a ((its.toArray.size : Int) - 1))).get? b = some o := fun b o e => Heap.get?_push_of_some _ e
  have I2 : Inv X pins σ H1 { s1 with heap := s1.heap.push (revObj a ((its.toArray.size : Int) - 1)) } := I1.kept (t' := s1.toks) k0
  obtain ⟨f0, f1, f2, f3, f4, f5⟩ := I1.fpOk (H' := H1) (b := s1.heap.objs.size) (Nat.le_refl _) (I1.hok.fresh (Nat.le_refl _))
  have hl := p'.isList
  obtain ⟨ol, hol, _⟩ := id hl
  have hne : a ≠ s1.heap.objs.size := Nat.ne_of_lt (Heap.lt_size hol)
  have hn : its.toArray.size ≤ sizeLine := by rw [List.size_toArray, ← rv.length]; exact hz
  refine call_list_rev (s := { s1 with heap := s1.heap.push (revObj a ((its.toArray.size : Int) - 1)) }) (I1.ok.hd hc) ⟨_, Heap.get?_push_size _ rfl, rfl, rfl⟩ (hl.push _) hne hn fun h' tk acc c' hk e' hi => ?_
  have hT : s1.heap.objs.size ≤ (s1.heap.push (revObj a ((its.toArray.size : Int) - 1))).objs.size := by simp [Heap.push]
  refine ⟨.ref (s1.heap.push (revObj a ((its.toArray.size : Int) - 1))).objs.size, upd H1 _ (.lst xs.reverse), I1.turnedNew (t' := tk) (ch := [s1.heap.objs.size]) (T := (s1.heap.push (revObj a ((its.toArray.size : Int) - 1))).objs.size) (ob := .lst xs.reverse) (fun b o hb e => hk b o (fun z => hb (by simp [z])) (k0 b o e)) (fun b hb => ?_) hT ?_, rfl, q _ (I1.hok.fresh hT)⟩
  · rw [List.mem_singleton.mp hb]
    exact ⟨f0, f1, f2, f3, f4, f5⟩
  · refine (show ObjOk X.prog X.w _ _ _ (.lst xs.reverse) from ⟨by rw [List.length_reverse]; exact hz, acc.toList, c', vals_rev rv hi, ?_⟩)
    rw [Array.toArray_toList]
    exact e'
end
end RT
namespace Br
open PySem PySem.Spec L2
variable [tgi : Tbs]
section
variable {α β γ δ ι ρ B T S' : Type} {X : Cx} {W : WX} {cl : String → Addr} {Γ Γe : Ctx} {tg e o a b c : Expr} {es : List Expr} {pos p p2 p3 pos2 : Pos} {ta tb : TE} {k j : Nat} {S : δ → Asn} {d0 : δ} {i : Nat} {w : Option V}
theorem sep_rev {F : Hp} {E : α → Asn} {xs : List α} {vs : List V} (sp : Sep (xs.map E) vs F emp) : Sep (xs.reverse.map E) vs.reverse F emp := by
  have el : xs.length = vs.length := by have := sp.len; rwa [List.length_map] at this
  refine Sep.perE (fun i A e => ?_) (by simp [el])
  rw [List.getElem?_map] at e
  cases q : xs.reverse[i]? with
  | none => rw [q] at e; cases e
  | some x =>
    rw [q] at e
    cases e
    have hi : i < xs.length := by have := (List.getElem?_eq_some_iff.mp q).1; simpa using this
    rw [List.getElem?_reverse hi] at q
    rw [List.getElem?_reverse (by omega), ← el]
    exact sp.getE (A := E x) (by rw [List.getElem?_map, q]; rfl)
theorem jn_listRev {K0 : PySem.W.Frag} {L : List α → Asn} {E : α → Asn} [rd : RdL K0 L E] [pf : PerF E] {m : Rs (List α)} (G : Gd X W k) (hm : X.mg "list" = none) (hm2 : X.mg "reversed" = none) (h : JN X W cl Γ e ta m L) (hg : Gl X "list" := by rfl) (hg2 : Gl X "reversed" := by rfl) (hs : starEach [e] X.env = (false, eval e X.env) :: starEach [] X.env := by rfl)
    (hs2 : starEach [.Call (.Name "reversed" p2) [e] [] pos2] X.env = (false, eval (.Call (.Name "reversed" p2) [e] [] pos2) X.env) :: starEach [] X.env := by rfl) (hK : X.K = K0 := by rfl) :
    JN X W cl Γ (.Call (.Name "list" p) [.Call (.Name "reversed" p2) [e] [] pos2] [] pos) (RT.tLstRev K0 ta) (m.b fun xs => .ok xs.reverse) (oA E) := by
  subst hK
  obtain ⟨pp, kk⟩ := h
  refine ⟨RT.pe_listRev G.calm hg hm hg2 hm2 pp hs hs2, fun σ F O H R Q u s q => kk σ F O H R _ u s (q.bind.mono (fun xs _ q v F1 h1 H1 l1 u1 p1 => ?_) fun c q => q)⟩
  obtain ⟨a, vs, h', rfl, sq, lh, sp⟩ := rd.rd _ _ _ _ p1
  have eh := sp.empE
  subst eh
  obtain ⟨F2, l2, l3, u2⟩ := pt_leak3 u1
  refine ⟨a, vs, rfl, sq H1 (u1.le (by simp)) (u1.le (by simp)), fun l hl => ?_⟩
  exact q _ F2 (one l (.lst vs.reverse)) _ (l1.tr l2) ((u2.alloc hl).mv 2 |>.mv 2) ⟨l, _, emp, rfl, .r_emp, sep_rev (sp.mono l2)⟩
instance {a b : Int} : Decidable (RgOk a b) := by unfold RgOk; infer_instance
def rgO (a b : Int) : Option (List Int) := if RgOk a b then some (rng a b) else none
theorem rgV_rng {a b : Int} : rgV a b = (rng a b).map V.int := by unfold rgV rng; rw [List.map_map]; rfl
theorem jn_listRg {m : Rs Int} (G : Gd X W k) (hm : X.mg "list" = none) (hm2 : X.mg "range" = none) (h : JN X W cl Γ a ta m aI) (hg : Gl X "list" := by rfl) (hg2 : Gl X "range" := by rfl) (na : starEach [a] X.env = (false, eval a X.env) :: starEach [] X.env := by rfl)
    (hs2 : starEach [.Call (.Name "range" p2) [a] [] pos2] X.env = (false, eval (.Call (.Name "range" p2) [a] [] pos2) X.env) :: starEach [] X.env := by rfl) :
    JN X W cl Γ (.Call (.Name "list" p) [.Call (.Name "range" p2) [a] [] pos2] [] pos) (tLstRg (tRg1 ta)) (m.b fun n => opt (rgO 0 n)) (oA aI) := by
  obtain ⟨pp, kk⟩ := h
  refine ⟨pe_listRg G.calm hg hm (prg_1 hg2 hm2 pp na) hs2, fun σ F O H R Q u s q => kk σ F O H R _ u s (q.bind.mono (fun n _ q v F1 h1 H1 l1 u1 p1 => ?_) fun c q => q)⟩
  obtain ⟨rfl, rfl⟩ := p1
  obtain ⟨xs, ex, q⟩ := opt_out q
  unfold rgO at ex
  by_cases hb : RgOk 0 n
  case neg => rw [if_neg hb] at ex; cases ex
  rw [if_pos hb] at ex; cases ex
  have u2 := pt_skip u1 rfl
  refine ⟨n, rfl, hb, fun l hl => ?_⟩
  rw [rgV_rng]
  exact q _ F1 (one l (.lst ((rng 0 n).map V.int))) _ l1 ((u2.alloc hl).mv 2 |>.mv 2) ⟨l, _, emp, rfl, .r_emp, sep_intsI⟩
class TyF (K : PySem.W.Frag) {α : Type} (A : α → Asn) (ty : outParam String) : Prop where
  is : ∀ x v F h H, (A x).p v F h → Le F H → Le h H → TyX K H v (.type ty)
instance {K : PySem.W.Frag} : TyF K aI "int" := ⟨fun x v F h H p _ _ => by rw [p.1]; exact .base (.int x)⟩
instance {K : PySem.W.Frag} : TyF K aB "bool" := ⟨fun x v F h H p _ _ => by rw [p.1]; exact .base (.bl x)⟩
instance {K : PySem.W.Frag} : TyF K aS "str" := ⟨fun x v F h H p _ _ => by rw [p.1]; exact .base (.str x)⟩
theorem sql_ty {K : PySem.W.Frag} {H : Hp} {a : Addr} {vs : List V} (q : SqL K H a vs) : TyX K H (.ref a) (.type "list") := by
  rcases q with q | ⟨o, its, n, e, c, _⟩
  · rcases q with q | ⟨o, q⟩
    · exact .base (.lst q)
    · exact .base (.frz q)
  · exact .kList e c
instance instTyL {K : PySem.W.Frag} {L : List α → Asn} {E : α → Asn} [rd : RdL K L E] : TyF K L "list" := ⟨fun x v F h H p l1 l2 => by
  obtain ⟨a, vs, h', rfl, sq, _, _⟩ := rd.rd _ _ _ _ p
  exact sql_ty (sq H l1 l2)⟩
theorem tup_ty {K : PySem.W.Frag} {T : α → Asn} {Es : α → List Asn} (rd : RdT T Es) : TyF K T "tuple" := ⟨fun x v F h H p l1 l2 => by
  obtain ⟨a, vs, h', rfl, sq, _, _⟩ := rd.rd _ _ _ _ p
  exact .base (.tup (sq H l1 l2))⟩
instance {K : PySem.W.Frag} {A : α → Asn} {C : β → Asn} : TyF K (t2 A C) "tuple" := tup_ty inferInstance
instance {K : PySem.W.Frag} {A : α → Asn} {C : β → Asn} : TyF K (o2 A C) "tuple" := tup_ty inferInstance
instance {K : PySem.W.Frag} {A : α → Asn} {C : β → Asn} {D : γ → Asn} : TyF K (t3 A C D) "tuple" := tup_ty inferInstance
instance {K : PySem.W.Frag} {A : α → Asn} {C : β → Asn} {D : γ → Asn} : TyF K (o3 A C D) "tuple" := tup_ty inferInstance
instance {K : PySem.W.Frag} {A : α → Asn} {C : β → Asn} {D : γ → Asn} {E : δ → Asn} : TyF K (t4 A C D E) "tuple" := tup_ty inferInstance
instance {K : PySem.W.Frag} {A : α → Asn} {C : β → Asn} {D : γ → Asn} {E : δ → Asn} : TyF K (o4 A C D E) "tuple" := tup_ty inferInstance
theorem jn_isi {K0 : PySem.W.Frag} {T : Str} {n ty : String} {r : Bool} {A : α → Asn} [tf : TyF K0 A ty] {m : Rs α} (hm : X.mg "isinstance" = none) (h : JN X W cl Γ e ta m A) (hmT : X.mg T = none) (hb : bootBuiltins T = some (.type n)) (hk : kitB ty n = some r) (hg : Gl X "isinstance" := by rfl) (hgT : Gl X T := by rfl) (hn : T ≠ "__name__" := by decide) (hd : (T == ("__debug__" : Str)) = false := by decide)
    (hs : starEach [e, .Name T p2] X.env = (false, eval e X.env) :: starEach [.Name T p2] X.env := by rfl) (hs2 : starEach [.Name T p2] X.env = (false, eval (.Name T p2) X.env) :: starEach [] X.env := by rfl) (hpl : (backTo pos (starEach [.Name T p2] X.env)).any (·.1) = false := by rfl) (hK : X.K = K0 := by rfl) :
    JN X W cl Γ (.Call (.Name "isinstance" p) [e, .Name T p2] [] pos) (tCB (rIsi K0) (tCons ta (tCons (tC (.ty n)) tNil))) (m.b fun _ => .ok r) aB := by
  subst hK
  have h2 : JN X W cl Γ (.Name T p2) (tC (.ty n)) (.ok ()) (fun _ => aV (.ty n)) := jn_c (pe_bltn hgT hmT hb rfl hn hd) fun F => ⟨rfl, rfl⟩
  have e1 : (m.b fun _ => (.ok r : Rs Bool)) = ((m.b fun x => (Rs.ok ()).b fun y => .ok (x, y)).b fun q => opt (some r)) := by cases m <;> rfl
  rw [e1]
  exact JN.args (f := fun q : α × Unit => some r) (jns_cons h (jns_one h2 hs2) hs) (fun q => pe_callB call_isi hg hm PyProof.Rows.boot_isinstance q (he := hs) (hpl := hpl)) fun q vs F h H R Q c e u sp k => by
    obtain ⟨v, w, h1, h2, rfl, t, p1, ⟨rfl, e2⟩⟩ := sep2 sp
    obtain ⟨l1, l2⟩ := le_part u
    refine ⟨v, .ty n, .type ty, .type n, r, rfl, .ty n, tf.is _ _ _ _ H p1 l1 ((t.le (by simp)).tr l2), kit_ty hk, ?_⟩
    cases e
    exact kt_val k u fun F' _ _ => ⟨rfl, rfl⟩
/-- int(True), int(False) -/
theorem jn_intB {m : Rs Bool} (hm : X.mg "int" = none) (h : JN X W cl Γ e ta m aB) (hg : Gl X "int" := by rfl) (hs : starEach [e] X.env = (false, eval e X.env) :: starEach [] X.env := by rfl) (hpl : (backTo pos (starEach [] X.env)).any (·.1) = false := by rfl) :
    JN X W cl Γ (.Call (.Name "int" p) [e] [] pos) (tCB (fun xs H Q => (∃ i, xs = [.int i] ∧ Q (.int i) H) ∨ ∃ k, xs = [.bl k] ∧ Q (.int (if k then 1 else 0)) H) (tCons ta tNil)) (m.b fun x => .ok (if x = true then (1 : Int) else 0)) aI :=
  JN.args (jns_one h hs) (fun q => pe_callTy call_int1 hg hm (by decide +kernel) q (he := hs) (hpl := hpl)) (f := fun x : Bool => some (if x = true then (1 : Int) else 0)) fun x vs F h H R Q c e u sp k => by
    obtain ⟨v, rfl, ⟨rfl, e1⟩⟩ := sep1 sp
    subst e1
    refine .inr ⟨x, rfl, k _ F emp H .rfl u ?_⟩
    rw [← Option.some.inj e]
    exact ⟨by cases x <;> rfl, rfl⟩
class FlF {α : Type} (A : α → Asn) [DecidableEq α] where
  val : α → V
  is : ∀ x v F h, (A x).p v F h → v = val x ∧ h = emp
  fl : ∀ x, flatV (val x) = true
  eq : ∀ x y, eqV (val x) (val y) = decide (x = y)
instance : FlF aI := ⟨V.int, fun _ _ _ _ q => q, fun _ => rfl, fun x y => by show (x == y) = _; exact Bool.beq_eq_decide_eq x y⟩
instance : FlF aB := ⟨V.bl, fun _ _ _ _ q => q, fun _ => rfl, fun x y => by show (x == y) = _; exact Bool.beq_eq_decide_eq x y⟩
instance : FlF aS := ⟨V.str, fun _ _ _ _ q => q, fun _ => rfl, fun x y => by show (x == y) = _; exact Bool.beq_eq_decide_eq x y⟩
theorem sep_fl [DecidableEq α] {A : α → Asn} [f : FlF A] {F : Hp} : ∀ {xs : List α} {ws : List V} {h : Hp}, Sep (xs.map A) ws F h → ws = xs.map f.val ∧ h = emp
  | [], [], _, q => ⟨rfl, q⟩
  | x :: xs, w :: ws, h, ⟨h1, h2, t, p, r⟩ => by
    obtain ⟨e1, e2⟩ := f.is _ _ _ _ p
    obtain ⟨e3, e4⟩ := sep_fl r
    subst e2 e4
    exact ⟨by rw [e1, e3]; rfl, t.emp_r⟩
theorem inV_mem [DecidableEq α] {A : α → Asn} [f : FlF A] (x : α) : ∀ xs : List α, inV (f.val x) (xs.map f.val) = decide (x ∈ xs)
  | [] => by simp [inV]
  | y :: xs => by
    have ih := inV_mem (A := A) x xs
    unfold inV at ih ⊢
    rw [List.map_cons, List.any_cons, ih, f.eq]
    by_cases h : x = y
    · simp [h]
    · have h2 : ¬ y = x := fun e => h e.symm
      simp [h, h2]
theorem all_fl [DecidableEq α] {A : α → Asn} [f : FlF A] (xs : List α) : (xs.map f.val).all flatV = true := by
  rw [List.all_eq_true]
  intro v m
  obtain ⟨x, _, e⟩ := List.mem_map.mp m
  rw [← e]; exact f.fl x
theorem op_inL [DecidableEq α] {A : α → Asn} [f : FlF A] {L : List α → Asn} [rd : RdL X.K L A] {neg : Bool} : Op2 (rIn X.K neg) A L (fun x xs => some (if neg = true then !decide (x ∈ xs) else decide (x ∈ xs))) aB := by
  intro x xs v w F h1 h2 H R Q c e u p q k
  obtain ⟨rfl, e1⟩ := f.is _ _ _ _ p
  obtain ⟨a, vs, h', rfl, sq, lh, sp⟩ := rd.rd _ _ _ _ q
  obtain ⟨ev, eh⟩ := sep_fl sp
  have l1 : Le F H := u.le (by simp)
  have l2 : Le h2 H := u.le (by simp)
  refine ⟨a, vs, rfl, .inl (sq H l1 l2), f.fl x, by rw [ev]; exact all_fl xs, ?_⟩
  rw [ev, inV_mem]
  obtain ⟨F2, l1, _, u2⟩ := u.leak
  obtain ⟨F3, l3, _, u3⟩ := u2.leak
  exact k _ F3 emp H (l1.tr l3) (Pt.swap u3.addE) ⟨by rw [← Option.some.inj e], rfl⟩
theorem jn_inL {K0 : PySem.W.Frag} [DecidableEq α] {A : α → Asn} [f : FlF A] {L : List α → Asn} [rd : RdL K0 L A] {m : Rs α} {n : Rs (List α)} (h1 : JN X W cl Γ a ta m A) (h2 : JN X W cl Γ b tb n L) (hm : behindInMarks .In b = false := by rfl) (hK : X.K = K0 := by rfl) :
    JN X W cl Γ (.Compare a [.In] [b] pos) (tOp (rIn K0 false) ta tb) (m.b fun x => n.b fun xs => .ok (decide (x ∈ xs))) aB := by
  subst hK
  exact (JN.bin (f := fun x xs => some (decide (x ∈ xs))) h1 h2 (fun p q => pe_cmpR op_in_seq p q hm) (op_inL (neg := false)))
theorem jn_ninL {K0 : PySem.W.Frag} [DecidableEq α] {A : α → Asn} [f : FlF A] {L : List α → Asn} [rd : RdL K0 L A] {m : Rs α} {n : Rs (List α)} (h1 : JN X W cl Γ a ta m A) (h2 : JN X W cl Γ b tb n L) (hm : behindInMarks .NotIn b = false := by rfl) (hK : X.K = K0 := by rfl) :
    JN X W cl Γ (.Compare a [.NotIn] [b] pos) (tOp (rIn K0 true) ta tb) (m.b fun x => n.b fun xs => .ok (!decide (x ∈ xs))) aB := by
  subst hK
  exact (JN.bin (f := fun x xs => some (!decide (x ∈ xs))) h1 h2 (fun p q => pe_cmpR op_notIn_seq p q hm) (op_inL (neg := true)))
theorem jt_inL {K0 : PySem.W.Frag} [DecidableEq α] {A : α → Asn} [f : FlF A] {L : List α → Asn} [rd : RdL K0 L A] {m : Rs α} {n : Rs (List α)} (h1 : JN X W cl Γ a ta m A) (h2 : JN X W cl Γ b tb n L) (hm : behindInMarks .In b = false := by rfl) (hK : X.K = K0 := by rfl) :
    JT X W cl Γ (.Compare a [.In] [b] pos) (tTest (tOp (rIn K0 false) ta tb)) (m.b fun x => n.b fun xs => .ok (decide (x ∈ xs))) := by
  subst hK
  exact (jt_c (jn_inL h1 h2 hm) (pt_cmpR op_in_seq h1.pe h2.pe hm))
theorem jt_ninL {K0 : PySem.W.Frag} [DecidableEq α] {A : α → Asn} [f : FlF A] {L : List α → Asn} [rd : RdL K0 L A] {m : Rs α} {n : Rs (List α)} (h1 : JN X W cl Γ a ta m A) (h2 : JN X W cl Γ b tb n L) (hm : behindInMarks .NotIn b = false := by rfl) (hK : X.K = K0 := by rfl) :
    JT X W cl Γ (.Compare a [.NotIn] [b] pos) (tTest (tOp (rIn K0 true) ta tb)) (m.b fun x => n.b fun xs => .ok (!decide (x ∈ xs))) := by
  subst hK
  exact (jt_c (jn_ninL h1 h2 hm) (pt_cmpR op_notIn_seq h1.pe h2.pe hm))
/-- x in a pair of two -/
theorem op_in2 [DecidableEq α] {A : α → Asn} [f : FlF A] {Tp : α × α → Asn} [rd : RdT Tp (fun z => [A z.1, A z.2])] {neg : Bool} : Op2 (rIn X.K neg) A Tp (fun x z => some (if neg = true then !decide (x ∈ [z.1, z.2]) else decide (x ∈ [z.1, z.2]))) aB := by
  intro x z v w F h1 h2 H R Q c e u p q k
  obtain ⟨rfl, e1⟩ := f.is _ _ _ _ p
  obtain ⟨a, vs, h', rfl, sq, lh, sp⟩ := rd.rd _ _ _ _ q
  obtain ⟨ev, eh⟩ := sep_fl (A := A) (xs := [z.1, z.2]) sp
  have l1 : Le F H := u.le (by simp)
  have l2 : Le h2 H := u.le (by simp)
  refine ⟨a, vs, rfl, .inr (SqT.of (sq H l1 l2)), f.fl x, by rw [ev]; exact all_fl (A := A) [z.1, z.2], ?_⟩
  rw [ev, inV_mem]
  obtain ⟨F2, l1, _, u2⟩ := u.leak
  obtain ⟨F3, l3, _, u3⟩ := u2.leak
  exact k _ F3 emp H (l1.tr l3) (Pt.swap u3.addE) ⟨by rw [← Option.some.inj e], rfl⟩
theorem jn_in2 {K0 : PySem.W.Frag} [DecidableEq α] {A : α → Asn} [f : FlF A] {Tp : α × α → Asn} [rd : RdT Tp (fun z => [A z.1, A z.2])] {m : Rs α} {n : Rs (α × α)} (h1 : JN X W cl Γ a ta m A) (h2 : JN X W cl Γ b tb n Tp) (hm : behindInMarks .In b = false := by rfl) (hK : X.K = K0 := by rfl) :
    JN X W cl Γ (.Compare a [.In] [b] pos) (tOp (rIn K0 false) ta tb) (m.b fun x => n.b fun z => .ok (decide (x ∈ [z.1, z.2]))) aB := by
  subst hK
  exact (JN.bin (f := fun x z => some (decide (x ∈ [z.1, z.2]))) h1 h2 (fun p q => pe_cmpR op_in_seq p q hm) (op_in2 (neg := false)))
theorem jt_in2 {K0 : PySem.W.Frag} [DecidableEq α] {A : α → Asn} [f : FlF A] {Tp : α × α → Asn} [rd : RdT Tp (fun z => [A z.1, A z.2])] {m : Rs α} {n : Rs (α × α)} (h1 : JN X W cl Γ a ta m A) (h2 : JN X W cl Γ b tb n Tp) (hm : behindInMarks .In b = false := by rfl) (hK : X.K = K0 := by rfl) :
    JT X W cl Γ (.Compare a [.In] [b] pos) (tTest (tOp (rIn K0 false) ta tb)) (m.b fun x => n.b fun z => .ok (decide (x ∈ [z.1, z.2]))) := by
  subst hK
  exact (jt_c (jn_in2 h1 h2 hm) (pt_cmpR op_in_seq h1.pe h2.pe hm))
def maxO (xs : List Int) : Option Int := xs.max?
def minO (xs : List Int) : Option Int := xs.min?
theorem jn_max {K0 : PySem.W.Frag} {L : List Int → Asn} [rd : RdL K0 L aI] {m : Rs (List Int)} (G : Gd X W k) (hm : X.mg "max" = none) (h1 : JN X W cl Γ a ta m L) (hg : Gl X "max" := by rfl) (hs : starEach [a] X.env = (false, eval a X.env) :: starEach [] X.env := by rfl) (hpl : (backTo pos (starEach [] X.env)).any (·.1) = false := by rfl) (hK : X.K = K0 := by rfl) :
    JN X W cl Γ (.Call (.Name "max" p) [a] [] pos) (tCB (rMax K0) (tCons ta tNil)) (m.b fun xs => opt (maxO xs)) aI := by
  subst hK
  exact (JN.args (C := aI) (jns_one h1 hs) (fun q => pe_callB (cr_max G.calm) hg hm (by decide +kernel) q (he := hs) (hpl := hpl)) (f := maxO) fun xs vs F h H R Q c e u sp k => by
    obtain ⟨v, rfl, p1⟩ := sep1 sp
    obtain ⟨a, ws, h', rfl, sq, lh, sp⟩ := rd.rd _ _ _ _ p1
    obtain ⟨l1, l2⟩ := le_part u
    have eh := sp.empE
    subst eh
    have ew := sep_ints sp
    obtain ⟨e1, e2⟩ := List.max?_eq_some_iff.mp e
    refine ⟨a, xs, rfl, by rw [← ew]; exact sq H l1 l2, List.length_pos_of_mem e1, fun m hm1 hm2 => ?_⟩
    have : m = c := Int.le_antisymm (e2 m hm1) (hm2 c e1)
    subst this
    exact kt_val k u fun F' _ _ => ⟨rfl, rfl⟩)
theorem jn_min {K0 : PySem.W.Frag} {L : List Int → Asn} [rd : RdL K0 L aI] {m : Rs (List Int)} (G : Gd X W k) (hm : X.mg "min" = none) (h1 : JN X W cl Γ a ta m L) (hg : Gl X "min" := by rfl) (hs : starEach [a] X.env = (false, eval a X.env) :: starEach [] X.env := by rfl) (hpl : (backTo pos (starEach [] X.env)).any (·.1) = false := by rfl) (hK : X.K = K0 := by rfl) :
    JN X W cl Γ (.Call (.Name "min" p) [a] [] pos) (tCB (rMin K0) (tCons ta tNil)) (m.b fun xs => opt (minO xs)) aI := by
  subst hK
  exact (JN.args (C := aI) (jns_one h1 hs) (fun q => pe_callB (cr_min G.calm) hg hm (by decide +kernel) q (he := hs) (hpl := hpl)) (f := minO) fun xs vs F h H R Q c e u sp k => by
    obtain ⟨v, rfl, p1⟩ := sep1 sp
    obtain ⟨a, ws, h', rfl, sq, lh, sp⟩ := rd.rd _ _ _ _ p1
    obtain ⟨l1, l2⟩ := le_part u
    have eh := sp.empE
    subst eh
    have ew := sep_ints sp
    obtain ⟨e1, e2⟩ := List.min?_eq_some_iff.mp e
    refine ⟨a, xs, rfl, by rw [← ew]; exact sq H l1 l2, List.length_pos_of_mem e1, fun m hm1 hm2 => ?_⟩
    have : m = c := Int.le_antisymm (hm2 c e1) (e2 m hm1)
    subst this
    exact kt_val k u fun F' _ _ => ⟨rfl, rfl⟩)
theorem sep_bls {F : Hp} : ∀ {xs : List Bool} {ws : List V}, Sep (xs.map aB) ws F emp → ws = xs.map V.bl
  | [], [], _ => rfl
  | x :: xs, w :: ws, ⟨h1, h2, t, ⟨e, _⟩, r⟩ => by
    obtain ⟨e1, e2⟩ := t.of_emp
    subst e1 e2
    rw [e, sep_bls r]; rfl
theorem jn_any {K0 : PySem.W.Frag} {L : List Bool → Asn} [rd : RdL K0 L aB] {m : Rs (List Bool)} (G : Gd X W k) (hm : X.mg "any" = none) (h1 : JN X W cl Γ a ta m L) (hg : Gl X "any" := by rfl) (hs : starEach [a] X.env = (false, eval a X.env) :: starEach [] X.env := by rfl) (hpl : (backTo pos (starEach [] X.env)).any (·.1) = false := by rfl) (hK : X.K = K0 := by rfl) :
    JN X W cl Γ (.Call (.Name "any" p) [a] [] pos) (tCB (rAny K0) (tCons ta tNil)) (m.b fun xs => .ok (xs.any id)) aB := by
  subst hK
  exact (JN.args (C := aB) (jns_one h1 hs) (fun q => pe_callB (cr_any G.calm) hg hm (by decide +kernel) q (he := hs) (hpl := hpl)) (f := fun xs : List Bool => some (xs.any id)) fun xs vs F h H R Q c e u sp k => by
    cases e
    obtain ⟨v, rfl, p1⟩ := sep1 sp
    obtain ⟨a, ws, h', rfl, sq, lh, sp⟩ := rd.rd _ _ _ _ p1
    obtain ⟨l1, l2⟩ := le_part u
    have eh := sp.empE
    subst eh
    have ew := sep_bls sp
    exact ⟨a, xs, rfl, by rw [← ew]; exact sq H l1 l2, kt_val k u fun F' _ _ => ⟨rfl, rfl⟩⟩)
theorem jn_all {K0 : PySem.W.Frag} {L : List Bool → Asn} [rd : RdL K0 L aB] {m : Rs (List Bool)} (G : Gd X W k) (hm : X.mg "all" = none) (h1 : JN X W cl Γ a ta m L) (hg : Gl X "all" := by rfl) (hs : starEach [a] X.env = (false, eval a X.env) :: starEach [] X.env := by rfl) (hpl : (backTo pos (starEach [] X.env)).any (·.1) = false := by rfl) (hK : X.K = K0 := by rfl) :
    JN X W cl Γ (.Call (.Name "all" p) [a] [] pos) (tCB (rAll K0) (tCons ta tNil)) (m.b fun xs => .ok (xs.all id)) aB := by
  subst hK
  exact (JN.args (C := aB) (jns_one h1 hs) (fun q => pe_callB (cr_all G.calm) hg hm (by decide +kernel) q (he := hs) (hpl := hpl)) (f := fun xs : List Bool => some (xs.all id)) fun xs vs F h H R Q c e u sp k => by
    cases e
    obtain ⟨v, rfl, p1⟩ := sep1 sp
    obtain ⟨a, ws, h', rfl, sq, lh, sp⟩ := rd.rd _ _ _ _ p1
    obtain ⟨l1, l2⟩ := le_part u
    have eh := sp.empE
    subst eh
    have ew := sep_bls sp
    exact ⟨a, xs, rfl, by rw [← ew]; exact sq H l1 l2, kt_val k u fun F' _ _ => ⟨rfl, rfl⟩⟩)
theorem jn_tlen {K0 : PySem.W.Frag} {T : α → Asn} {Es : α → List Asn} [rd : RdT T Es] {m : Rs α} (n : Nat) (hm : X.mg "len" = none) (h1 : JN X W cl Γ a ta m T) (hn : ∀ x, (Es x).length = n := by intro _; rfl) (hg : Gl X "len" := by rfl) (hs : starEach [a] X.env = (false, eval a X.env) :: starEach [] X.env := by rfl) (hK : X.K = K0 := by rfl) :
    JN X W cl Γ (.Call (.Name "len" p) [a] [] pos) (tCB (fun xs H Q => ∃ p ys, xs = [.ref p] ∧ (SqL K0 H p ys ∨ SqT K0 H p ys) ∧ Q (.int ys.length) H) (tCons ta tNil)) (m.b fun _ => .ok (n : Int)) aI := by
  subst hK
  exact (JN.args (C := aI) (jns_one h1 hs) (fun q => pe_callB call_len_seq hg hm boot_len q (he := hs)) (f := fun _ => some (n : Int)) fun x vs F h H R Q c e u sp k => by
    cases e
    obtain ⟨v, rfl, p1⟩ := sep1 sp
    obtain ⟨a, ws, h', rfl, sq, lh, sp⟩ := rd.rd _ _ _ _ p1
    obtain ⟨l1, l2⟩ := le_part u
    exact ⟨a, ws, rfl, .inr (SqT.of (sq H l1 l2)), kt_val k u fun F' _ _ => ⟨by rw [← sp.len, hn], rfl⟩⟩)
end
end Br
namespace Br
open PySem PySem.Spec L2
variable [tgi : Tbs]
theorem lA_sA {K : PySem.W.Frag} (a : List Int) (v : V) (F h : Hp) (q : (lA aI a).p v F h) : (sA K aI a).p v F h := by
  obtain ⟨e, b, vs, e1, s, r⟩ := q
  exact ⟨e, b, vs, e1, SqL.of s, r⟩
end Br
namespace Br
open PySem PySem.Spec L2
variable [tgi : Tbs]
instance {CX : CXT} {P : Program} {w : World} {K : PySem.W.Frag} {mg : Str → Option Value} {base : Heap} {N : List Str} {qual : Str} {scope : Scope} {f : Addr} {cd : Value} {A : Around} {outer : List Env} {s : Shared} {H : Hp} {E : XK} {α : Type} {Af : α → Asn} : RdL (cxOf CX P w K mg base N qual scope f cd A outer s H E).K (sA K Af) Af := (inferInstance : RdL K (sA K Af) Af)
instance {X : Cx} {s : Shared} {H : Hp} {scope : Scope} {cenv : Env} {fp : List Addr} {α : Type} {L : List α → Asn} {E : α → Asn} [r : RdL X.K L E] : RdL (X.blk s H scope cenv fp).K L E := r
section
variable {P : Program} {w : World} {K : PySem.W.Frag} {mg : Str → Option Value} {base : Heap} {cl : String → Addr}
theorem fn_cx0 {k : Nat} {f : Addr} {fd : FuncData} {ps : List Str} {sp : Sp} (F : FnOk P w K mg base (L2.CX P w) k f fd ps sp) : FnOk P w K mg base CX0 k f fd ps (fun vs H Q _ => sp vs H Q E0) :=
  ⟨fun vs H Q E q => F.len vs H Q _ q, fun A outer s H args us vs Q E hr he hb hv hs => codeAny_mono (F.run A outer s H args us vs Q E0 hr he hb hv hs) fun r s' h => by
    cases r with
    | ok fl => cases fl <;> exact h
    | error e =>
      obtain ⟨_, _, _, _, _, _, _, _, _, _, _, _, z⟩ := h
      exact z.elim⟩
theorem script_sp {K : PySem.W.Frag} {m : List Int → Rs Bool} {H : Hp} {a : Addr} {ns : List Int} (tg0 : TgOk H) (h : SqL K H a (ns.map V.int)) (e : m ns = .ok true) : Fsp cl (fun i : List Int => [sA K aI i]) m aB [.ref a] H (fun v _ => v = .bl true) E0 := by
  refine ⟨ns, H, emp, [], tg0, Pt.r_emp, Sep.sing ⟨rfl, a, _, rfl, h, sep_intsI'⟩, ?_⟩
  rw [e]
  intro v F' h' H' _ _ p
  exact p.1
where
  sep_intsI' {F : Hp} : ∀ {xs : List Int}, Sep (xs.map aI) (xs.map V.int) F emp
  | [] => rfl
  | x :: xs => ⟨emp, emp, .r_emp, ⟨rfl, rfl⟩, sep_intsI'⟩
end
end Br
namespace Br
open PySem PySem.Spec L2 PyProof.Rows
variable [tgi : Tbs]
/-- a caught error of the class cls -/
def ExC (cls : Value) (a : Addr) : HO := .ext fun h => ∃ (oe : Obj) (vs : Array Value), h.get? a = some oe ∧ Zc cls none oe ∧ oe.data = .fields vs
theorem exC_ok {P : Program} {w : World} {H : Hp} {h : Heap} {a : Addr} {cls : Value} {oe : Obj} {vs : Array Value} (e : h.get? a = some oe) (z : Zc cls none oe) (d : oe.data = .fields vs) : ObjOk P w H h a (ExC cls a) :=
  ⟨⟨oe, vs, e, z, d⟩, ⟨oe, e⟩, fun _ _ ⟨o, v, q, r⟩ k => ⟨o, v, k o q, r⟩⟩
section
variable {X : Cx} {pins : List (Addr × Obj)} {σ : L2.St} {H : Hp} {s : Shared}
theorem Inv.adopt {a : Addr} {oe : Obj} {vs : Array Value} {cls : Value} (I : Inv X pins σ H s) (ha : s.heap.get? a = some oe) (hz : Zc cls none oe) (hd : oe.data = .fields vs) (na : H a = none) (nL : a ≠ X.env.locals) (n0 : X.s_0.heap.get? a = none)
    (np : ∀ p ∈ X.pn ++ pins, p.1 ≠ a) : Inv X pins σ (upd H a (ExC cls a)) s where
  ok := I.ok
  os := I.os
  bare := I.bare
  base := {
    keep := I.base.keep
    slot := I.base.slot
    free := fun b o q n x => by rw [upd_ne (fun z => by rw [z, n0] at q; cases q)]; exact I.base.free b o q n x
    there := I.base.there
    tups := fun b xs q => by have := I.base.tups b xs q; rw [upd_ne (ne_of_none this na)]; exact this
    frzs := fun b o u q => by have := I.base.frzs b o u q; rw [upd_ne (ne_of_none this na)]; exact this
    tbls := fun b ps q => by
      obtain ⟨m, this⟩ := I.base.tbls b ps q
      exact ⟨m, by rw [upd_ne (ne_of_none this na)]; exact this⟩ }
  loc := I.loc
  cell := I.cell
  free := by rw [upd_ne (Ne.symm nL)]; exact I.free
  freeC := fun x c e => by
    rw [upd_ne (fun z => ?_)]; exact I.freeC x c e
    subst z
    obtain ⟨v, o, q1, q2⟩ := I.cell x _ e
    rw [ha] at q1; cases q1
    rw [hd] at q2; cases q2
  pin := fun p hp => by
    obtain ⟨e, n, r⟩ := I.pin p hp
    exact ⟨e, by rw [upd_ne (np p hp)]; exact n, r⟩
  hok := I.hok.laidN (fun _ _ q => q) na (exC_ok ha hz hd)
  len := I.len
theorem Inv.toSuite {a : Addr} (I : Inv X pins σ H s) : Inv (X.suite a (X.pn ++ pins)) [] σ H s :=
  ⟨I.ok.suite _ _, I.os, I.bare, I.base, I.loc, I.cell, I.free, I.freeC, fun p hp => I.pin p (by rw [List.append_nil] at hp; exact hp), I.hok, I.len⟩
theorem Inv.offSuite {a : Addr} {pn' : List (Addr × Obj)} (I : Inv (X.suite a (X.pn ++ pins)) pn' σ H s) (ok : X.Ok) : Inv X pins σ H s :=
  ⟨ok, I.os, I.bare, I.base, I.loc, I.cell, I.free, I.freeC, fun p hp => I.pin p (List.mem_append_left _ hp), I.hok, I.len⟩
end
/-- what an except clause wishes that keeps the error -/
def wKeep (K : PySem.W.Frag) (c : Value) (i : Nat) (ts : Addr → TS) (D : Ends) : WX := fun cls d σ H =>
  PySem.W.exmOne K cls c = some true ∧ d = none ∧ ∀ a, H a = none → ts a { nx := fun σ' H' => D.nx (σ'.set i none) H', rt := D.rt, bk := fun σ' H' => D.bk (σ'.set i none) H', ct := fun σ' H' => D.ct (σ'.set i none) H' } (σ.set i (some (.ref a))) (upd H a (ExC cls a))
section
variable {X : Cx} {x n : Str} {c : Value} {i : Nat} {body suite : List Stmt} {b₀ : Stmt} {np pos pos' : Pos} {tb : WX → TS} {ts : Addr → TS} {Wout : WX}
theorem ps_try_keep (hs : X.stack = X.env :: X.outer) (hf : X.env.frame = some X.env.locals) (hex : X.ex = []) (hN : X.N.Nodup) (hi : X.N[i]? = some n) (hln : X.env.kindOf n = some .local) (hc : Names X x c)
    (hb : ∀ (W : WX) (pn : List (Addr × Obj)) (xe : Value → Shared → Prop), Takes (X.tr pn xe) W → PassesOwn (model X.prog X.w) X.A X.env xe → PSs (X.tr pn xe) body (tb W))
    (hsu : ∀ (a : Addr) (pn : List (Addr × Obj)), PSs (X.suite a pn) (b₀ :: suite) (ts a)) :
    PS X (.Try body [.ExceptHandler (some (.Name x np)) (some n) (b₀ :: suite) pos'] [] [] pos) (fun D σ H => tb (wKeep X.K c i ts D) D σ H) := by
  refine ⟨fun pins s σ H D I h => ?_⟩
  have ok := I.ok
  have hfr : X.A.frames = some (X.env :: X.outer) := by rw [ok.frames, hs]
  have hloc : Loc X.env.scope n := .inl hln
  refine wpAny_Try_except ?_
  refine wpAny_mono ((hb (wKeep X.K c i ts D) (X.pn ++ pins) (fun e s₁ => wpAny (model X.prog X.w) X.A (noteFrame e X.env) (fun _ s₂ => wpAny (model X.prog X.w) X.A (setFlight e none) (fun _ s₃ =>
    wpAny (model X.prog X.w) X.A (handleBy e X.env [.ExceptHandler (some (.Name x np)) (some n) (b₀ :: suite) pos']) (SP X pins D) X.xe s₃) X.xe s₂) X.xe s₁) (fun u s' xx => ?_) PassesOwn.looking).run [] s σ H D (I.toTry _) h) (fun f s1 hsp => ?_) (fun e s1 he => he)
  · obtain ⟨a, B, sI, pins', σ', H', cls, d, rfl, J', nb, up, sky, na, os, ag, hb1, hd0, hyes⟩ := xx
    subst hd0
    have J : Inv X pins σ' H' sI := J'.ofTry ok
    have sky' : Sky B (X.env :: X.outer) a (Zc cls none) X.env.locals s'.heap := by rw [← hs]; exact sky
    show wpAny (model X.prog X.w) X.A (noteFrame (.ref a) X.env) _ _ _
    refine Sky.land Zc.steady hfr hf sky' fun h3 fl3 up3 => ?_
    have J3 : Inv X pins σ' H' { s' with heap := h3 } := J.landed nb fl3.1 (up.trans up3) os ag
    obtain ⟨oe3, vs3, he3, hz3, hd3⟩ := fl3.there
    have notFr : ∀ {h : Heap} {o : Obj} {vs : Array Value}, h.FunFrames B (X.env :: X.outer) → h.get? a = some o → o.data = .fields vs → a ∉ frs (X.env :: X.outer) := fun {h o vs} ff e dd hm => by
      obtain ⟨_, o', e', hnf⟩ := ff.mem hm
      rw [e] at e'; cases e'
      exact hnf _ dd
    have nfr := notFr fl3.2.2.1 he3 hd3
    have nL : a ≠ X.env.locals := fun z => nfr (List.mem_filterMap.mpr ⟨X.env, List.mem_cons_self, by rw [hf, z]⟩)
    have nF : a ∉ X.fs := fun hm => by
      obtain ⟨e, he, q⟩ := List.mem_filterMap.mp hm
      exact nfr (List.mem_filterMap.mpr ⟨e, List.mem_cons_of_mem _ he, q⟩)
    have nB : B.get? a = none := fl3.2.1
    have nSt : a ∉ frs X.stack := by rw [hs]; exact nfr
    have n0 : X.s_0.heap.get? a = none := by
      cases q : X.s_0.heap.get? a with
      | none => rfl
      | some o =>
        obtain ⟨o', q'⟩ := J.base.there a o q (by rw [hex]; exact fun z => nomatch z)
        have := nb a o' q' nSt
        rw [nB] at this; cases this
    have npn : ∀ p ∈ X.pn ++ pins, p.1 ≠ a := fun p hp z => by
      obtain ⟨e, _, nl, nf, _⟩ := J.pin p hp
      rw [z] at e
      have := nb a _ e nSt
      rw [nB] at this; cases this
    have S3 := Inv.toSuite (a := a) J3
    refine wpAny_handleBy_cons (codeAny_handlers_test ?_) (by intro q; cases q)
    have LT : PySem.W.Looks (model X.prog X.w) h3 (typeOf (.ref a)) cls := fun A Q E s k q => wpAny_typeOf_ref (k _ _ he3) (by rw [hz3.1]; exact q)
    have LM := PySem.W.exm_one (M := model X.prog X.w) (J3.kIn) LT hb1
    have test : ∀ {Q : Value → Shared → Prop} {E : Value → Shared → Prop}, Q c { s' with heap := h3 } → wpAny (model X.prog X.w) (X.A.mark (some (.ref a))) (eval (.Name x np) X.env) Q E { s' with heap := h3 } := fun {Q E} q => by
      obtain ⟨hg, hdbg, hm | ⟨hm, hv, hnn⟩⟩ := hc
      · exact ld_glob (X := X.suite a (X.pn ++ pins)) S3 hg hm q hdbg
      · exact ld_blt (X := X.suite a (X.pn ++ pins)) S3 hg hm hv q hnn hdbg
    refine test (LM.here ?_)
    refine codeAny_handlers_suite_as ?_
    refine HandSPX.lands_againZ fl3 fun h4 fl4 up4 => ?_
    have J4 : Inv X pins σ' H' { s' with heap := h4 } := J.landed nb fl4.1 ((up.trans up3).trans up4) os ag
    obtain ⟨oe4, vs4, he4, hz4, hd4⟩ := fl4.there
    have S4 := Inv.toSuite (a := a) (Inv.adopt J4 he4 hz4 hd4 na nL n0 npn)
    refine store_ok (X := X.suite a (X.pn ++ pins)) (v := .ref a) S4 hN hi hloc rfl (fun s5 S5 => ?_) (.inr hln)
    refine wpAny_mono ((hsu a (X.pn ++ pins)).run [] s5 _ _ _ S5 (hyes a na)) (fun f s6 hsp => ?_) (fun _ _ z => False.elim z)
    have end_ : ∀ {σ6 : L2.St} {H6 : Hp} {Q : Shared → Prop}, Inv (X.suite a (X.pn ++ pins)) [] σ6 H6 s6 → (∀ s7, Inv X pins (σ6.set i none) H6 s7 → Q s7) →
        wpAny (model X.prog X.w) X.A (do bindName X.env n .none; unbindBehindTheSuite X.env n pos') (fun _ s7 => Q s7) X.xe s6 := fun {σ6 H6 Q} S6 hq => gone_ok (Inv.offSuite S6 ok) hN hi hln hq
    cases f with
    | next =>
      obtain ⟨σ6, H6, S6, q6⟩ := hsp
      exact end_ S6 fun s7 J7 => ⟨_, _, J7, q6⟩
    | brk =>
      obtain ⟨σ6, H6, S6, q6⟩ := hsp
      exact end_ S6 fun s7 J7 => ⟨_, _, J7, q6⟩
    | cont =>
      obtain ⟨σ6, H6, S6, q6⟩ := hsp
      exact end_ S6 fun s7 J7 => ⟨_, _, J7, q6⟩
    | ret u =>
      obtain ⟨v6, σ6, H6, S6, r6, q6⟩ := hsp
      exact end_ S6 fun s7 J7 => ⟨_, _, _, J7, r6, q6⟩
  · cases f with
    | next =>
      obtain ⟨σ', H', J', q⟩ := hsp
      exact wpAny_execs_nil ⟨σ', H', J'.ofTry ok, q⟩
    | brk =>
      obtain ⟨σ', H', J', q⟩ := hsp
      exact ⟨σ', H', J'.ofTry ok, q⟩
    | cont =>
      obtain ⟨σ', H', J', q⟩ := hsp
      exact ⟨σ', H', J'.ofTry ok, q⟩
    | ret u =>
      obtain ⟨v, σ', H', J', r, q⟩ := hsp
      exact ⟨v, σ', H', J'.ofTry ok, r, q⟩
end
def aX (cl : String → Addr) (c : String) : Asn := ⟨fun v F h => h = emp ∧ ∃ a, v = .ref a ∧ F a = some (ExC (.ref (cl c)) a), fun le q => by
  obtain ⟨e, a, e1, s⟩ := q
  exact ⟨e, a, e1, le _ _ s⟩, fun q => q.1 ▸ cl_emp⟩
instance {cl : String → Addr} : PerF (aX cl) := ⟨fun _ _ _ _ q => q.1⟩
instance {cl : String → Addr} : FrzF (aX cl) (aX cl) := ⟨fun _ => .per fun _ _ _ q => q.1⟩
instance {cl : String → Addr} : NnF (aX cl) := ⟨fun _ _ _ ⟨_, _, e, _⟩ => nomatch e⟩
theorem slots_gone {F : Hp} : ∀ {Γ : Ctx} {σ : L2.St} {O : Hp} {i : Nat}, Slots Γ σ F O → Γ[i]?.join = none → Slots Γ (σ.set i none) F O
  | g :: Γ, x :: σ, O, 0, ⟨h0, O0, t, p, r⟩, e => by
    simp at e; subst e
    exact ⟨h0, O0, t, p, r⟩
  | g :: Γ, x :: σ, O, i + 1, ⟨h0, O0, t, p, r⟩, e => ⟨h0, O0, t, p, slots_gone (i := i) r (by simpa using e)⟩
  | [], [], _, _, s, e => s
section
variable {B T' S : Type}
def tryM (names : List String) (h : String → Fl B T' S) (m : Fl B T' S) : Fl B T' S := match m with
  | .er c => if c ∈ names then h c else .no
  | x => x
end
section
variable {α β γ B T' S : Type} {X : Cx} {W : WX} {cl : String → Addr} {Γ Γe Γc : Ctx} {e a b : Expr} {es : List Expr} {pos p np pos' apos : Pos} {ta tb' : TE} {k j i : Nat} {Γn : S → Ctx} {Γb : B → Ctx} {RA : RAs T'} {x n : Str} {T : Value} {names : List String} {body suite : List Stmt} {b₀ : Stmt} {tb : WX → TS} {ts : TS}
theorem js_try {m : Fl B T' S} {h : String → Fl B T' S} (G : Gd X W k) (hc : Names X x T) (hx : ∀ c ∈ names, PySem.W.exmOne X.K (.ref (cl c)) T = some true)
    (hb : ∀ (W' : WX) (pn : List (Addr × Obj)) (xe : Value → Shared → Prop), Gd (X.tr pn xe) W' k → JB (X.tr pn xe) W' cl Γ body (tb W') m Γn Γb RA Γc)
    (hsu : ∀ a pn c, JB (X.suite a pn) W cl (Γc.set i (some (aX cl c))) (b₀ :: suite) ts (h c) Γn Γb RA Γe)
    (hΓ : Γc[i]? = some none := by rfl) (hn : ∀ s, (Γn s)[i]?.join = none := by intro _; rfl) (hbk : ∀ s, (Γb s)[i]?.join = none := by intro _; rfl)
    (hs : X.stack = X.env :: X.outer := by rfl) (hf : X.env.frame = some X.env.locals := by rfl) (hex : X.ex = [] := by rfl) (hi : X.N[i]? = some n := by rfl) (hln : X.env.kindOf n = some .local := by rfl) :
    JS X W cl Γ (.Try body [.ExceptHandler (some (.Name x np)) (some n) (b₀ :: suite) pos'] [] [] pos) (fun D σ H => tb (wKeep X.K T i (fun _ => ts) D) D σ H) (tryM names h m) Γn Γb RA Γe := by
  refine ⟨ps_try_keep hs hf hex G.nd hi hln hc (fun W' pn xe tk po => (hb W' pn xe ⟨tk, po, G.calm, G.nd, G.room⟩).pe) (fun a pn => (hsu a pn "").pe), fun σ F O H R D u s q => ?_⟩
  have G0 : Gd (X.tr [] (fun e s₁ => wpAny (model X.prog X.w) X.A (noteFrame e X.env) (fun _ s₂ => wpAny (model X.prog X.w) X.A (setFlight e none) (fun _ _ => True) (fun _ _ => True) s₂) (fun _ _ => True) s₁)) (wKeep X.K T i (fun _ => ts) D) k := by
    refine ⟨fun u s' xx => ?_, PassesOwn.looking, G.calm, G.nd, G.room⟩
    obtain ⟨a, B, sI, pins', σ', H', cls, d, rfl, J', nb, up, sky, na, os, ag, _⟩ := xx
    have hfr : X.A.frames = some (X.env :: X.outer) := by rw [← hs]; exact J'.ok.frames
    have sky' : Sky B (X.env :: X.outer) a (Zc cls d) X.env.locals s'.heap := by rw [← hs]; exact sky
    exact Sky.land Zc.steady hfr hf sky' fun h3 fl3 up3 => trivial
  refine (hb _ [] _ G0).run σ F O H R D u s ?_
  cases m with
  | nx s => exact q
  | rt r => exact q
  | bk b => exact q
  | ct b => exact q
  | no => exact q
  | er c =>
    replace q : OutF (if c ∈ names then h c else .no) (wants W cl Γn Γb RA Γe F R D) := q
    by_cases hcn : c ∈ names
    case neg => rw [if_neg hcn] at q; exact q.elim
    rw [if_pos hcn] at q
    intro σ' F' O' H' l u' s'
    refine ⟨hx c hcn, rfl, fun a na => ?_⟩
    have u1 := u'.alloc (o := ExC (.ref (cl c)) a) na
    obtain ⟨F2, l1, l2, u2⟩ := (u1.swap).leak
    have s2 := (s'.mono l1).put hΓ (A := aX cl c) (v := .ref a) ⟨rfl, a, rfl, l2 _ _ one_same⟩ .l_emp
    refine (hsu a [] c).run _ F2 O' _ R _ u2 s2 ?_
    exact OutF.mono (wants_le (l.tr l1) q) (fun s _ q σ F O H l u z => q (σ.set i none) F O H l u (slots_gone z (hn s))) (fun _ q => q) (fun s q σ F O H l u z => q (σ.set i none) F O H l u (slots_gone z (hbk s))) (fun s q σ F O H l u z => q (σ.set i none) F O H l u (slots_gone z (hbk s))) fun _ q => q
def rIsX (K : PySem.W.Frag) : List V → Hp → VK → Prop := fun xs H Q => ∃ (x cv : V) (T : Value) (b : Bool), xs = [x, cv] ∧ (∀ u, RelV cv u → u = T) ∧ ((x = .non ∧ PySem.W.kitOne K (.type "NoneType") T = some b) ∨ ∃ a D, x = .ref a ∧ H a = some (ExC (.ref D) a) ∧ ExcC K D ∧ PySem.W.kitOne K (.ref D) T = some b) ∧ Q (.bl b) H
theorem inst_of {pins : List (Addr × Obj)} {σ : L2.St} {H : Hp} {s : Shared} {a D : Addr} (I : Inv X pins σ H s) (ea : H a = some (ExC (.ref D) a)) : ∃ oe, PySem.W.InstAt s.heap a oe D none := by
  obtain ⟨⟨oe, vs, h1, h2, h3⟩, _⟩ := (show ObjOk X.prog X.w H s.heap a (ExC (.ref D) a) from I.hok a _ ea)
  obtain ⟨oc, od, oda, osl⟩ := oe
  obtain ⟨h4, h5⟩ := h2
  dsimp only at h3 h4 h5
  subst h3 h4 h5
  exact ⟨_, h1, rfl, rfl, trivial⟩
theorem call_isX : CallR X (.builtin "isinstance") (rIsX X.K) := by
  intro pins s σ H xs us Q I r h
  obtain ⟨x, cv, T, b, rfl, hcv, h1, q⟩ := h
  obtain ⟨u1, u2, rfl, r1, r2⟩ := vals2 r
  have e2 := hcv _ r2
  subst e2
  rcases h1 with ⟨rfl, e⟩ | ⟨a, D, rfl, ea, C, e⟩
  · obtain ⟨P, Z, p, hx⟩ := kit_of I r1 (TyX.base .non)
    exact PySem.W.kia_one Z I.kIn p e hx fun tk => ⟨.bl b, H, I.tok tk, rfl, q⟩
  · cases (show u1 = Value.ref a from r1)
    obtain ⟨oe, J⟩ := inst_of I ea
    exact PySem.W.kia_one (PySem.W.handS_kitx_exc C.hg C.hk C.hs C.hd C.ha C.hn C.ht C.hm) I.kIn J e (fun z => nomatch z) fun tk => ⟨.bl b, H, I.tok tk, rfl, q⟩
def rIsXT (K : PySem.W.Frag) : List V → Hp → VK → Prop := fun xs H Q => ∃ (x : V) (tp : Addr) (cs : List V) (us : List Value) (b : Bool), xs = [x, .ref tp] ∧ H tp = some (.tup cs) ∧ Paired ClsV cs us ∧ ((x = .non ∧ PySem.W.kitAny K (.type "NoneType") us = some b) ∨ ∃ a D, x = .ref a ∧ H a = some (ExC (.ref D) a) ∧ ExcC K D ∧ PySem.W.kitAny K (.ref D) us = some b) ∧ Q (.bl b) H
theorem call_isXT : CallR X (.builtin "isinstance") (rIsXT X.K) := by
  intro pins s σ H xs us Q I r h
  obtain ⟨x, tp, cs, ws, b, rfl, hT, kk, h1, q⟩ := h
  obtain ⟨u1, u2, rfl, r1, r2⟩ := vals2 r
  cases (show u2 = Value.ref tp from r2)
  obtain ⟨_, its, rv, o, g1, g2, n, g3⟩ := (show ObjOk X.prog X.w H s.heap tp (.tup cs) from I.hok tp _ hT)
  have e3 := ClsV.all kk rv
  subst e3
  obtain ⟨oc, od, dt, sl⟩ := o
  simp only at g2 g3
  subst g2 g3
  rcases h1 with ⟨rfl, e⟩ | ⟨a, D, rfl, ea, C, e⟩
  · obtain ⟨P, Z, p, hx⟩ := kit_of I r1 (TyX.base .non)
    exact PySem.W.kia_tup Z I.kIn p g1 e hx fun tk => ⟨.bl b, H, I.tok tk, rfl, q⟩
  · cases (show u1 = Value.ref a from r1)
    obtain ⟨oe, J⟩ := inst_of I ea
    exact PySem.W.kia_tup (PySem.W.handS_kitx_exc C.hg C.hk C.hs C.hd C.ha C.hn C.ht C.hm) I.kIn J g1 e (fun z => nomatch z) fun tk => ⟨.bl b, H, I.tok tk, rfl, q⟩
def isXM (names : List String) (f : String → Bool) : Option String → Rs Bool
  | none => .ok false
  | some c => if c ∈ names then .ok (f c) else .no
theorem isX_cases {K : PySem.W.Frag} {o : Option String} {v : V} {F h H : Hp} {f : String → Bool} {r : Bool} (p : (aO (aX cl) o).p v F h) (l : Le F H) (e : isXM names f o = .ok r) {U : Value → Bool → Prop} (hE : ∀ c ∈ names, ExcC K (cl c)) (h0 : U (.type "NoneType") false) (h1 : ∀ c ∈ names, U (.ref (cl c)) (f c)) :
    ((v = .non ∧ U (.type "NoneType") r) ∨ ∃ a D, v = .ref a ∧ H a = some (ExC (.ref D) a) ∧ ExcC K D ∧ U (.ref D) r) ∧ h = emp := by
  cases o with
  | none => cases e; exact ⟨.inl ⟨p.1, h0⟩, p.2⟩
  | some c =>
    unfold isXM at e
    by_cases hc : c ∈ names
    · simp only [hc, if_true] at e
      cases e
      obtain ⟨eh, a, rfl, ea⟩ := p
      exact ⟨.inr ⟨a, cl c, rfl, l _ _ ea, hE c hc, h1 c hc⟩, eh⟩
    · simp only [hc, if_false] at e; cases e
def rsO {α : Type} (r : Rs α) : Option α := match r with
  | .ok a => some a
  | _ => none
theorem opt_rsO {α : Type} {r : Rs α} (h : ∀ c, r ≠ .er c) : opt (rsO r) = r := by
  cases r with
  | ok a => rfl
  | er c => exact absurd rfl (h c)
  | no => rfl
theorem isXM_ne (names : List String) (f : String → Bool) (o : Option String) (c : String) : isXM names f o ≠ .er c := by
  cases o with
  | none => intro h; cases h
  | some d =>
    intro h
    replace h : (if d ∈ names then Rs.ok (f d) else Rs.no) = Rs.er c := h
    by_cases hd : d ∈ names
    · rw [if_pos hd] at h; cases h
    · rw [if_neg hd] at h; cases h
theorem isXM_rs {names : List String} {f : String → Bool} {o : Option String} {r : Bool} (e : rsO (isXM names f o) = some r) : isXM names f o = .ok r := by
  cases q : isXM names f o with
  | ok a => rw [q] at e; cases e; rfl
  | er c => rw [q] at e; cases e
  | no => rw [q] at e; cases e
/-- a class's name -/
theorem jn_cls {x : Str} {C : Addr} (hm : X.mg x = some (.ref C)) (hg : Gl X x := by rfl) (hd : (x == ("__debug__" : Str)) = false := by decide) : JN X W cl Γ (.Name x pos) (tC (.ref C)) (.ok ()) (fun _ => aV (.ref C)) := jn_c (pe_glob hg hm (v := .ref C) rfl hd) fun F => ⟨rfl, rfl⟩
theorem jn_bty {x : Str} (n : String) (hm : X.mg x = none) (hb : bootBuiltins x = some (.type n) := by rfl) (hg : Gl X x := by rfl) (hn : x ≠ "__name__" := by decide) (hd : (x == ("__debug__" : Str)) = false := by decide) : JN X W cl Γ (.Name x pos) (tC (.ty n)) (.ok ()) (fun _ => aV (.ty n)) :=
  jn_c (pe_bltn hg hm hb rfl hn hd) fun F => ⟨rfl, rfl⟩
theorem jn_tupC {ι : Type} {t : TA} {As : ι → List Asn} (cs : List V) {m : Rs ι} {x1} (h : JNs X W cl Γ es t m As) (hA : ∀ i, As i = cs.map aV := by intro _; rfl) (hl : ∀ i, Nat.ble (As i).length 64 = true := by intro _; rfl) (hm : (m.b fun _ => .ok ()) = .ok () := by rfl) :
    JN X W cl Γ (.Tuple es x1 pos) (tTup t) (.ok ()) (fun _ => oT (cs.map aV)) := by
  rw [← hm]
  exact jn_tup (C := fun _ : Unit => oT (cs.map aV)) (fun _ => ()) h (fun i => by rw [hA]) hl
/-- isinstance(caught, T), T one class -/
theorem jn_isX {K0 : PySem.W.Frag} {vT : V} (f : String → Bool) {m : Rs (Option String)} (hm : X.mg "isinstance" = none) (hE : ∀ c ∈ names, ExcC K0 (cl c)) (h0 : PySem.W.kitOne K0 (.type "NoneType") T = some false) (hk : ∀ c ∈ names, PySem.W.kitOne K0 (.ref (cl c)) T = some (f c))
    (h : JN X W cl Γ e ta m (aO (aX cl))) (hT : JN X W cl Γ b tb' (.ok ()) (fun _ => aV vT)) (hv : ∀ u, RelV vT u → u = T) (hg : Gl X "isinstance" := by rfl)
    (hs : starEach [e, b] X.env = (false, eval e X.env) :: starEach [b] X.env := by rfl) (hs2 : starEach [b] X.env = (false, eval b X.env) :: starEach [] X.env := by rfl) (hpl : (backTo pos (starEach [b] X.env)).any (·.1) = false := by rfl) (hK : X.K = K0 := by rfl) :
    JN X W cl Γ (.Call (.Name "isinstance" p) [e, b] [] pos) (tCB (rIsX K0) (tCons ta (tCons tb' tNil))) (m.b (isXM names f)) aB := by
  subst hK
  have e1 : (m.b (isXM names f)) = ((m.b fun x => (Rs.ok ()).b fun y => .ok (x, y)).b fun q => opt (rsO (isXM names f q.1))) := by
    cases m with
    | ok a => exact (opt_rsO (isXM_ne names f a)).symm
    | er c => rfl
    | no => rfl
  rw [e1]
  exact JN.args (f := fun q : Option String × Unit => rsO (isXM names f q.1)) (jns_cons h (jns_one hT hs2) hs) (fun q => pe_callB call_isX hg hm PyProof.Rows.boot_isinstance q (he := hs) (hpl := hpl)) fun q vs F h H R Q c e u sp kk => by
    obtain ⟨v, w, h1, h2, rfl, t, p1, ⟨rfl, e2⟩⟩ := sep2 sp
    obtain ⟨l1, l2⟩ := le_part u
    obtain ⟨hc, eh⟩ := isX_cases (K := X.K) (U := fun t b => PySem.W.kitOne X.K t T = some b) p1 l1 (isXM_rs e) hE h0 hk
    exact ⟨v, _, T, c, rfl, hv, hc, kt_val kk u fun F' _ _ => ⟨rfl, rfl⟩⟩
/-- T a tuple of classes -/
theorem jn_isXT {K0 : PySem.W.Frag} {cs : List V} {us : List Value} (f : String → Bool) {m : Rs (Option String)} (hm : X.mg "isinstance" = none) (hE : ∀ c ∈ names, ExcC K0 (cl c)) (h0 : PySem.W.kitAny K0 (.type "NoneType") us = some false) (hk : ∀ c ∈ names, PySem.W.kitAny K0 (.ref (cl c)) us = some (f c))
    (h : JN X W cl Γ e ta m (aO (aX cl))) (hT : JN X W cl Γ b tb' (.ok ()) (fun _ => oT (cs.map aV))) (hv : Paired ClsV cs us) (hg : Gl X "isinstance" := by rfl)
    (hs : starEach [e, b] X.env = (false, eval e X.env) :: starEach [b] X.env := by rfl) (hs2 : starEach [b] X.env = (false, eval b X.env) :: starEach [] X.env := by rfl) (hpl : (backTo pos (starEach [b] X.env)).any (·.1) = false := by rfl) (hK : X.K = K0 := by rfl) :
    JN X W cl Γ (.Call (.Name "isinstance" p) [e, b] [] pos) (tCB (rIsXT K0) (tCons ta (tCons tb' tNil))) (m.b (isXM names f)) aB := by
  subst hK
  have e1 : (m.b (isXM names f)) = ((m.b fun x => (Rs.ok ()).b fun y => .ok (x, y)).b fun q => opt (rsO (isXM names f q.1))) := by
    cases m with
    | ok a => exact (opt_rsO (isXM_ne names f a)).symm
    | er c => rfl
    | no => rfl
  rw [e1]
  exact JN.args (f := fun q : Option String × Unit => rsO (isXM names f q.1)) (jns_cons h (jns_one hT hs2) hs) (fun q => pe_callB call_isXT hg hm PyProof.Rows.boot_isinstance q (he := hs) (hpl := hpl)) fun q vs F h H R Q c e u sp kk => by
    obtain ⟨v, w, h1, h2, rfl, t, p1, a, ws, rfl, t2, s2⟩ := sep2 sp
    obtain ⟨l1, l2⟩ := le_part u
    obtain ⟨hc, eh⟩ := isX_cases (K := X.K) (U := fun t b => PySem.W.kitAny X.K t us = some b) p1 l1 (isXM_rs e) hE h0 hk
    have ew : ∀ {cs : List V} {ws : List V} {h : Hp}, Sep (cs.map aV) ws F h → ws = cs := by
      intro cs
      induction cs with
      | nil => intro ws h s; cases ws with
        | nil => rfl
        | cons _ _ => exact s.elim
      | cons c cs ih =>
        intro ws h s
        cases ws with
        | nil => exact s.elim
        | cons w ws =>
          obtain ⟨g1, g2, _, p, r⟩ := s
          rw [p.1, ih r]
    have := ew s2
    subst this
    exact ⟨v, a, _, us, c, rfl, l1 _ _ t2, hv, hc, kt_val kk u fun F' _ _ => ⟨rfl, rfl⟩⟩
structure ClX (P : Program) (w : World) (K : PySem.W.Frag) (mg : Str → Option Value) (base : Heap) (cl : String → Addr) (j : Nat) (q : Str) (names : List String) : Prop where
  ex : ∀ c ∈ names, ∃ f fd, ExcC K (cl c) ∧ PySem.W.findIn K (.ref (cl c)) q = some (some (.ref f)) ∧ PySem.W.isFn K (.ref f) = true ∧ PySem.W.keepIn K (.ref f) = true ∧ FnR P w K mg base cl j f fd ["self"] (fun _ : Unit => [aX cl c]) (fun _ => .ok (c : Str)) aS ∧ Binds K fd ["self"] []
def tMethX (C : Addr → Prop) (sp : Addr → Sp) (E : L2.St → XK) (ta : TE) : TE := fun σ H Q => ta σ H fun x H1 => ∃ a D, x = .ref a ∧ H1 a = some (ExC (.ref D) a) ∧ C D ∧ sp D [x] H1 Q (E σ)
theorem jn_called {pl : Sem Bool} {q : Str} {m : Rs String} (G : Gd X W k) (c : ClX X.prog X.w X.K X.mg X.base cl j q names) (h : JN X W cl Γ e ta m (aX cl)) (hj : j ≤ k := by decide)
    (ht : eval (.Call (.Attribute e q apos) [] [] pos) X.env = (do
      let ov ← eval e X.env
      standAt apos.atName
      let (f, first) ← holding [ov] (getMethod ov q pl)
      callWith pos f first (backTo pos (starEach [] X.env)) (backToKw pos (keywordEach [] X.env))) := by rfl) :
    JN X W cl Γ (.Call (.Attribute e q apos) [] [] pos) (tMethX (fun D => ∃ c ∈ names, D = cl c) (fun D => fun vs H Q E => ∃ c ∈ names, D = cl c ∧ Fsp cl (fun _ : Unit => [aX cl c]) (fun _ => .ok (c : Str)) aS vs H Q E) (WE W) ta) (m.b fun c => if c ∈ names then .ok (c : Str) else .no) aS := by
  obtain ⟨pp, kk⟩ := h
  refine ⟨⟨fun pins s σ H Q I h => ?_⟩, fun σ F0 O H R Q u s q => kk σ F0 O H R _ u s (q.bind.mono (fun cn _ q v F' h H' l u' p' => ?_) fun c q => q)⟩
  · refine PySem.W.methodCall_KW (pl := pl) (thn (pp.run pins s σ H _ I h) fun u s1 ⟨x, H1, I1, rx, a, D, ex, ea, _, cn, hcn, eD, q⟩ => ?_) ht
    subst ex eD
    obtain rfl : u = Value.ref a := rx
    obtain ⟨f, fd, C, hfi, hfn, hkp, F, hb⟩ := c.ex cn hcn
    obtain ⟨oe, J⟩ := inst_of I1 ea
    obtain ⟨mm, fr⟩ := I1.fr
    refine PySem.W.method_exc0 fr I1.ok.mod.kin J C.hg C.hk hfi hfn ?_
    exact PySem.W.callWith_K0 (first := [.ref a]) I1.kIn hkp (run_fnS (us := [.ref a]) (vs := [.ref a]) F (G.room.mono hj) hb (passAt G.tk σ) I1 (.cons rfl .nil) q)
  · by_cases hcn : cn ∈ names
    · rw [if_pos hcn] at q
      obtain ⟨eh, a, rfl, ea⟩ := p'
      subst eh
      refine ⟨a, cl cn, rfl, (u'.le (by simp)) _ _ ea, ⟨cn, hcn, rfl⟩, cn, hcn, rfl, (), F', emp, O :: R, s.tgo.mono l, u'.swap1, Sep.sing ⟨rfl, a, rfl, ea⟩, fun v F2 h2 H2 l2 u2 p2 => q v F2 h2 H2 (l.tr l2) u2.swap1 p2⟩
    · rw [if_neg hcn] at q; exact q.elim
end
end Br
namespace Br
open PySem PySem.Spec L2 PyProof.Rows
abbrev FB : Type := PySem.W.Frag → Bool
abbrev AlX : Type := Bool × He.AlD
def obsX (fa : List He.Fa) (fn : List He.DefD) (fb : List FB) (K : PySem.W.Frag) : AlX := (fb.all fun f => f K, He.obsD fa fn K)
def SaysX (fa : List He.Fa) (fn : List He.DefD) (fb : List FB) (K : PySem.W.Frag) : Prop := obsX fa fn fb K = (true, He.valD fn)
def obsXG (n : Nat) (fa : List He.Fa) (fn : List He.DefD) (fb : List FB) (g : Addr → Option Obj) : AlX := obsX fa fn fb (He.frG g (He.asD g n))
def hookX (n : Nat) (fa : List He.Fa) (fn : List He.DefD) (fb : List FB) : PySem.W.Hook where
  α := AlX
  obs := fun s => obsXG n fa fn fb s.heap.get?
  val := fun _ => (true, He.valD fn)
  says := fun _ h => ∃ K : PySem.W.Frag, K.In h ∧ SaysX fa fn fb K
  of := fun _ _ e => ⟨_, He.frG_in, e⟩
  keeps := fun _ _ _ ⟨K, hK, c⟩ k => ⟨K, PySem.W.Frag.In.keeps hK k, c⟩
theorem obsXG_eq {n : Nat} {fa : List He.Fa} {fn : List He.DefD} {fb : List FB} {g : Addr → Option Obj} {s : Shared} (h : ∀ a, g a = s.heap.get? a) : obsXG n fa fn fb g = (hookX n fa fn fb).obs s := by
  rw [show g = s.heap.get? from funext h]
  rfl
section
variable {σ α β : Type} {o : Option σ}
theorem run_pair {f : σ → α} {g : σ → β} {a : α} {b : β} (h1 : o.map f = some a) (h2 : o.map g = some b) : o.map (fun s => (f s, g s)) = some (a, b) := by
  cases o with
  | none => cases h1
  | some s => cases h1; cases h2; rfl
theorem run_parts {f : σ → α × β} {a : α} {b : β} (h1 : o.map (fun s => (f s).1) = some a) (h2 : o.map (fun s => (f s).2) = some b) : o.map f = some (a, b) := by
  cases o with
  | none => cases h1
  | some s => cases h1; cases h2; rfl
theorem run_and {p q : σ → Bool} (h1 : o.map p = some true) (h2 : o.map q = some true) : o.map (fun s => p s && q s) = some true := by
  cases o with
  | none => cases h1
  | some s =>
    have h1 : some (p s) = some true := h1
    have h2 : some (q s) = some true := h2
    injection h1 with h1; injection h2 with h2
    show some (p s && q s) = some true
    rw [h1, h2]; rfl
theorem run_all {p : σ → α → Bool} {l1 l2 : List α} (h1 : o.map (fun s => l1.all (p s)) = some true) (h2 : o.map (fun s => l2.all (p s)) = some true) : o.map (fun s => (l1 ++ l2).all (p s)) = some true := by
  cases o with
  | none => cases h1
  | some s =>
    have h1 : some (l1.all (p s)) = some true := h1
    have h2 : some (l2.all (p s)) = some true := h2
    injection h1 with h1; injection h2 with h2
    show some ((l1 ++ l2).all (p s)) = some true
    rw [List.all_append, h1, h2]; rfl
theorem run_map {f : σ → α → β} {g : α → β} {l1 l2 : List α} (h1 : o.map (fun s => l1.map (f s)) = some (l1.map g)) (h2 : o.map (fun s => l2.map (f s)) = some (l2.map g)) : o.map (fun s => (l1 ++ l2).map (f s)) = some ((l1 ++ l2).map g) := by
  cases o with
  | none => cases h1
  | some s =>
    have h1 : some (l1.map (f s)) = some (l1.map g) := h1
    have h2 : some (l2.map (f s)) = some (l2.map g) := h2
    injection h1 with h1; injection h2 with h2
    show some ((l1 ++ l2).map (f s)) = some ((l1 ++ l2).map g)
    rw [List.map_append, List.map_append, h1, h2]
end
noncomputable abbrev runE (r : PySem.W.OpenRow) (w : World) (os : OsState) (M : Nat) : Option PySem.W.SharedT := HandSHeadRun.endF (HandSHeadRun.stepQ (HandSHeadRun.denQ HandSHeadRun.tabQ) r.prog w) M r.prog w os
abbrev runK (n : Nat) (s : PySem.W.SharedT) : PySem.W.Frag := He.frG (HandSHeadRun.getT s) (He.asD (HandSHeadRun.getT s) n)
theorem runEq_of {r : PySem.W.OpenRow} {q : Program} {fa : List He.Fa} {fn : List He.DefD} {fb : List FB} {n : Nat} {M : Nat} {loose : List PySem.Str} {w : World}
    (h1 : ∀ os, (runE r w os M).map (fun s => HandSHeadRun.looksF r.prog (PySem.W.boot_heap w.params) s.abs) = some true)
    (h2 : ∀ os, (runE r w os M).map (fun s => HandSHeadRun.seenQ q loose (PySem.importedModules r.prog.main.body) (fun s => PySem.W.xlAt q [] s && PySem.W.recOk r.records s) s.abs) = some (PySem.W.openGood q loose))
    (h3 : ∀ os, (runE r w os M).map (fun s => fb.all fun f => f (runK n s)) = some true)
    (h4 : ∀ os, (runE r w os M).map (fun s => fa.all fun f => He.Fa.ok (runK n s) f) = some true)
    (h5 : ∀ os, (runE r w os M).map (fun s => fn.all fun d => He.DefD.ok (runK n s) d) = some true)
    (h6 : ∀ os, (runE r w os M).map (fun s => fn.map fun d => He.fnW (runK n s) d.at_) = some (fn.map He.DefD.val)) : HandSHeadRun.RunEq r q (hookX n fa fn fb) (fun s => obsXG n fa fn fb (HandSHeadRun.getT s)) M loose w := fun os =>
  run_pair (h1 os) (run_pair (h2 os) (run_pair (h3 os) (run_pair (run_and (h4 os) (h5 os)) (h6 os))))
variable [tgi : Tbs]
def NoTs (l : List Asn) : Prop := ∀ A ∈ l, NoT A
theorem NoTs.nil : NoTs [] := fun _ m => nomatch m
theorem NoTs.cons {A : Asn} {l : List Asn} (a : NoT A) (r : NoTs l) : NoTs (A :: l) := fun B m => by
  rcases List.mem_cons.mp m with e | m
  · exact e ▸ a
  · exact r B m
theorem not_oCs {C : Addr} {l : Fds} (k : NoTs (asl l)) : NoT (oCs C l) := fun _ _ _ _ g ⟨a, dx, vs, h', e, t, s⟩ => ⟨a, dx, vs, h', e, t, s.not g k⟩
def NtP (A : Asn) : Prop := ∀ v F h, A.p v F h → ∀ a t, h a ≠ some (.tup t)
def NtPs (l : List Asn) : Prop := ∀ A ∈ l, NtP A
theorem NtPs.nil : NtPs [] := fun _ m => nomatch m
theorem NtPs.cons {A : Asn} {l : List Asn} (a : NtP A) (r : NtPs l) : NtPs (A :: l) := fun B m => by
  rcases List.mem_cons.mp m with e | m
  · exact e ▸ a
  · exact r B m
theorem nt_oCs {C : Addr} {l : Fds} (k : NtPs (asl l)) : NtP (oCs C l) := fun v F h ⟨a, dx, vs, h', e, t, s⟩ b u q => by
  obtain ⟨g, m, q'⟩ := (t.2 b _).mp q
  rcases List.mem_cons.mp m with rfl | m
  · cases (one_some q').2
  rcases List.mem_cons.mp m with rfl | m
  · cases (one_some q').2
  rcases List.mem_cons.mp m with rfl | m
  · exact Sep.ntp (fun A m => k A m) s b u q'
  · cases m
theorem NofPs.nil : ∀ A ∈ ([] : List Asn), NoF A := fun _ m => nomatch m
theorem NofPs.cons {A : Asn} {l : List Asn} (a : NoF A) (r : ∀ A ∈ l, NoF A) : ∀ B ∈ A :: l, NoF B := fun B m => by
  rcases List.mem_cons.mp m with e | m
  · exact e ▸ a
  · exact r B m
theorem nof_oCs {C : Addr} {l : Fds} (k : ∀ A ∈ asl l, NoF A) : NoF (oCs C l) := fun _ _ _ _ ⟨a, dx, vs, h', e, t, s⟩ => ⟨a, dx, vs, h', e, t, s.nof k⟩
section
variable {fa : List He.Fa} {fn : List He.DefD} {fb : List FB} {K : PySem.W.Frag}
theorem SaysX.says (c : SaysX fa fn fb K) : He.SaysD fa fn K := congrArg (fun z : AlX => z.2) c
theorem SaysX.fbk (c : SaysX fa fn fb K) (i : Nat) {f : FB} (h : fb[i]? = some f := by rfl) : f K = true := by
  have c1 : (fb.all fun f => f K) = true := congrArg (fun z : AlX => z.1) c
  exact List.all_eq_true.mp c1 f (List.mem_of_getElem? h)
end
def excCB (K : PySem.W.Frag) (D : Addr) : Bool :=
  decide (PySem.W.findIn K (.ref D) "__getattribute__" = some (some (.builtin "BaseException.__getattribute__"))) && (decide (PySem.W.findIn K (.ref D) "__getattr__" = some none) && (decide (PySem.W.subIn K (.ref D) (.type "BaseException") = some true) && (PySem.W.hasDictIn K D &&
  (decide (PySem.W.findIn K (.ref D) "__class__" = some (some (.builtin "object.__class__"))) && (decide (PySem.W.specialIn K (.builtin "object.__class__") "__get__" = some (some (.builtin "getset_descriptor.__get__"))) && (decide (PySem.W.takesIn K (.builtin "object.__class__") = some true) && decide (PySem.W.mroIn K D (.type "object") = some true)))))))
theorem excCB_ok {K : PySem.W.Frag} {D : Addr} (c : excCB K D = true) : ExcC K D := by
  unfold excCB at c
  simp only [Bool.and_eq_true, decide_eq_true_eq] at c
  obtain ⟨c1, c2, c3, c4, c5, c6, c7, c8⟩ := c
  exact ⟨c1, c2, c3, c4, c5, c6, c7, c8⟩
def excsB (names : List String) : FB := fun K => names.all fun c => excCB K (He.ga K c)
theorem excsB_ok {names : List String} {K : PySem.W.Frag} (c : excsB names K = true) : ∀ n ∈ names, ExcC K (He.ga K n) := fun n h => excCB_ok (List.all_eq_true.mp c n h)
/-- all of these come under T -/
def exmB (names : List String) (T : String) : FB := fun K => names.all fun c => decide (PySem.W.exmOne K (.ref (He.ga K c)) (.ref (He.ga K T)) = some true)
theorem exmB_ok {names : List String} {T : String} {K : PySem.W.Frag} (c : exmB names T K = true) : ∀ n ∈ names, PySem.W.exmOne K (.ref (He.ga K n)) (.ref (He.ga K T)) = some true := fun n h => of_decide_eq_true (List.all_eq_true.mp c n h)
def isB (names : List String) (T : PySem.W.Frag → Value) (f : String → Bool) : FB := fun K => decide (PySem.W.kitOne K (.type "NoneType") (T K) = some false) && names.all fun c => decide (PySem.W.kitOne K (.ref (He.ga K c)) (T K) = some (f c))
theorem isB_ok {names : List String} {T : PySem.W.Frag → Value} {f : String → Bool} {K : PySem.W.Frag} (c : isB names T f K = true) : PySem.W.kitOne K (.type "NoneType") (T K) = some false ∧ ∀ n ∈ names, PySem.W.kitOne K (.ref (He.ga K n)) (T K) = some (f n) := by
  unfold isB at c
  obtain ⟨c1, c2⟩ := Bool.and_eq_true_iff.mp c
  exact ⟨of_decide_eq_true c1, fun n h => of_decide_eq_true (List.all_eq_true.mp c2 n h)⟩
def isTB (names : List String) (Ts : PySem.W.Frag → List Value) (f : String → Bool) : FB := fun K => decide (PySem.W.kitAny K (.type "NoneType") (Ts K) = some false) && names.all fun c => decide (PySem.W.kitAny K (.ref (He.ga K c)) (Ts K) = some (f c))
theorem isTB_ok {names : List String} {Ts : PySem.W.Frag → List Value} {f : String → Bool} {K : PySem.W.Frag} (c : isTB names Ts f K = true) : PySem.W.kitAny K (.type "NoneType") (Ts K) = some false ∧ ∀ n ∈ names, PySem.W.kitAny K (.ref (He.ga K n)) (Ts K) = some (f n) := by
  unfold isTB at c
  obtain ⟨c1, c2⟩ := Bool.and_eq_true_iff.mp c
  exact ⟨of_decide_eq_true c1, fun n h => of_decide_eq_true (List.all_eq_true.mp c2 n h)⟩
/-- a method of these -/
def mthB (c : String) (q : Str) : FB := fun K => decide (PySem.W.findIn K (.ref (He.ga K c)) q = some (some (.ref (He.ma K (He.ga K c) q)))) && (PySem.W.isFn K (.ref (He.ma K (He.ga K c) q)) && PySem.W.keepIn K (.ref (He.ma K (He.ga K c) q)))
theorem mthB_ok {c : String} {q : Str} {K : PySem.W.Frag} (h : mthB c q K = true) : PySem.W.findIn K (.ref (He.ga K c)) q = some (some (.ref (He.ma K (He.ga K c) q))) ∧ PySem.W.isFn K (.ref (He.ma K (He.ga K c) q)) = true ∧ PySem.W.keepIn K (.ref (He.ma K (He.ga K c) q)) = true := by
  obtain ⟨c1, c⟩ := Bool.and_eq_true_iff.mp h
  obtain ⟨c2, c3⟩ := Bool.and_eq_true_iff.mp c
  exact ⟨of_decide_eq_true c1, c2, c3⟩
/-- what isinstance wants of an own class -/
def insB (D : String) : FB := fun K => decide (PySem.W.findIn K (.ref (He.ga K D)) "__class__" = some (some (.builtin "object.__class__"))) && (decide (PySem.W.specialIn K (.builtin "object.__class__") "__get__" = some (some (.builtin "getset_descriptor.__get__"))) && (decide (PySem.W.takesIn K (.builtin "object.__class__") = some true) && (decide (PySem.W.mroIn K (He.ga K D) (.type "object") = some true) && decide (PySem.W.kitOne K (.ref (He.ga K D)) (.ref (He.ga K D)) = some true))))
structure InsC (K : PySem.W.Frag) (C : Addr) : Prop where
  fc : PySem.W.findIn K (.ref C) "__class__" = some (some (.builtin "object.__class__"))
  sp : PySem.W.specialIn K (.builtin "object.__class__") "__get__" = some (some (.builtin "getset_descriptor.__get__"))
  tk : PySem.W.takesIn K (.builtin "object.__class__") = some true
  mr : PySem.W.mroIn K C (.type "object") = some true
  kt : PySem.W.kitOne K (.ref C) (.ref C) = some true
theorem insB_ok {D : String} {K : PySem.W.Frag} (h : insB D K = true) : InsC K (He.ga K D) := by
  unfold insB at h
  simp only [Bool.and_eq_true, decide_eq_true_eq] at h
  obtain ⟨c1, c2, c3, c4, c5⟩ := h
  exact ⟨c1, c2, c3, c4, c5⟩
end Br
namespace Br
open PySem PySem.Spec L2 PyProof.Rows
def obsY (l : List Addr) (fa : List He.Fa) (fn : List He.DefD) (fb : List FB) (g : Addr → Option Obj) : AlX := obsX fa fn fb (He.frG g l)
def hookY (l : List Addr) (fa : List He.Fa) (fn : List He.DefD) (fb : List FB) : PySem.W.Hook where
  α := AlX
  obs := fun s => obsY l fa fn fb s.heap.get?
  val := fun _ => (true, He.valD fn)
  says := fun _ h => ∃ K : PySem.W.Frag, K.In h ∧ SaysX fa fn fb K
  of := fun _ _ e => ⟨_, He.frG_in, e⟩
  keeps := fun _ _ _ ⟨Kf, inK, sf⟩ kp => ⟨Kf, PySem.W.Frag.In.keeps inK kp, sf⟩
theorem obsY_eq {l : List Addr} {fa : List He.Fa} {fn : List He.DefD} {fb : List FB} {g : Addr → Option Obj} {s : Shared} (h : ∀ a, g a = s.heap.get? a) : obsY l fa fn fb g = (hookY l fa fn fb).obs s := by
  rw [show g = s.heap.get? from funext h]
  rfl
section
variable {σ α β : Type} {o : Option σ} {f : σ → α} {g : σ → β} {a : α} {b : β}
theorem run_fst (h : o.map (fun s => (f s, g s)) = some (a, b)) : o.map f = some a := by
  cases o with
  | none => cases h
  | some s => injection h with h; injection h with h1 h2; exact congrArg some h1
theorem run_snd (h : o.map (fun s => (f s, g s)) = some (a, b)) : o.map g = some b := by
  cases o with
  | none => cases h
  | some s => injection h with h; injection h with h1 h2; exact congrArg some h2
end
theorem runEqY {r : PySem.W.OpenRow} {q : Program} {l : List Addr} {fa : List He.Fa} {fn : List He.DefD} {fb : List FB} {M : Nat} {loose : List PySem.Str} {w : World}
    (h1 : ∀ os, (runE r w os M).map (fun s => (HandSHeadRun.looksF r.prog (PySem.W.boot_heap w.params) s.abs, HandSHeadRun.seenQ q loose (PySem.importedModules r.prog.main.body) (fun s => PySem.W.xlAt q [] s && PySem.W.recOk r.records s) s.abs)) = some (true, PySem.W.openGood q loose))
    (h2 : ∀ os, (runE r w os M).map (fun s => obsY l fa fn fb (HandSHeadRun.getT s)) = some (true, He.valD fn)) : HandSHeadRun.RunEq r q (hookY l fa fn fb) (fun s => obsY l fa fn fb (HandSHeadRun.getT s)) M loose w := fun os =>
  run_pair (run_fst (h1 os)) (run_pair (run_snd (h1 os)) (h2 os))
end Br
namespace Hd
open PySem PySem.Spec PyProof.Rows L2
def top (i : Nat) : Stmt := PySem.Challenge.pw_bridgecrews_k61_texts_refused.main.body.getD i (.Pass ⟨0, 0, 0, 0⟩)
def fn : List He.DefD := [⟨("answer_to", none), "answer_to", "answer_to", defArgs (top 102), defBody (top 102), defScope (top 102), [], []⟩,
 ⟨("ask_town", none), "ask_town", "ask_town", defArgs (top 20), defBody (top 20), defScope (top 20), [], []⟩,
 ⟨("Town", some "__init__"), "__init__", "Town.__init__", defArgs (inClass (top 21) 0), defBody (inClass (top 21) 0), defScope (inClass (top 21) 0), [], []⟩,
 ⟨("ask_wages", none), "ask_wages", "ask_wages", defArgs (top 16), defBody (top 16), defScope (top 16), [], []⟩,
 ⟨("written_number", none), "written_number", "written_number", defArgs (top 24), defBody (top 24), defScope (top 24), [], []⟩,
 ⟨("bridge_line", none), "bridge_line", "bridge_line", defArgs (top 25), defBody (top 25), defScope (top 25), [], []⟩,
 ⟨("read_town", none), "read_town", "read_town", defArgs (top 26), defBody (top 26), defScope (top 26), [], []⟩,
 ⟨("answers_to", none), "answers_to", "answers_to", defArgs (top 103), defBody (top 103), defScope (top 103), [], []⟩,
 ⟨("_law_caught", none), "_law_caught", "_law_caught", defArgs (top 112), defBody (top 112), defScope (top 112), [], []⟩,
 ⟨("_law_refused", none), "_law_refused", "_law_refused", defArgs (top 111), defBody (top 111), defScope (top 111), [], []⟩,
 ⟨("_law_asked_right", none), "_law_asked_right", "_law_asked_right", defArgs (top 113), defBody (top 113), defScope (top 113), [], []⟩,
 ⟨("_law_odd_head", none), "_law_odd_head", "_law_odd_head", defArgs (top 108), defBody (top 108), defScope (top 108), [], []⟩,
 ⟨("_law_odd_line", none), "_law_odd_line", "_law_odd_line", defArgs (top 107), defBody (top 107), defScope (top 107), [], []⟩,
 ⟨("_law_changed", none), "_law_changed", "_law_changed", defArgs (top 110), defBody (top 110), defScope (top 110), [], []⟩,
 ⟨("_law_lines", none), "_law_lines", "_law_lines", defArgs (top 109), defBody (top 109), defScope (top 109), [], []⟩,
 ⟨("_law_at", none), "_law_at", "_law_at", defArgs (top 105), defBody (top 105), defScope (top 105), [], []⟩,
 ⟨("_law_town", none), "_law_town", "_law_town", defArgs (top 106), defBody (top 106), defScope (top 106), [], []⟩,
 ⟨("law", none), "law", "law", defArgs (top 114), defBody (top 114), defScope (top 114), [], []⟩,
 ⟨("CrewError", some "called"), "called", "CrewError.called", defArgs (inClass (top 1) 0), defBody (inClass (top 1) 0), defScope (inClass (top 1) 0), [], []⟩,
 ⟨("BadTown", some "called"), "called", "BadTown.called", defArgs (inClass (top 2) 0), defBody (inClass (top 2) 0), defScope (inClass (top 2) 0), [], []⟩,
 ⟨("BadQuarters", some "called"), "called", "BadQuarters.called", defArgs (inClass (top 3) 0), defBody (inClass (top 3) 0), defScope (inClass (top 3) 0), [], []⟩,
 ⟨("BadCount", some "called"), "called", "BadCount.called", defArgs (inClass (top 4) 0), defBody (inClass (top 4) 0), defScope (inClass (top 4) 0), [], []⟩,
 ⟨("BadWages", some "called"), "called", "BadWages.called", defArgs (inClass (top 5) 0), defBody (inClass (top 5) 0), defScope (inClass (top 5) 0), [], []⟩,
 ⟨("BadDealing", some "called"), "called", "BadDealing.called", defArgs (inClass (top 6) 0), defBody (inClass (top 6) 0), defScope (inClass (top 6) 0), [], []⟩,
 ⟨("BadLimits", some "called"), "called", "BadLimits.called", defArgs (inClass (top 7) 0), defBody (inClass (top 7) 0), defScope (inClass (top 7) 0), [], []⟩,
 ⟨("BadText", some "called"), "called", "BadText.called", defArgs (inClass (top 8) 0), defBody (inClass (top 8) 0), defScope (inClass (top 8) 0), [], []⟩,
 ⟨("TooSmall", some "called"), "called", "TooSmall.called", defArgs (inClass (top 9) 0), defBody (inClass (top 9) 0), defScope (inClass (top 9) 0), [], []⟩,
 ⟨("TooLarge", some "called"), "called", "TooLarge.called", defArgs (inClass (top 10) 0), defBody (inClass (top 10) 0), defScope (inClass (top 10) 0), [], []⟩]
def fa : List He.Fa := [.glo "answer_to", .glo "ask_town", .glo "ask_wages", .glo "written_number", .glo "bridge_line", .glo "read_town", .glo "answers_to", .glo "_law_caught", .glo "_law_refused", .glo "_law_asked_right", .glo "_law_odd_head", .glo "_law_odd_line", .glo "_law_changed", .glo "_law_lines", .glo "_law_at", .glo "_law_town", .glo "law", .glo "Town", .cls "Town", .mkr "Town", .noat "Town" "quarters", .noat "Town" "bridges", .glo "BadText", .exc "BadText", .glo "BadTown", .exc "BadTown", .glo "BadWages", .exc "BadWages", .glo "CrewError", .int "DEAREST_WAGE" 1000000000000000000000000000000000000000000000000000000000000, .int "MOST_BRIDGES" 60, .int "MOST_QUARTERS" 24, .str "NUMBER_FIGURES" "0123456789", .free "len", .free "range", .free "list", .free "min", .free "max", .free "sum", .free "sorted", .free "enumerate", .free "zip", .free "isinstance", .free "int", .free "bool", .free "str", .free "tuple", .free "dict", .free "set", .free "any", .free "all", .free "reversed", .free "ValueError"]
def fb : List Br.FB := [Br.excsB ["CrewError", "BadTown", "BadQuarters", "BadCount", "BadWages", "BadDealing", "BadLimits", "BadText", "TooSmall", "TooLarge"], Br.exmB ["CrewError", "BadTown", "BadQuarters", "BadCount", "BadWages", "BadDealing", "BadLimits", "BadText", "TooSmall", "TooLarge"] "CrewError", Br.isB ["CrewError", "BadTown", "BadQuarters", "BadCount", "BadWages", "BadDealing", "BadLimits", "BadText", "TooSmall", "TooLarge"] (fun K => .ref (He.ga K "BadText")) (fun c => decide (c ∈ (["BadText"] : List String))), Br.isB ["CrewError", "BadTown", "BadQuarters", "BadCount", "BadWages", "BadDealing", "BadLimits", "BadText", "TooSmall", "TooLarge"] (fun K => .ref (He.ga K "BadTown")) (fun c => decide (c ∈ (["BadTown"] : List String))), Br.isB ["CrewError", "BadTown", "BadQuarters", "BadCount", "BadWages", "BadDealing", "BadLimits", "BadText", "TooSmall", "TooLarge"] (fun K => .ref (He.ga K "BadWages")) (fun c => decide (c ∈ (["BadWages"] : List String))), Br.isB ["CrewError", "BadTown", "BadQuarters", "BadCount", "BadWages", "BadDealing", "BadLimits", "BadText", "TooSmall", "TooLarge"] (fun K => .ref (He.ga K "CrewError")) (fun c => decide (c ∈ (["CrewError", "BadTown", "BadQuarters", "BadCount", "BadWages", "BadDealing", "BadLimits", "BadText", "TooSmall", "TooLarge"] : List String))), Br.isB ["CrewError", "BadTown", "BadQuarters", "BadCount", "BadWages", "BadDealing", "BadLimits", "BadText", "TooSmall", "TooLarge"] (fun K => .type "ValueError") (fun c => decide (c ∈ (["CrewError", "BadTown", "BadQuarters", "BadCount", "BadWages", "BadDealing", "BadLimits", "BadText", "TooSmall", "TooLarge"] : List String))), Br.mthB "CrewError" "called", Br.mthB "BadTown" "called", Br.mthB "BadQuarters" "called", Br.mthB "BadCount" "called", Br.mthB "BadWages" "called", Br.mthB "BadDealing" "called", Br.mthB "BadLimits" "called", Br.mthB "BadText" "called", Br.mthB "TooSmall" "called", Br.mthB "TooLarge" "called"]
abbrev R : PySem.W.OpenRow := PySem.W.OpenLaw.row PySem.Challenge.rw_bridgecrews_k61_texts_refused
def ads : List Addr := [3, 6, 4, 31, 51, 70, 89, 108, 127, 146, 165, 184, 203, 212, 219, 226, 233, 240, 257, 268, 275, 280, 285, 292, 299, 306, 313, 320, 325, 330, 337, 344, 349, 381, 392, 399, 406, 413, 418, 425, 432, 439, 446, 451, 458, 463, 468, 473, 478, 485, 492, 509, 520, 525, 530, 535, 540, 547, 554, 561, 568, 573, 580, 585, 592, 599, 606, 613, 620, 625, 632, 639, 646, 653, 660, 667, 674, 681, 686, 693, 698, 705, 712, 719, 726, 733, 740, 747, 754, 761, 768, 30, 50, 69, 88, 107, 126, 145, 164, 183, 202, 211, 218, 225, 232, 239, 256, 267, 274, 279, 284, 291, 298, 305, 312, 319, 324, 329, 336, 343, 348, 380, 391, 398, 405, 412, 417, 424, 431, 438, 445, 450, 457, 462, 467, 472, 477, 484, 491, 508, 519, 524, 529, 534, 539, 546, 553, 560, 567, 572, 579, 584, 591, 598, 605, 612, 619, 624, 631, 638, 645, 652, 659, 666, 673, 680, 685, 692, 697, 704, 711, 718, 725, 732, 739, 746, 753, 760, 767, 28, 29, 32, 48, 49, 67, 68, 86, 87, 105, 106, 124, 125, 143, 144, 162, 163, 181, 182, 200, 201, 254, 255, 258, 259, 361, 368, 373, 378, 379, 382, 383, 506, 507, 510, 511, 27, 47, 66, 85, 104, 123, 142, 161, 180, 199, 253, 360, 367, 372, 377, 505]
abbrev hk : PySem.W.Hook := Br.hookY ads fa fn fb
def ob (s : PySem.W.SharedT) : Br.AlX := Br.obsY ads fa fn fb (HandSHeadRun.getT s)
theorem ob_eq (s : PySem.W.SharedT) : ob s = hk.obs s.abs := Br.obsY_eq (HandSHeadRun.getT_eq s)
def nms : List PySem.Str := (["CrewError", "BadTown", "BadQuarters", "BadCount", "BadWages", "BadDealing", "BadLimits", "BadText", "TooSmall", "TooLarge", "DEAREST_WAGE", "rises_below", "ask_quarters", "ask_quarter", "ask_wages", "MOST_QUARTERS", "MOST_BRIDGES", "ask_town", "Town", "NUMBER_FIGURES"] : List PySem.Str) ++ (["written_number", "bridge_line", "read_town", "closes_ring", "is_dealing", "huddle_marks", "within_one", "MOST_CREWS", "way_back", "way_within", "laid_together", "labelled_from", "crew_with", "moved_along", "with_huddle", "Dealer", "dealt_in_order", "most_dealt", "bridges_within", "crowded_huddle"] : List PySem.Str) ++ (["all_by", "fewest_crews", "MOST_OF_STRENGTH", "BRIDGES_OF_STRENGTH", "fraction_of", "ask_small", "all_markings", "between_marks", "weakest_marking", "counted_lists", "strength_of", "some_quarters", "bridges_inside", "most_crowded", "crowding_of", "Streets", "turned_tree", "turned_from", "parting_by", "joining_crews"] : List PySem.Str) ++ (["most_joining", "MOST_LIMIT", "ask_limits", "led_to", "turned_way", "counts_out", "light_signs", "lightest_signs", "pieces_by", "far_end", "first_isthmus", "bridge_on", "deep_search", "ear_from", "round_signs", "ask_crews_and_wages", "dealt_by_wages", "wages_of", "dearest_dealing", "cheapest_joining"] : List PySem.Str) ++ (["bare_answer", "crews_answer", "heralds_answer", "asked_town", "answer_to", "answers_to", "_law_at", "_law_town", "_law_odd_line", "_law_odd_head", "_law_lines", "_law_changed", "_law_refused", "_law_caught", "_law_asked_right"] : List PySem.Str)
theorem run (w : World) : HandSHeadRun.RunEq R (PySem.W.view R.prog [114]) hk ob 9000 nms w := by
  intro os
  kernel_rfl
end Hd
section
open PySem PySem.W PySem.Calls PyProof.Rows
theorem holds3 (F : ∀ (w : World) (mg : Str → Option Value) (fa : Addr) (h : Heap) (K : PySem.W.Frag), K.In h → h.Ns mainGlobals mg → Br.SaysX Hd.fa Hd.fn Hd.fb K → mg ("law" : Str) = some (.ref fa) →
   ∃ (fd : FuncData) (sp : L2.Sp), (∀ (s : Shared) (v : Value), BindsTo s fd ⟨[v], []⟩ [("script", v)]) ∧ (∀ (H : L2.Hp) (a : Addr) (ns : List Int), ns.length ≤ 63 → L2.SqL K H a (ns.map L2.V.int) → sp [.ref a] H (fun v _ => v = .bl true) (fun _ _ _ => False)) ∧ ∀ base : Heap, K.In base → base.Ns mainGlobals mg → L2.FnOk (PySem.Challenge.rw_bridgecrews_k61_texts_refused).prog w K mg base L2.CX0 40 fa fd ["script"] sp) : PySem.Challenge.rw_bridgecrews_k61_texts_refused.Holds := by
  w_on; o_law
  refine HandSHeadRun.head_any (r := OpenLaw.row PySem.Challenge.rw_bridgecrews_k61_texts_refused) (q := view (OpenLaw.row PySem.Challenge.rw_bridgecrews_k61_texts_refused).prog [114]) (H := Hd.hk) (ob := Hd.ob) (M := 9000) (loose := Hd.nms) (d := HandSHeadRun.topDef (OpenLaw.row PySem.Challenge.rw_bridgecrews_k61_texts_refused).prog 114) (kwd := []) Hd.ob_eq
    (by kernel_rfl) (fun s => by kernel_rfl) Hd.run (by kernel_rfl) (by kernel_rfl) (by kernel_rfl) (by rfl) (by first | assumption | decide +kernel) (by decide +kernel) ⟨rfl, rfl, rfl, rfl, rfl, by decide +kernel⟩ ?hw ?hc
  case hw => w_witness2
  case hc =>
    refine L2.walk_ofE (l := PySem.Challenge.rw_bridgecrews_k61_texts_refused) (n := 63) (k := 40) (x := "script") (CX := L2.CX0) rfl (by decide) (by kernel_rfl) ⟨rfl, by decide, by decide⟩ ?F (fun _ _ _ _ z => z)
    intro w mg fa h Y G hmg0
    obtain ⟨K, KX, c⟩ := Y
    have hmg : mg ("law" : PySem.Str) = some (.ref fa) := by
      have e : (HandSHeadRun.topDef (OpenLaw.row PySem.Challenge.rw_bridgecrews_k61_texts_refused).prog 114).name = ("law" : PySem.Str) := by kernel_rfl
      rw [← e]
      exact hmg0
    obtain ⟨fd, sp, hb, hs, hF⟩ := F w mg fa h K KX G c hmg
    exact ⟨K, fd, sp, KX, hb, fun H a ns hl _ hS => hs H a ns hl hS, hF⟩
end
namespace Br
open PySem PySem.Spec L2 PyProof.Rows
variable [tgi : Tbs]
section
variable {X : Cx}
def rSortedZ (K : PySem.W.Frag) : List V → Hp → VK → Prop := fun vs H Q => ∃ (a : Addr) (xs : List V) (ds : List PyData), vs = [V.ref a] ∧ SqL K H a xs ∧ DpAll K H xs ds ∧ PySem.W.AllAlike ds ∧ PySem.W.Sortable ds ∧ (∀ d ∈ ds, d.depth ≤ 50) ∧
  ∀ p, H p = none → Q (.ref p) (upd H p (.lst (((xs.zip ds).mergeSort (PySem.W.dataLe false Prod.snd)).map (·.1))))
theorem dpAll_len {K : PySem.W.Frag} {H : Hp} {xs : List V} {ds : List PyData} (h : DpAll K H xs ds) : xs.length = ds.length := by
  induction xs generalizing ds with
  | nil => cases h; rfl
  | cons x xs ih => cases h with | cons _ r => simp [ih r]
theorem zip_snd : ∀ {xs : List V} {ds : List PyData}, xs.length = ds.length → (xs.zip ds).map (·.2) = ds
  | [], [], _ => rfl
  | x :: xs, d :: ds, h => by simp [zip_snd (xs := xs) (ds := ds) (by simpa using h)]
theorem each_zip {pins : List (Addr × Obj)} {σ : L2.St} {H : Hp} {s : Shared} (I : Inv X pins σ H s) : ∀ {xs : List V} {ds : List PyData} {its : List Value}, DpAll X.K H xs ds → Vals xs its → PySem.W.EachIs (fun (u : Value) (q : V × PyData) => RelV q.1 u ∧ Dp X.K H q.1 q.2) its (xs.zip ds)
  | [], _, [], h, .nil => by cases h; exact .nil
  | x :: xs, _, _ :: _, h, .cons r rr => by
    cases h with
    | cons h1 h2 => exact .cons ⟨r, h1⟩ (each_zip I h2 rr)
theorem vals_each {H : Hp} {K : PySem.W.Frag} : ∀ {out : List Value} {qs : List (V × PyData)}, PySem.W.EachIs (fun (u : Value) (q : V × PyData) => RelV q.1 u ∧ Dp K H q.1 q.2) out qs → Vals (qs.map (·.1)) out
  | _, _, .nil => .nil
  | _, _, .cons ⟨r, _⟩ t => .cons r (vals_each t)
theorem call_sortedZ (hu : X.A.units + 64 < cLine) : CallR X (.builtin "sorted") (rSortedZ X.K) := by
  intro pins s σ H vs us Q I r h
  obtain ⟨a, xs, ds, rfl, hs, hd, hal, hk, hdep, q⟩ := h
  obtain ⟨its, rv, hl, hz⟩ := I.list hs
  obtain ⟨u, rfl, ru⟩ := vals1 r
  obtain rfl : u = Value.ref a := ru
  have hlen := dpAll_len hd
  have hzl : (xs.zip ds).length = xs.length := by rw [List.length_zip]; omega
  have e := each_zip I hd rv
  have em : ((xs.zip ds).map Prod.snd) = ds := zip_snd hlen
  refine PySem.W.sorted_data (enc := Prod.snd) (bs := xs.zip ds) (R := fun (u : Value) (q : V × PyData) => RelV q.1 u ∧ Dp X.K H q.1 q.2) hl.isList e (e.mono fun u q ⟨r1, d1⟩ => Dp.reads I q.2 q.1 u d1 r1) (by rw [em]; exact hal) (by rw [em]; exact hk) (by rw [hzl]; exact hz) (fun b hb => ?_) fun out ol eo => ?_
  · have := hdep b.2 (by rw [← em]; exact List.mem_map.mpr ⟨b, hb, rfl⟩)
    omega
  · obtain ⟨n, hn⟩ := sortedAll_at s.heap its (List.toArray out)
    have hlz : (((xs.zip ds).mergeSort (PySem.W.dataLe false Prod.snd)).map (·.1)).length ≤ sizeLine := by rw [List.length_map, List.length_mergeSort, hzl]; exact hz
    exact ⟨.ref (s.heap.objs.size + 1), upd H (s.heap.objs.size + 1) (.lst _), I.laid (t' := s.toks) (fun b o q => sortedAll_old q) (Nat.le_succ _) ⟨hlz, out, n, vals_each eo, hn⟩, rfl, q _ (I.hok.fresh (Nat.le_succ _))⟩
end
class LtO (α : Type) where
  lt : α → α → Bool
instance : LtO Int := ⟨fun a b => decide (a < b)⟩
instance {α β : Type} [DecidableEq α] [LtO α] [LtO β] : LtO (α × β) := ⟨fun p q => if p.1 = q.1 then LtO.lt p.2 q.2 else LtO.lt p.1 q.1⟩
def ltL {α : Type} [DecidableEq α] [LtO α] : List α → List α → Bool
  | [], [] => false
  | [], _ :: _ => true
  | _ :: _, [] => false
  | x :: xs, y :: ys => if x = y then ltL xs ys else LtO.lt x y
instance {α : Type} [DecidableEq α] [LtO α] : LtO (List α) := ⟨ltL⟩
/-- sorted -/
def srtL {α : Type} [LtO α] (xs : List α) : List α := xs.mergeSort fun a b => !LtO.lt b a
inductive DForm where | tup | oth
class OrF (K : PySem.W.Frag) {α : Type} (A : α → Asn) [DecidableEq α] [l : LtO α] [d : DatF K A] : Prop where
  lt : ∀ x y, PySem.W.dataLt (d.dat x) (d.dat y) = LtO.lt x y
  alike : ∀ x y, PySem.W.alike (d.dat x) (d.dat y) = true
  form : (∀ x, ∃ y r, d.dat x = .tuple (y :: r)) ∨ ∀ x, d.dat x ≠ .none ∧ ∀ xs, d.dat x ≠ .tuple xs
section
variable {α β γ : Type} {K : PySem.W.Frag}
instance : OrF K aI := ⟨fun x y => PySem.W.dataLt_int x y, fun x y => by show PySem.W.alike (.int x) (.int y) = true; simp only [PySem.W.alike], .inr fun x => ⟨fun e => (nomatch (show PyData.int x = .none from e)), fun xs e => (nomatch (show PyData.int x = .tuple xs from e))⟩⟩
theorem eqv_dec [DecidableEq α] {A : α → Asn} [d : DatF K A] (x y : α) : PyData.eqv (d.dat x) (d.dat y) = decide (x = y) := d.eq x y
theorem alikeAll_dat [DecidableEq α] [LtO α] {A : α → Asn} [d : DatF K A] [o : OrF K A] : ∀ xs ys : List α, PySem.W.alikeAll (xs.map d.dat) (ys.map d.dat) = true
  | [], _ => by rw [List.map_nil, PySem.W.alikeAll]
  | _ :: _, [] => by rw [List.map_nil, List.map_cons, PySem.W.alikeAll]
  | x :: xs, y :: ys => by
    rw [List.map_cons, List.map_cons, PySem.W.alikeAll, o.alike x y, alikeAll_dat xs ys]
    rfl
theorem lexAll_dat [DecidableEq α] [LtO α] {A : α → Asn} [d : DatF K A] [o : OrF K A] : ∀ xs ys : List α, PyProof.Rows.lexLt itemOrd (PySem.W.keyToksAll (xs.map d.dat)) (PySem.W.keyToksAll (ys.map d.dat)) = ltL xs ys
  | [], [] => lex_irrefl _
  | [], y :: ys => by
    rw [List.map_nil, List.map_cons, PySem.W.toks_all_cons]
    simp only [PySem.W.keyToksAll]
    rw [lex_diff (O := itemOrd) (by simp)]
    rfl
  | x :: xs, [] => by
    rw [List.map_nil, List.map_cons, PySem.W.toks_all_cons]
    simp only [PySem.W.keyToksAll]
    rw [lex_diff (O := itemOrd) (by simp)]
    rfl
  | x :: xs, y :: ys => by
    rw [List.map_cons, List.map_cons, ltL]
    by_cases h : x = y
    · rw [if_pos h, PySem.W.dataLt_all_yes (o.alike x y) (by rw [d.eq, decide_eq_true_eq]; exact h), lexAll_dat xs ys]
    · rw [if_neg h, PySem.W.dataLt_all_no (o.alike x y) (by rw [d.eq, decide_eq_false_iff_not]; exact h)]
      exact o.lt x y
instance instOrL [DecidableEq α] [LtO α] {L : List α → Asn} {A : α → Asn} [l : LsD L A] [d : DatF K A] [o : OrF K A] : OrF K L where
  lt xs ys := (PySem.W.dataLt_list _ _).trans (lexAll_dat xs ys)
  alike xs ys := by show PySem.W.alike (.list _) (.list _) = true; simp only [PySem.W.alike]; exact alikeAll_dat xs ys
  form := .inr fun x => ⟨fun e => (nomatch (show PyData.list _ = .none from e)), fun xs e => (nomatch (show PyData.list _ = .tuple xs from e))⟩
theorem or2_lt [DecidableEq α] [LtO α] [DecidableEq β] [LtO β] {A : α → Asn} {C : β → Asn} [d : DatF K A] [o : OrF K A] [d' : DatF K C] [o' : OrF K C] (p q : α × β) : PySem.W.dataLt (.tuple [d.dat p.1, d'.dat p.2]) (.tuple [d.dat q.1, d'.dat q.2]) = LtO.lt p q := by
  refine (PySem.W.dataLt_tuple _ _).trans ?_
  show _ = if p.1 = q.1 then LtO.lt p.2 q.2 else LtO.lt p.1 q.1
  by_cases h : p.1 = q.1
  · rw [if_pos h, PySem.W.dataLt_all_yes (o.alike p.1 q.1) (by rw [d.eq, decide_eq_true_eq]; exact h)]
    by_cases h2 : p.2 = q.2
    · rw [PySem.W.dataLt_all_yes (o'.alike p.2 q.2) (by rw [d'.eq, decide_eq_true_eq]; exact h2), lex_irrefl, h2]
      exact ((PySem.W.dataLt_self _).symm.trans (o'.lt q.2 q.2))
    · rw [PySem.W.dataLt_all_no (o'.alike p.2 q.2) (by rw [d'.eq, decide_eq_false_iff_not]; exact h2)]
      exact o'.lt p.2 q.2
  · rw [if_neg h, PySem.W.dataLt_all_no (o.alike p.1 q.1) (by rw [d.eq, decide_eq_false_iff_not]; exact h)]
    exact o.lt p.1 q.1
theorem or2_alike [DecidableEq α] [LtO α] [DecidableEq β] [LtO β] {A : α → Asn} {C : β → Asn} [d : DatF K A] [o : OrF K A] [d' : DatF K C] [o' : OrF K C] (p q : α × β) : PySem.W.alike (.tuple [d.dat p.1, d'.dat p.2]) (.tuple [d.dat q.1, d'.dat q.2]) = true := by
  simp only [PySem.W.alike, PySem.W.alikeAll, o.alike, o'.alike, Bool.and_self]
instance [DecidableEq α] [LtO α] [DecidableEq β] [LtO β] {A : α → Asn} {C : β → Asn} [d : DatF K A] [o : OrF K A] [d' : DatF K C] [o' : OrF K C] : OrF K (t2 A C) := ⟨or2_lt, or2_alike, .inl fun _ => ⟨_, _, rfl⟩⟩
instance [DecidableEq α] [LtO α] [DecidableEq β] [LtO β] {A : α → Asn} {C : β → Asn} [d : DatF K A] [o : OrF K A] [d' : DatF K C] [o' : OrF K C] : OrF K (o2 A C) := ⟨or2_lt, or2_alike, .inl fun _ => ⟨_, _, rfl⟩⟩
end
section
variable {α β γ : Type} {X : Cx} {W : WX} {cl : String → Addr} {Γ Γe : Ctx} {e a b c : Expr} {es : List Expr} {pos p : Pos} {ta tb : TE} {k : Nat}
theorem dp_zip {K : PySem.W.Frag} [DecidableEq α] {E : α → Asn} [pf : PerF E] [d : DatF K E] {F H : Hp} : ∀ {xs : List α} {vs : List V}, Sep (xs.map E) vs F emp → ∀ q ∈ vs.zip xs, (E q.2).p q.1 F emp
  | [], _, _, q, m => by simp at m
  | x :: xs, v :: vs, ⟨h1, h2, t, p, r⟩, q, m => by
    obtain ⟨rfl, rfl⟩ := t.of_emp
    rcases List.mem_cons.mp (show q ∈ (v, x) :: vs.zip xs from m) with rfl | m
    · exact p
    · exact dp_zip (K := K) (H := H) r q m
theorem sep_pairs {E : α → Asn} {F : Hp} : ∀ {qs : List (V × α)}, (∀ q ∈ qs, (E q.2).p q.1 F emp) → Sep ((qs.map (·.2)).map E) (qs.map (·.1)) F emp
  | [], _ => rfl
  | q :: qs, h => ⟨emp, emp, .r_emp, h q List.mem_cons_self, sep_pairs fun r m => h r (List.mem_cons_of_mem _ m)⟩
theorem zip_snd' : ∀ {vs : List V} {xs : List α}, vs.length = xs.length → (vs.zip xs).map (·.2) = xs
  | [], [], _ => rfl
  | x :: xs, d :: ds, h => by simp [zip_snd' (vs := xs) (xs := ds) (by simpa using h)]
theorem zip_map_r (f : α → PyData) : ∀ (vs : List V) (xs : List α), (vs.zip xs).map (fun q => (q.1, f q.2)) = vs.zip (xs.map f)
  | [], _ => by simp
  | _ :: _, [] => by simp
  | v :: vs, x :: xs => by simp [zip_map_r f vs xs]
/-- sorted(xs) -/
theorem jn_sort {K0 : PySem.W.Frag} [DecidableEq α] [LtO α] {L : List α → Asn} {E : α → Asn} [rd : RdL K0 L E] [pf : PerF E] [d : DatF K0 E] [o : OrF K0 E] {m : Rs (List α)} (G : Gd X W k) (hm : X.mg "sorted" = none) (h1 : JN X W cl Γ a ta m L) (hl : Nat.ble d.dep 50 = true := by rfl) (hg : Gl X "sorted" := by rfl) (hs : starEach [a] X.env = (false, eval a X.env) :: starEach [] X.env := by rfl) (hpl : (backTo pos (starEach [] X.env)).any (·.1) = false := by rfl) (hK : X.K = K0 := by rfl) :
    JN X W cl Γ (.Call (.Name "sorted" p) [a] [] pos) (tCB (rSortedZ K0) (tCons ta tNil)) (m.b fun d => .ok (srtL d)) (oA E) := by
  subst hK
  exact (JN.args (C := oA E) (jns_one h1 hs) (fun q => pe_callB (call_sortedZ G.room.units) hg hm (by decide +kernel) q (he := hs) (hpl := hpl)) (f := fun d => some (srtL d)) fun xs vs F h H R Q c e u sp k => by
    obtain ⟨v, rfl, p1⟩ := sep1 sp
    obtain ⟨a, ws, h', rfl, sq, lh, sp⟩ := rd.rd _ _ _ _ p1
    obtain ⟨l1, l2⟩ := le_part u
    have eh := sp.empE
    subst eh
    cases e
    have el : ws.length = xs.length := by have := sp.len; rw [List.length_map] at this; exact this.symm
    refine ⟨a, ws, xs.map d.dat, rfl, sq H l1 l2, dpAll_of sp l1 emp_le, ?_, ?_, ?_, fun l hl2 => ?_⟩
    · intro x hx y hy
      obtain ⟨a, _, rfl⟩ := List.mem_map.mp hx
      obtain ⟨b, _, rfl⟩ := List.mem_map.mp hy
      exact o.alike a b
    · rcases o.form with f | f
      · refine .inl fun x hx => ?_
        obtain ⟨a, _, rfl⟩ := List.mem_map.mp hx
        exact f a
      · refine .inr fun x hx => ?_
        obtain ⟨a, _, rfl⟩ := List.mem_map.mp hx
        exact f a
    · intro x hx
      obtain ⟨a, _, rfl⟩ := List.mem_map.mp hx
      exact Nat.le_trans (d.low a) (Nat.ble_eq.mp hl)
    · have e1 : ((ws.zip (xs.map d.dat)).mergeSort (PySem.W.dataLe false Prod.snd)) = ((ws.zip xs).mergeSort fun q r => !LtO.lt r.2 q.2).map fun q => (q.1, d.dat q.2) := by
        rw [← zip_map_r, List.map_mergeSort]
        intro q _ r _
        rw [PySem.W.dataLe_eq]
        show (!LtO.lt r.2 q.2) = !PySem.W.dataLt (d.dat r.2) (d.dat q.2)
        rw [o.lt]
      have e2 : ((ws.zip xs).mergeSort fun q r => !LtO.lt r.2 q.2).map (·.2) = srtL xs := by
        unfold srtL
        rw [List.map_mergeSort (s := fun a b => !LtO.lt b a), zip_snd' el]
        intro q _ r _
        rfl
      rw [e1, List.map_map]
      obtain ⟨F2, l3, _, u2⟩ := u.leak
      have hall : ∀ q ∈ (ws.zip xs).mergeSort fun q r => !LtO.lt r.2 q.2, (E q.2).p q.1 F emp := fun q hq => dp_zip (K := X.K) (H := H) sp q (List.mem_mergeSort.mp hq)
      have sp2 := sep_pairs hall
      rw [e2] at sp2
      exact k _ F2 (one l (.lst _)) _ l3 ((u2.alloc hl2).swap) ⟨l, _, emp, rfl, .r_emp, sp2.mono l3⟩)
end
end Br
namespace Br
open PySem PySem.Spec L2 PyProof.Rows
variable [tgi : Tbs]
section
variable {α β γ δ ι ρ B T S' : Type} {X : Cx} {W : WX} {cl : String → Addr} {Γ Γe : Ctx} {tg e o a b c : Expr} {es : List Expr} {pos p : Pos} {ta tb : TE} {k j : Nat} {S : δ → Asn} {d0 : δ} {i : Nat} {w : Option V} {name : Str} {id : String} {r : V → List V → Hp → VK → Prop} {t : TA}
/-- what a list's method does: f says what it hands back and what the list is then -/
def OpM (r : V → List V → Hp → VK → Prop) (A : α → Asn) (Bs : β → List Asn) (C : γ → Asn) (f : List α → β → Option (γ × List α)) : Prop :=
  ∀ xs y z ad vs ws F h' g R H Q, f xs y = some z → Pt (one ad (.lst vs) :: h' :: g :: F :: R) H → Sep (xs.map A) vs F h' → Sep (Bs y) ws F g →
    (∀ v vs' F2 h2 g2 H2, Le F F2 → Sep (z.2.map A) vs' F2 h2 → (C z.1).p v F2 g2 → Pt (one ad (.lst vs') :: h2 :: g2 :: F2 :: R) H2 → Q v H2) → r (.ref ad) ws H Q
theorem je_lm {K0 : PySem.W.Frag} {A : α → Asn} {Bs : β → List Asn} {C : γ → Asn} (f : List α → β → Option (γ × List α)) {m : Rs ι} {n : Rs β} {get : ι → List α} {put : ι → List α → δ} {apos cpos : Pos} (slot : Slot "list" name id) (hty : typeOf (.builtin id) = pure (.type "method_descriptor")) (mt : MtR X id r) (op : OpM r A Bs C f) (we : Wk Γ Γe) (h : JP X W cl Γ i w S d0 a ta m (oA A) get put) (h2 : JNs X W cl Γ (e :: es) t n Bs)
    (hbase : attributeBase a name X.env (eval a X.env) = eval a X.env := by rfl)
    (hfew : ((backTo cpos (starEach (e :: es) X.env)).all (fun x => !x.1) && (backToKw cpos (keywordEach [] X.env)).all (fun x => x.1.isSome) && decide ((e :: es).length + ([] : List Keyword).length + (if ([] : List Keyword).isEmpty then 0 else 1) < 30)) = true := by rfl)
    (hline : (apos.endLine == cpos.line) = true := by rfl) (hs : starEach (e :: es) X.env = (false, eval e X.env) :: starEach es X.env := by rfl) (hplain : (backTo cpos (starEach es X.env)).any (·.1) = false := by rfl) (hK : X.K = K0 := by rfl) :
    JE X W cl Γ (.Call (.Attribute a name apos) (e :: es) [] cpos) (tBM K0 "list" r ta t) (m.b fun x => n.b fun y => (opt (f (get x) y)).b fun z => .ok (z.1, put x z.2)) (fun d => Γ.set i (some (ow w (S d.2)))) (fun d => C d.1) Γe := by
  subst hK
  have hl := h.hl
  refine ⟨pe_bm PySem.F.plainAttrs_list slot hty mt h.pe h2.pe hbase hfew hline hs hplain, fun σ F O H R Q u s q => ?_⟩
  refine jp_place h u s (q.bind.mono (fun x _ q v v0 h0 O' F1 H1 l1 u1 e0 t0 s1 ln => ?_) fun c q F' H' l' u' => ?_)
  · obtain ⟨ad, vs, h', hc, rfl, sp, el, w1, _⟩ := plc_list hl e0 t0 s1 ln u1
    refine ⟨.inl ⟨rfl, vs, SqL.of w1.at1⟩, ?_⟩
    refine h2.run σ F1 O H1 R _ u1 (s.mono l1) (q.bind.mono (fun y _ q ws F2 g H2 l2 u2 p2 => ?_) fun c q F' H' l' u' => ?_)
    · obtain ⟨z, ez, q⟩ := opt_out q.bind
      obtain ⟨ad2, vs2, h2', hc2, e2, sp2, el2, w2, back⟩ := plc_list hl e0 t0 (s1.mono l2) (ln.mono l2) u2
      cases e2
      have w3 : Pt (one ad (.lst vs2) :: h2' :: g :: F2 :: hc2 :: O' :: R) H2 := w2.perm (by
        refine .cons _ (.cons _ ?_)
        exact (List.perm_append_comm (l₁ := [hc2, O']) (l₂ := [F2, g]) |>.append_right R).trans (.swap _ _ _))
      refine op (get x) y z ad vs2 ws F2 h2' g (hc2 :: O' :: R) H2 Q ez w3 sp2 p2 fun v vs' F3 h3 g3 H3 l3 sp3 pc w4 => ?_
      have w5 : Pt (one ad (.lst vs') :: h3 :: hc2 :: O' :: F3 :: g3 :: R) H3 := w4.perm (by
        refine .cons _ (.cons _ ?_)
        exact (List.Perm.swap _ _ _).trans (List.perm_append_comm (l₁ := [F3, g3]) (l₂ := [hc2, O']) |>.append_right R))
      obtain ⟨O3, w6, s3⟩ := back z.2 vs' F3 h3 (g3 :: R) H3 l3 sp3 w5
      exact q v F3 O3 g3 H3 (l1.tr (l2.tr l3)) w6 s3 pc
    · obtain ⟨F2, O2, l2, u2, s2⟩ := we.slots (s.mono (l1.tr l')) u'
      exact q F2 O2 H' (l1.tr (l'.tr l2)) u2 s2
  · obtain ⟨F2, O2, l2, u2, s2⟩ := we.slots (s.mono l') u'
    exact q F2 O2 H' (l'.tr l2) u2 s2
theorem je_lm0 {K0 : PySem.W.Frag} {A : α → Asn} {C : γ → Asn} (f : List α → Option (γ × List α)) {m : Rs ι} {get : ι → List α} {put : ι → List α → δ} {apos cpos : Pos} (slot : Slot "list" name id) (hty : typeOf (.builtin id) = pure (.type "method_descriptor")) (mt : MtR X id r) (op : OpM r A (fun _ : Unit => []) C (fun xs _ => f xs)) (we : Wk Γ Γe) (h : JP X W cl Γ i w S d0 a ta m (oA A) get put)
    (hbase : attributeBase a name X.env (eval a X.env) = eval a X.env := by rfl) (hline : (apos.endLine == cpos.line) = true := by rfl) (hK : X.K = K0 := by rfl) :
    JE X W cl Γ (.Call (.Attribute a name apos) [] [] cpos) (tBM0 K0 "list" r ta) (m.b fun x => (opt (f (get x))).b fun z => .ok (z.1, put x z.2)) (fun d => Γ.set i (some (ow w (S d.2)))) (fun d => C d.1) Γe := by
  subst hK
  have hl := h.hl
  refine ⟨pe_bm0 PySem.F.plainAttrs_list slot hty mt h.pe hbase hline, fun σ F O H R Q u s q => ?_⟩
  refine jp_place h u s (q.bind.mono (fun x _ q v v0 h0 O' F1 H1 l1 u1 e0 t0 s1 ln => ?_) fun c q F' H' l' u' => ?_)
  · obtain ⟨ad, vs, h', hc, rfl, sp, el, w1, back⟩ := plc_list hl e0 t0 s1 ln u1
    refine ⟨.inl ⟨rfl, vs, SqL.of w1.at1⟩, ?_⟩
    obtain ⟨z, ez, q⟩ := opt_out q.bind
    have w3 : Pt (one ad (.lst vs) :: h' :: emp :: F1 :: hc :: O' :: R) H1 := (w1.perm (l' := one ad (.lst vs) :: h' :: F1 :: hc :: O' :: R) (by
      refine .cons _ (.cons _ ?_)
      exact List.perm_append_comm (l₁ := [hc, O']) (l₂ := [F1]) |>.append_right R)).addE.perm (by
        exact List.perm_append_comm (l₁ := [emp]) (l₂ := [one ad (.lst vs), h']) |>.append_right _)
    refine op (get x) () z ad vs [] F1 h' emp (hc :: O' :: R) H1 Q ez w3 sp rfl fun v vs' F3 h3 g3 H3 l3 sp3 pc w4 => ?_
    have w5 : Pt (one ad (.lst vs') :: h3 :: hc :: O' :: F3 :: g3 :: R) H3 := w4.perm (by
      refine .cons _ (.cons _ ?_)
      exact (List.Perm.swap _ _ _).trans (List.perm_append_comm (l₁ := [F3, g3]) (l₂ := [hc, O']) |>.append_right R))
    obtain ⟨O3, w6, s3⟩ := back z.2 vs' F3 h3 (g3 :: R) H3 l3 sp3 w5
    exact q v F3 O3 g3 H3 (l1.tr l3) w6 s3 pc
  · obtain ⟨F2, O2, l2, u2, s2⟩ := we.slots (s.mono l') u'
    exact q F2 O2 H' (l'.tr l2) u2 s2
def popO (xs : List α) : Option (α × List α) := match xs.getLast? with
  | some y => some (y, xs.dropLast)
  | none => none
def popAtO (xs : List α) (k : Int) : Option (α × List α) := if xs.length ≤ 1000000 then (match ixN xs.length k with
  | some n => (match xs[n]? with
    | some y => some (y, xs.eraseIdx n)
    | none => none)
  | none => none) else none
theorem ptP {ad : Addr} {vs vs' : List V} {h g F : Hp} {R : List Hp} {H : Hp} (w : Pt (one ad (.lst vs) :: h :: g :: F :: R) H) : Pt (one ad (.lst vs') :: h :: g :: F :: R) (upd H ad (.lst vs')) := w.write
theorem Sep.sub {E : α → Asn} [pf : PerF E] {F : Hp} {xs : List α} {vs : List V} (sp : Sep (xs.map E) vs F emp) (ys : List α) (ws : List V) (hl : ys.length = ws.length) (f : Nat → Nat) (hy : ∀ (n : Nat) (y : α), ys[n]? = some y → xs[f n]? = some y) (hw : ∀ (n : Nat) (v : V), vs[f n]? = some v → n < ws.length → ws[n]? = some v) : Sep (ys.map E) ws F emp := by
  refine Sep.perE (fun i A e => ?_) (by rw [List.length_map]; exact hl)
  rw [List.getElem?_map] at e
  cases q : ys[i]? with
  | none => rw [q] at e; cases e
  | some y =>
    rw [q] at e
    cases e
    obtain ⟨v, e1, p1⟩ := sp.getE (i := f i) (A := E y) (by rw [List.getElem?_map, hy i y q]; rfl)
    exact ⟨v, hw i v e1 (by rw [← hl]; exact (List.getElem?_eq_some_iff.mp q).1), p1⟩
theorem op_popAt {A : α → Asn} [pf : PerF A] : OpM rPopAt A (fun k : Int => [aI k]) A popAtO := by
  intro xs y z ad vs ws F h' g R H Q e w sp sg kk
  have eh := sp.empE
  subst eh
  obtain ⟨v0, rfl, rfl, rfl⟩ := sep1 sg
  have el : xs.length = vs.length := by have := sp.len; rwa [List.length_map] at this
  unfold popAtO at e
  by_cases hbg : xs.length ≤ 1000000
  case neg => rw [if_neg hbg] at e; cases e
  rw [if_pos hbg] at e
  cases q : ixN xs.length y with
  | none => rw [q] at e; cases e
  | some n =>
    rw [q] at e
    replace e : (match xs[n]? with | some y => some (y, xs.eraseIdx n) | none => none) = some z := e
    cases q2 : xs[n]? with
    | none => rw [q2] at e; cases e
    | some x =>
      rw [q2] at e; cases e
      obtain ⟨v, ev, pv⟩ := sp.getE (i := n) (A := A x) (by rw [List.getElem?_map, q2]; rfl)
      rw [el] at q
      obtain ⟨s1, s2, s3, s4⟩ := ixN_seq q
      refine ⟨ad, vs, y, n, v, rfl, rfl, w.at1, by omega, by omega, s1, ev, ?_⟩
      refine kk v (vs.eraseIdx n) F emp emp _ .rfl ?_ pv (ptP w)
      refine Sep.sub sp _ _ (by simp [List.length_eraseIdx, el]) (fun m => if m < n then m else m + 1) (fun m y hy => ?_) (fun m v hv hm => ?_)
      · rw [List.getElem?_eraseIdx] at hy
        by_cases hm : m < n
        · rw [if_pos hm] at hy ⊢; exact hy
        · rw [if_neg hm] at hy ⊢; exact hy
      · rw [List.getElem?_eraseIdx]
        by_cases hm : m < n
        · rw [if_pos hm] at hv ⊢; exact hv
        · rw [if_neg hm] at hv ⊢; exact hv
theorem op_pop {A : α → Asn} [pf : PerF A] : OpM rPop A (fun _ : Unit => []) A (fun xs _ => popO xs) := by
  intro xs y z ad vs ws F h' g R H Q e w sp sg kk
  have eh := sp.empE
  subst eh
  have eg : ws = [] ∧ g = emp := by
    cases ws with
    | nil => exact ⟨rfl, sg⟩
    | cons _ _ => exact sg.elim
  obtain ⟨rfl, rfl⟩ := eg
  have el : xs.length = vs.length := by have := sp.len; rwa [List.length_map] at this
  replace e : popO xs = some z := e
  unfold popO at e
  cases q2 : xs.getLast? with
  | none => rw [q2] at e; cases e
  | some x =>
    rw [q2] at e; cases e
    rw [List.getLast?_eq_getElem?] at q2
    obtain ⟨v, ev, pv⟩ := sp.getE (i := xs.length - 1) (A := A x) (by rw [List.getElem?_map, q2]; rfl)
    rw [el] at ev
    refine ⟨ad, vs, v, rfl, rfl, w.at1, ev, ?_⟩
    refine kk v vs.dropLast F emp emp _ .rfl ?_ pv (ptP w)
    refine Sep.sub sp _ _ (by simp [el]) (fun m => m) (fun m y hy => ?_) (fun m v hv hm => ?_)
    · rw [List.getElem?_dropLast] at hy
      split at hy
      · exact hy
      · cases hy
    · rw [List.getElem?_dropLast]
      rw [List.length_dropLast] at hm
      rw [if_pos hm]; exact hv
def remO (xs : List Int) (k : Int) : Option (Unit × List Int) := if k ∈ xs then some ((), xs.erase k) else none
theorem erase_idx : ∀ (xs : List Int) (k : Int), k ∈ xs → ∃ j : Nat, xs[j]? = some k ∧ (∀ m : Nat, m < j → xs[m]? ≠ some k) ∧ xs.erase k = xs.eraseIdx j
  | x :: xs, k, h => by
    by_cases e : x = k
    · subst e
      exact ⟨0, rfl, fun m hm => absurd hm (Nat.not_lt_zero _), by simp⟩
    · obtain ⟨j, h1, h2, h3⟩ := erase_idx xs k (by rcases List.mem_cons.mp h with z | z; exact absurd z.symm e; exact z)
      refine ⟨j + 1, by simpa using h1, fun m hm => ?_, ?_⟩
      · cases m with
        | zero => simp [e]
        | succ m => simpa using h2 m (by omega)
      · rw [List.erase_cons, if_neg (by simpa using e), h3]; rfl
theorem op_rem : OpM rRemI aI (fun k : Int => [aI k]) aU remO := by
  intro xs y z ad vs ws F h' g R H Q e w sp sg kk
  have eh := sp.empE
  subst eh
  obtain ⟨v0, rfl, rfl, rfl⟩ := sep1 sg
  unfold remO at e
  by_cases hk : y ∈ xs
  case neg => rw [if_neg hk] at e; cases e
  rw [if_pos hk] at e; cases e
  obtain ⟨j, h1, h2, h3⟩ := erase_idx xs y hk
  have ev := sep_ints sp
  subst ev
  refine ⟨ad, xs, y, j, rfl, rfl, w.at1, h1, h2, ?_⟩
  refine kk .non _ F emp emp _ .rfl ?_ ⟨rfl, rfl⟩ (ptP w)
  rw [h3]
  exact sep_intsI
def extO (xs ys : List α) : Option (Unit × List α) := if xs.length + ys.length ≤ 1000000 then some ((), xs ++ ys) else none
theorem op_ext {A : α → Asn} [pf : PerF A] {L : List α → Asn} [rd : StL L A] : OpM rExtend A (fun ys : List α => [L ys]) aU extO := by
  intro xs y z ad vs ws F h' g R H Q e w sp sg kk
  have eh := sp.empE
  subst eh
  obtain ⟨v0, rfl, p0⟩ := sep1 sg
  obtain ⟨b, zs, g', rfl, hb, lg, sp2⟩ := rd.st _ _ _ _ p0
  have eg := sp2.empE
  subst eg
  unfold extO at e
  by_cases hz : xs.length + y.length ≤ 1000000
  case neg => rw [if_neg hz] at e; cases e
  rw [if_pos hz] at e; cases e
  have el : xs.length = vs.length := by have := sp.len; rwa [List.length_map] at this
  have el2 : y.length = zs.length := by have := sp2.len; rwa [List.length_map] at this
  refine ⟨ad, b, vs, zs, rfl, rfl, w.at1, hb H (w.le (by simp)) (w.le (by simp)), Nat.le_trans (by omega) (Nat.le_of_lt line6), ?_⟩
  obtain ⟨F2, l1, l2, w2⟩ : ∃ F2, Le F F2 ∧ Le g F2 ∧ Pt (one ad (.lst (vs ++ zs)) :: emp :: emp :: F2 :: R) (upd H ad (.lst (vs ++ zs))) := by
    have w1 : Pt (F :: g :: one ad (.lst (vs ++ zs)) :: emp :: R) (upd H ad (.lst (vs ++ zs))) := (ptP (vs' := vs ++ zs) w).perm (by
      exact (List.perm_append_comm (l₁ := [one ad (.lst (vs ++ zs)), emp]) (l₂ := [g, F]) |>.append_right R).trans (.swap _ _ _))
    obtain ⟨F2, l1, l2, w2⟩ := w1.leak
    refine ⟨F2, l1, l2, (w2.perm (l' := one ad (.lst (vs ++ zs)) :: emp :: F2 :: R) (List.perm_append_comm (l₁ := [F2]) (l₂ := [one ad (.lst (vs ++ zs)), emp]) |>.append_right R)).addE.perm (by exact .swap _ _ _)⟩
  exact kk .non _ F2 emp emp _ l1 (by rw [List.map_append]; exact Sep.append (sp.mono l1) (sp2.mono l1) .r_emp) ⟨rfl, rfl⟩ w2
/-- xs.index(y) -/
def ixOfO [DecidableEq α] (xs : List α) (y : α) : Option Int := if y ∈ xs then some ((xs.idxOf y : Nat) : Int) else none
theorem jn_index {K0 : PySem.W.Frag} [DecidableEq α] {A : α → Asn} [f : FlF A] {L : List α → Asn} [rd : RdL K0 L A] {m : Rs (List α)} {n : Rs α} {apos cpos : Pos} (h1 : JN X W cl Γ a ta m L) (h2 : JN X W cl Γ e tb n A)
    (hbase : attributeBase a "index" X.env (eval a X.env) = eval a X.env := by rfl)
    (hfew : ((backTo cpos (starEach [e] X.env)).all (fun x => !x.1) && (backToKw cpos (keywordEach [] X.env)).all (fun x => x.1.isSome) && decide ([e].length + ([] : List Keyword).length + (if ([] : List Keyword).isEmpty then 0 else 1) < 30)) = true := by rfl)
    (hline : (apos.endLine == cpos.line) = true := by rfl) (hs : starEach [e] X.env = (false, eval e X.env) :: starEach [] X.env := by rfl) (hplain : (backTo cpos (starEach [] X.env)).any (·.1) = false := by rfl) (hK : X.K = K0 := by rfl) :
    JN X W cl Γ (.Call (.Attribute a "index" apos) [e] [] cpos) (tBM K0 "list" (rIndex K0) ta (tCons tb tNil)) (m.b fun x => n.b fun y => opt (ixOfO x y)) aI := by
  subst hK
  obtain ⟨p1, k1⟩ := h1
  obtain ⟨p2, k2⟩ := jns_one h2 hs
  refine ⟨pe_bm PySem.F.plainAttrs_list PySem.F.slot_list_index PySem.F.type_list_index mt_index p1 p2 hbase hfew hline hs hplain, fun σ F O H R Q u s q => k1 σ F O H R _ u s (q.bind.mono (fun xs _ q v F1 h1 H1 l1 u1 q1 => ?_) fun c q => q)⟩
  obtain ⟨a, vs, h', rfl, sq, lh, sp⟩ := rd.rd _ _ _ _ q1
  obtain ⟨F2, l2, l3, u2⟩ := pt_leak3 u1
  have hq : ∀ H, Le F2 H → SqL X.K H a vs := fun H l => sq H (l2.tr l) (l3.tr l)
  refine ⟨.inl ⟨rfl, vs, hq H1 (u2.le (by simp))⟩, ?_⟩
  refine k2 σ F2 O H1 R _ u2 (s.mono (l1.tr l2)) (q.bind.mono (fun y _ q ws F3 h3 H3 l4 u3 q2 => ?_) fun c q F' H' l' u' => q F' H' (l1.tr (l2.tr l')) u')
  obtain ⟨w, rfl, pw⟩ := sep1 q2
  obtain ⟨rfl, rfl⟩ := f.is _ _ _ _ pw
  obtain ⟨ev, eh⟩ := sep_fl sp
  subst ev
  obtain ⟨c, ec, q⟩ := opt_out q
  unfold ixOfO at ec
  by_cases hy : y ∈ xs
  case neg => rw [if_neg hy] at ec; cases ec
  rw [if_pos hy] at ec; cases ec
  have hlt : xs.idxOf y < xs.length := List.idxOf_lt_length_iff.mpr hy
  have hat : xs[xs.idxOf y]? = some y := by
    rw [List.getElem?_eq_getElem hlt]; simp
  refine ⟨a, _, f.val y, xs.idxOf y, f.val y, rfl, rfl, hq H3 (l4.tr (u3.le (by simp))), f.fl y, all_fl xs, by rw [List.getElem?_map, hat]; rfl, by rw [f.eq]; simp, fun m z' hm hz => ?_, ?_⟩
  · rw [List.getElem?_map] at hz
    cases q5 : xs[m]? with
    | none => rw [q5] at hz; cases hz
    | some x =>
      rw [q5] at hz; cases hz
      rw [f.eq, decide_eq_false]
      intro e
      subst e
      have := List.not_of_lt_findIdx (p := (· == x)) (xs := xs) (i := m) hm
      rw [List.getElem?_eq_some_iff] at q5
      obtain ⟨hm2, q5⟩ := q5
      simp [q5] at this
  · exact q _ F3 emp H3 (l1.tr (l2.tr l4)) u3 ⟨rfl, rfl⟩
end
end Br
namespace Br
/-- more turns than any loop here takes -/
def fuel : Nat := 1000000
theorem fuel_eq : fuel = 1000000 := Eq.trans rfl rfl
open PySem PySem.Spec L2 PyProof.Rows
variable [tgi : Tbs]
section
variable {α β γ δ ι ρ B T S' : Type} {X : Cx} {W : WX} {cl : String → Addr} {Γ Γe : Ctx} {tg e o a b c : Expr} {es : List Expr} {pos p : Pos} {ta tb : TE} {k j : Nat}
/-- x += e, x -= e -/
theorem jl_aug (i : Nat) {x : Str} {y0 : Int} {f : Int → Int → Int} {op : Operator} {m : Rs Int} {px : Pos} (G : Gd X W k) (hop : PIp X op (ipI f)) (h : JN X W cl Γ e ta m aI) (we : Wk Γ Γe) (hl : Γ[i]? = some (some (aI y0)) := by rfl) (hN : X.N[i]? = some x := by rfl) (hx : Loc X.env.scope x := by first | exact Or.inl rfl | exact Or.inr rfl)
    (hf : X.fn x = true ∨ X.env.scope.names.lookup x = some .local := by first | exact .inl rfl | exact .inr rfl) :
    JL X W cl Γ (.AugAssign (.Name x px) op e pos) (tAug i ta (ipI f)) (m.b fun y => .ok (f y0 y)) (fun z => Γ.set i (some (aI z))) Γe := by
  obtain ⟨pp, kk⟩ := h
  refine ⟨ps_aug G.nd hN hx pp hop hf, fun σ F O H R D u s q => ?_⟩
  obtain ⟨v, ev, pv⟩ := s.per hl aV_per
  refine ⟨v, ev, kk σ F O H R _ u s (q.bind.mono (fun y _ q w F1 h1 H1 l1 u1 p1 => ?_) fun c q F' H' l' u' => ?_)⟩
  · obtain ⟨rfl, _⟩ := pv
    obtain ⟨rfl, rfl⟩ := p1
    refine ⟨y0, y, rfl, rfl, ?_⟩
    obtain ⟨F2, O2, l2, u2, s2⟩ := put_at (A := aI (f y0 y)) (v := .int (f y0 y)) (s.mono l1) (List.getElem?_eq_some_iff.mp hl).1 ⟨rfl, rfl⟩ u1
    exact q _ F2 O2 H1 (l1.tr l2) u2 s2
  · obtain ⟨F2, O2, l2, u2, s2⟩ := we.slots (s.mono l') u'
    exact q σ F2 O2 H' (l'.tr l2) u2 s2
/-- for x in a pair -/
theorem ji_pair {K0 : PySem.W.Frag} {A : α → Asn} [pf : PerF A] {Tp : α × α → Asn} [rd : RdT Tp (fun z => [A z.1, A z.2])] {m : Rs (α × α)} (h1 : JN X W cl Γ a ta m Tp) (hK : X.K = K0 := by rfl) : JI X W cl Γ tg a (iTup K0 ta) (m.b fun x => .ok [x.1, x.2]) A := by
  subst hK
  obtain ⟨pa, ka⟩ := h1
  refine ⟨pi_tup pa, fun σ F O H R Q u s q => ka σ F O H R _ u s (q.bind.mono (fun xs _ q v F1 h1 H1 l1 u1 p1 => ?_) fun c q => q)⟩
  obtain ⟨a, vs, h', rfl, sq, lh, sp⟩ := rd.rd _ _ _ _ p1
  obtain ⟨F2, l2, l3, u2⟩ := pt_leak3 u1
  have hq : ∀ H, Le F2 H → SqT X.K H a vs := fun H l => SqT.of (sq H (l2.tr l) (l3.tr l))
  have sp : Sep ([xs.1, xs.2].map A) vs F1 h' := sp
  have el : [xs.1, xs.2].length = vs.length := by have := sp.len; rwa [List.length_map] at this
  refine ⟨a, rfl, ⟨vs, hq H1 (u2.le (by simp))⟩, q (Itt X.K a) F2 H1 (l1.tr l2) u2 (fun i F3 H3 O3 R3 x l4 u4 ex => ?_) (fun F3 H3 l l4 u4 => ⟨vs, hq H3 (l4.tr (u4.le (by simp))), by omega⟩)⟩
  obtain ⟨v, g1, g2, ev, t, pv⟩ := sp.get (map_at (E := A) ex)
  have eg := pf.per _ _ _ _ pv
  subst eg
  have hq3 := hq H3 (l4.tr (u4.le (by simp)))
  refine ⟨⟨vs, v, hq3, ev⟩, fun w H4 ⟨e4, y⟩ => ?_⟩
  subst e4
  have ew : vs[i]? = some w := y vs hq3
  rw [ev] at ew; cases ew
  exact ⟨F3, emp, .rfl, pt_addE u4, (A x).mono (l2.tr l4) pv⟩
/-- those of xs, each once, as they are met first -/
def fmL (xs : List Int) : List Int := PyProof.Rows.firstMet (fun i => xs.getD i 0) xs.length
theorem fmL_nodup {xs : List Int} (h : xs.Nodup) : fmL xs = xs := by
  unfold fmL
  rw [RZ.firstMet_nodup h _ (Nat.le_refl _), List.take_length]
/-- len(set(xs)) -/
def ndO (xs : List Int) : Option Int := if xs.length ≤ 4000 then some ((fmL xs).length : Int) else none
theorem ndO_nd {xs : List Int} (h : xs.Nodup) (hl : xs.length ≤ 4000) : ndO xs = some (xs.length : Int) := by
  unfold ndO
  rw [if_pos hl, fmL_nodup h]
def tSetLen (K : PySem.W.Frag) (t : TE) : TE := fun σ H Q => t σ H fun v H' => ∃ (b : Addr) (zs : List Int), v = .ref b ∧ SqL K H' b (zs.map V.int) ∧ zs.length ≤ 4000 ∧ Q (.int ((fmL zs).length : Nat)) H'
open PyProof.Rows in
theorem pe_setLen {X : Cx} {c : Expr} {t : TE} {q1 q2 q3 q4 : Pos} (g1 : Gl X "len") (n1 : X.mg "len" = none) (g2 : Gl X "set") (n2 : X.mg "set" = none) (hc : PE X c t) (calm : X.calm = true)
    (st : starEach [c] X.env = (false, eval c X.env) :: starEach [] X.env) : PE X (.Call (.Name "len" q1) [.Call (.Name "set" q2) [c] [] q3] [] q4) (tSetLen X.K t) := by
  refine ⟨fun pins s0 σ0 H0 Q0 J hh => PyProof.Rows.Call_ (ld_blt J g1 n1 boot_len (PyProof.Rows.callWith_builtin1 (PyProof.Rows.args_cons ?_ rfl) rfl rfl))⟩
  refine PyProof.Rows.Call_ (ld_blt J g2 n2 PyProof.Rows.boot_set (PyProof.Rows.callWith_type1 (PyProof.Rows.args_cons (thn (hc.run pins s0 σ0 H0 _ J hh) fun u s1 hu => PyProof.Rows.args_nil ?_) st) st rfl))
  obtain ⟨y, H1, J1, ry, b, zs, rfl, sz, lz, fin⟩ := hu
  cases ry
  obtain ⟨es, re, pe, _⟩ := J1.list sz
  have le : es.toArray.size = zs.length := by rw [List.size_toArray, ← re.length, List.length_map]
  refine call_set_list (J1.ok.hd calm) pe.isList (by simpa using RZ.intsAre_vals re) (by rw [le]; unfold PySem.scanBound; omega) fun g tk So kp => PyProof.Rows.args_nil ?_
  rw [le] at So
  have fle := PyProof.Rows.firstMet_length_le (fun i => zs.getD i 0) zs.length
  obtain ⟨o, e1, e2, t1, ho, hx, hd, _, _, _, hf, hn⟩ := So
  have J2 : Inv X pins σ0 H1 { s1 with heap := g, toks := tk } := J1.kept fun x o' e => kp x o' (Heap.lt_size e) e
  refine call_len_set ho hx hd hf (by rw [hn] <;> omega) ⟨.int (fmL zs).length, H1, J2.tok _, ⟨_, by rw [hn]; rfl⟩, fin⟩
theorem jn_lenset {K0 : PySem.W.Frag} {L : List Int → Asn} [rd : RdL K0 L aI] {m : Rs (List Int)} {p2 q2} (G : Gd X W k) (hm : X.mg "len" = none) (hm2 : X.mg "set" = none) (h1 : JN X W cl Γ a ta m L) (hg : Gl X "len" := by rfl) (hg2 : Gl X "set" := by rfl) (na : starEach [a] X.env = (false, eval a X.env) :: starEach [] X.env := by rfl) (hK : X.K = K0 := by rfl) :
    JN X W cl Γ (.Call (.Name "len" p) [.Call (.Name "set" p2) [a] [] q2] [] pos) (tSetLen K0 ta) (m.b fun x => opt (ndO x)) aI := by
  subst hK
  obtain ⟨pa, ka⟩ := h1
  refine ⟨pe_setLen hg hm hg2 hm2 pa G.calm na, fun σ F O H R Q u s q => ka σ F O H R _ u s (q.bind.mono (fun xs _ q v F1 h1 H1 l1 u1 p1 => ?_) fun c q => q)⟩
  obtain ⟨c, ec, q⟩ := opt_out q
  unfold ndO at ec
  by_cases hn : xs.length ≤ 4000
  case neg => rw [if_neg hn] at ec; cases ec
  rw [if_pos hn] at ec; cases ec
  obtain ⟨a, ws, h', rfl, sq, lh, sp⟩ := rd.rd _ _ _ _ p1
  have eh := sp.empE
  subst eh
  have ew := sep_ints sp
  subst ew
  refine ⟨a, xs, rfl, sq H1 (u1.le (by simp)) (u1.le (by simp)), hn, ?_⟩
  obtain ⟨F2, l2, _, u2⟩ := pt_leak3 u1
  exact q _ F2 emp H1 (l1.tr l2) (pt_addE u2) ⟨rfl, rfl⟩
def voI : Option Int → V
  | none => .non
  | some i => .int i
def voB : Option Bool → V
  | none => .non
  | some i => .bl i
def voS : Option Str → V
  | none => .non
  | some i => .str i
instance : ScF (aO aI) := ⟨voI, fun x v F h q => by cases x <;> exact q, fun x y => by cases x <;> cases y <;> rfl, fun x y => by
  cases x <;> cases y <;> simp [voI]⟩
instance : ScF (aO aB) := ⟨voB, fun x v F h q => by cases x <;> exact q, fun x y => by cases x <;> cases y <;> rfl, fun x y => by
  cases x <;> cases y <;> simp [voB]⟩
instance : ScF (aO aS) := ⟨voS, fun x v F h q => by cases x <;> exact q, fun x y => by cases x <;> cases y <;> rfl, fun x y => by
  cases x <;> cases y <;> simp [voS]⟩
/-- isinstance of what may be None -/
theorem jn_isiO {K0 : PySem.W.Frag} {T : Str} {n ty : String} {r r0 : Bool} {A : α → Asn} [tf : TyF K0 A ty] {m : Rs (Option α)} {p2} (hm : X.mg "isinstance" = none) (h : JN X W cl Γ e ta m (aO A)) (hmT : X.mg T = none) (hb : bootBuiltins T = some (.type n)) (hk : kitB ty n = some r) (hk0 : kitB "NoneType" n = some r0) (hg : Gl X "isinstance" := by rfl) (hgT : Gl X T := by rfl) (hn : T ≠ "__name__" := by decide) (hd : (T == ("__debug__" : Str)) = false := by decide)
    (hs : starEach [e, .Name T p2] X.env = (false, eval e X.env) :: starEach [.Name T p2] X.env := by rfl) (hs2 : starEach [.Name T p2] X.env = (false, eval (.Name T p2) X.env) :: starEach [] X.env := by rfl) (hpl : (backTo pos (starEach [.Name T p2] X.env)).any (·.1) = false := by rfl) (hK : X.K = K0 := by rfl) :
    JN X W cl Γ (.Call (.Name "isinstance" p) [e, .Name T p2] [] pos) (tCB (rIsi K0) (tCons ta (tCons (tC (.ty n)) tNil))) (m.b fun x => .ok (bif x.isSome then r else r0)) aB := by
  subst hK
  have h2 : JN X W cl Γ (.Name T p2) (tC (.ty n)) (.ok ()) (fun _ => aV (.ty n)) := jn_c (pe_bltn hgT hmT hb rfl hn hd) fun F => ⟨rfl, rfl⟩
  have e1 : (m.b fun x => (.ok (bif x.isSome then r else r0) : Rs Bool)) = ((m.b fun x => (Rs.ok ()).b fun y => .ok (x, y)).b fun q => opt (some (bif q.1.isSome then r else r0))) := by cases m <;> rfl
  rw [e1]
  exact JN.args (f := fun q : Option α × Unit => some (bif q.1.isSome then r else r0)) (jns_cons h (jns_one h2 hs2) hs) (fun q => pe_callB call_isi hg hm PyProof.Rows.boot_isinstance q (he := hs) (hpl := hpl)) fun q vs F h H R Q c e u sp k => by
    obtain ⟨v, w, h1, h2, rfl, t, p1, ⟨rfl, e2⟩⟩ := sep2 sp
    obtain ⟨l1, l2⟩ := le_part u
    cases e
    obtain ⟨x, y⟩ := q
    cases x with
    | none =>
      obtain ⟨rfl, e3⟩ := (show v = .non ∧ h1 = emp from p1)
      exact ⟨.non, .ty n, .type "NoneType", .type n, r0, rfl, .ty n, TyX.base .non, kit_ty hk0, kt_val k u fun F' _ _ => ⟨rfl, rfl⟩⟩
    | some x => exact ⟨v, .ty n, .type ty, .type n, r, rfl, .ty n, tf.is x _ _ _ H p1 l1 ((t.le (by simp)).tr l2), kit_ty hk, kt_val k u fun F' _ _ => ⟨rfl, rfl⟩⟩
theorem jn_nin2 {K0 : PySem.W.Frag} [DecidableEq α] {A : α → Asn} [f : FlF A] {Tp : α × α → Asn} [rd : RdT Tp (fun z => [A z.1, A z.2])] {m : Rs α} {n : Rs (α × α)} (h1 : JN X W cl Γ a ta m A) (h2 : JN X W cl Γ b tb n Tp) (hm : behindInMarks .NotIn b = false := by rfl) (hK : X.K = K0 := by rfl) :
    JN X W cl Γ (.Compare a [.NotIn] [b] pos) (tOp (rIn K0 true) ta tb) (m.b fun x => n.b fun z => .ok (!decide (x ∈ [z.1, z.2]))) aB := by
  subst hK
  exact (JN.bin (f := fun x z => some (!decide (x ∈ [z.1, z.2]))) h1 h2 (fun p q => pe_cmpR op_notIn_seq p q hm) (op_in2 (neg := true)))
theorem jt_nin2 {K0 : PySem.W.Frag} [DecidableEq α] {A : α → Asn} [f : FlF A] {Tp : α × α → Asn} [rd : RdT Tp (fun z => [A z.1, A z.2])] {m : Rs α} {n : Rs (α × α)} (h1 : JN X W cl Γ a ta m A) (h2 : JN X W cl Γ b tb n Tp) (hm : behindInMarks .NotIn b = false := by rfl) (hK : X.K = K0 := by rfl) :
    JT X W cl Γ (.Compare a [.NotIn] [b] pos) (tTest (tOp (rIn K0 true) ta tb)) (m.b fun x => n.b fun z => .ok (!decide (x ∈ [z.1, z.2]))) := by
  subst hK
  exact (jt_c (jn_nin2 h1 h2 hm) (pt_cmpR op_notIn_seq h1.pe h2.pe hm))
theorem je_opt {Γ1 : Ctx} {t : TE} {m : Rs α} {A : α → Asn} (h : JE X W cl Γ e t m (fun _ => Γ1) A Γe) : JE X W cl Γ e t (m.b fun x => .ok (some x)) (fun _ => Γ1) (aO A) Γe := by
  obtain ⟨p, k⟩ := h
  exact ⟨p, fun σ F O H R Q u s q => k σ F O H R Q u s (q.bind.mono (fun a _ q v F' O' h H' l u' s' p' => q v F' O' h H' l u' s' p') fun c q => q)⟩
/-- triples as data -/
theorem sep3 {A B D : Asn} {vs : List V} {F h : Hp} (sp : Sep [A, B, D] vs F h) : ∃ v w z h1 h2 h3, vs = [v, w, z] ∧ Pt [h1, h2, h3] h ∧ A.p v F h1 ∧ B.p w F h2 ∧ D.p z F h3 := by
  cases vs with
  | nil => exact sp.elim
  | cons v r =>
    obtain ⟨h1, hr, t, p1, s2⟩ := sp
    obtain ⟨w, z, h2, h3, rfl, t2, p2, p3⟩ := sep2 s2
    exact ⟨v, w, z, h1, h2, h3, rfl, (t.swap).unfold t2 |>.mv 2, p1, p2, p3⟩
theorem dat3 {K : PySem.W.Frag} [DecidableEq α] [DecidableEq β] [DecidableEq γ] {A : α → Asn} {C : β → Asn} {E : γ → Asn} [d : DatF K A] [d' : DatF K C] [d2 : DatF K E] {Tp : α × β × γ → Asn} (rd : RdT Tp (fun x => [A x.1, C x.2.1, E x.2.2])) :
    ∀ x v F h H, (Tp x).p v F h → Le F H → Le h H → Dp K H v (.tuple [d.dat x.1, d'.dat x.2.1, d2.dat x.2.2]) := fun x v F h H p lf lh => by
  obtain ⟨a, vs, h', rfl, sq, l', sp⟩ := rd.rd x v F h p
  obtain ⟨v1, v2, v3, h1, h2, h3, rfl, t, p1, p2, p3⟩ := sep3 sp
  exact .tup (SqT.of (sq H lf lh)) (.cons (d.is _ _ _ _ _ p1 lf ((t.le (by simp)).tr (l'.tr lh))) (.cons (d'.is _ _ _ _ _ p2 lf ((t.le (by simp)).tr (l'.tr lh))) (.cons (d2.is _ _ _ _ _ p3 lf ((t.le (by simp)).tr (l'.tr lh))) .nil)))
theorem dat3_eq {K : PySem.W.Frag} [DecidableEq α] [DecidableEq β] [DecidableEq γ] {A : α → Asn} {C : β → Asn} {E : γ → Asn} [d : DatF K A] [d' : DatF K C] [d2 : DatF K E] (x y : α × β × γ) : PyData.eqv (.tuple [d.dat x.1, d'.dat x.2.1, d2.dat x.2.2]) (.tuple [d.dat y.1, d'.dat y.2.1, d2.dat y.2.2]) = decide (x = y) := by
  rw [PyData.eqv, PyData.eqvAll, PyData.eqvAll, PyData.eqvAll, PyData.eqvAll, d.eq, d'.eq, d2.eq]
  obtain ⟨x1, x2, x3⟩ := x
  obtain ⟨y1, y2, y3⟩ := y
  by_cases h1 : x1 = y1 <;> by_cases h2 : x2 = y2 <;> by_cases h3 : x3 = y3 <;> simp [h1, h2, h3]
instance {K : PySem.W.Frag} [DecidableEq α] [DecidableEq β] [DecidableEq γ] {A : α → Asn} {C : β → Asn} {E : γ → Asn} [d : DatF K A] [d' : DatF K C] [d2 : DatF K E] : DatF K (t3 A C E) :=
  ⟨fun x => .tuple [d.dat x.1, d'.dat x.2.1, d2.dat x.2.2], max d.dep (max d'.dep d2.dep) + 1, dat3 inferInstance, fun x => by simp [PyData.canLay0, PyData.canLayAll0, d.lay, d'.lay, d2.lay], fun x => by have := d.low x.1; have := d'.low x.2.1; have := d2.low x.2.2; simp [PyData.depth, PyData.depthAll]; omega, dat3_eq⟩
instance {K : PySem.W.Frag} [DecidableEq α] [DecidableEq β] [DecidableEq γ] {A : α → Asn} {C : β → Asn} {E : γ → Asn} [d : DatF K A] [d' : DatF K C] [d2 : DatF K E] : DatF K (o3 A C E) :=
  ⟨fun x => .tuple [d.dat x.1, d'.dat x.2.1, d2.dat x.2.2], max d.dep (max d'.dep d2.dep) + 1, dat3 inferInstance, fun x => by simp [PyData.canLay0, PyData.canLayAll0, d.lay, d'.lay, d2.lay], fun x => by have := d.low x.1; have := d'.low x.2.1; have := d2.low x.2.2; simp [PyData.depth, PyData.depthAll]; omega, dat3_eq⟩
end
end Br
namespace Br
open PySem PySem.Spec L2
variable [tgi : Tbs]
/-- the two heaps are one but at a, where the first has a locked dict -/
structure Lk (a : Addr) (F F' : Hp) : Prop where
  at' : ∃ od kvs, F a = some (.frz od (.dK kvs))
  le : ∀ b u, b ≠ a → F b = some u → F' b = some u
def NoZ (A : Asn) : Prop := ∀ v F F' h a, Lk a F F' → A.p v F h → A.p v F' h
class NzF {α : Type} (A : α → Asn) : Prop where
  nz : ∀ x, NoZ (A x)
theorem Lk.get {a b : Addr} {F F' : Hp} {u : HO} (l : Lk a F F') (e : F b = some u) (n : ∀ od kvs, u ≠ .frz od (.dK kvs)) : F' b = some u := by
  obtain ⟨od, kvs, q⟩ := l.at'
  refine l.le b u (fun z => ?_) e
  subst z
  rw [q] at e; cases e
  exact n _ _ rfl
theorem Lk.tab {a : Addr} {F F' : Hp} (l : Lk a F F') {P : Addr} {q : Str} (t : LamX.TabS F P q) : LamX.TabS F' P q := by
  obtain ⟨ps, h1, h2, h3⟩ := t
  refine ⟨ps, l.get h1 (fun _ _ z => nomatch z), h2, fun pos cv hc => ?_⟩
  obtain ⟨c, e1, e2⟩ := h3 pos cv hc
  exact ⟨c, e1, l.get e2 (fun _ _ z => nomatch z)⟩
theorem nz_aV {v : V} : NoZ (aV v) := fun _ _ _ _ _ _ p => p
instance : NzF aI := ⟨fun _ => nz_aV⟩
instance : NzF aB := ⟨fun _ => nz_aV⟩
instance : NzF aS := ⟨fun _ => nz_aV⟩
instance : NzF aU := ⟨fun _ => nz_aV⟩
theorem Sep.nz {a : Addr} {F F' : Hp} (l : Lk a F F') : ∀ {As : List Asn} {vs : List V} {h : Hp}, (∀ A ∈ As, NoZ A) → Sep As vs F h → Sep As vs F' h
  | [], [], _, _, q => q
  | A :: As, v :: vs, _, k, ⟨h1, h2, t, p, r⟩ => ⟨h1, h2, t, k A List.mem_cons_self _ _ _ _ _ l p, Sep.nz l (fun B m => k B (List.mem_cons_of_mem _ m)) r⟩
theorem nz_aL {As : List Asn} (k : ∀ A ∈ As, NoZ A) : NoZ (aL As) := fun _ _ _ _ _ l ⟨e, a, vs, e1, t, r⟩ => ⟨e, a, vs, e1, l.get t (fun _ _ z => nomatch z), r.nz l k⟩
theorem nz_oL {As : List Asn} (k : ∀ A ∈ As, NoZ A) : NoZ (oL As) := fun _ _ _ _ _ l ⟨a, vs, h', e1, t, r⟩ => ⟨a, vs, h', e1, t, r.nz l k⟩
theorem nz_aT {As : List Asn} (k : ∀ A ∈ As, NoZ A) : NoZ (aT As) := fun _ _ _ _ _ l ⟨e, a, vs, e1, t, r⟩ => ⟨e, a, vs, e1, l.get t (fun _ _ z => nomatch z), r.nz l k⟩
theorem nz_oT {As : List Asn} (k : ∀ A ∈ As, NoZ A) : NoZ (oT As) := fun _ _ _ _ _ l ⟨a, vs, e1, t, r⟩ => ⟨a, vs, e1, l.get t (fun _ _ z => nomatch z), r.nz l k⟩
theorem nz_aQ {K : PySem.W.Frag} {As : List Asn} (k : ∀ A ∈ As, NoZ A) : NoZ (aQ K As) := fun _ _ _ _ _ l ⟨e, a, vs, e1, t, r⟩ => ⟨e, a, vs, e1, by
  rcases t with (t | ⟨o, t⟩) | t
  · exact .inl (.inl (l.get t (fun _ _ z => nomatch z)))
  · exact .inl (.inr ⟨o, l.get t (fun _ _ z => nomatch z)⟩)
  · exact .inr t, r.nz l k⟩
section
variable {α β γ δ : Type}
theorem nz_map {A : α → Asn} [p : NzF A] {xs : List α} : ∀ B ∈ xs.map A, NoZ B := fun B m => by
  obtain ⟨x, _, e⟩ := List.mem_map.mp m
  subst e
  exact p.nz x
instance {A : α → Asn} [p : NzF A] : NzF (lA A) := ⟨fun _ => nz_aL nz_map⟩
instance {A : α → Asn} [p : NzF A] : NzF (oA A) := ⟨fun _ => nz_oL nz_map⟩
instance {K : PySem.W.Frag} {A : α → Asn} [p : NzF A] : NzF (sA K A) := ⟨fun _ => nz_aQ nz_map⟩
instance {A : α → Asn} [p : NzF A] : NzF (aO A) := ⟨fun x => match x with | none => nz_aV | some x => p.nz x⟩
variable {A : α → Asn} {B : β → Asn} {C : γ → Asn} {D : δ → Asn}
instance [p : NzF A] [q : NzF B] : NzF (t2 A B) := ⟨fun x => nz_aT (all2 (p.nz _) (q.nz _))⟩
instance [p : NzF A] [q : NzF B] : NzF (o2 A B) := ⟨fun x => nz_oT (all2 (p.nz _) (q.nz _))⟩
instance [p : NzF A] [q : NzF B] [r : NzF C] : NzF (t3 A B C) := ⟨fun x => nz_aT (all3 (p.nz _) (q.nz _) (r.nz _))⟩
instance [p : NzF A] [q : NzF B] [r : NzF C] : NzF (o3 A B C) := ⟨fun x => nz_oT (all3 (p.nz _) (q.nz _) (r.nz _))⟩
instance [p : NzF A] [q : NzF B] [r : NzF C] [s : NzF D] : NzF (t4 A B C D) := ⟨fun x => nz_aT (all4 (p.nz _) (q.nz _) (r.nz _) (s.nz _))⟩
instance [p : NzF A] [q : NzF B] [r : NzF C] [s : NzF D] : NzF (o4 A B C D) := ⟨fun x => nz_oT (all4 (p.nz _) (q.nz _) (r.nz _) (s.nz _))⟩
theorem DKs.nz {a : Addr} {F F' : Hp} (l : Lk a F F') (n : ∀ x, NoZ (A x)) : ∀ {d : List (Int × α)} {kvs : List (Key × V)}, DKs A F d kvs → DKs A F' d kvs
  | [], [], _ => trivial
  | (j, y) :: d, (k', u) :: kvs, ⟨e, p, r⟩ => ⟨e, n y _ _ _ _ _ l p, r.nz l n⟩
instance [n : NzF A] : NzF (oD A) := ⟨fun d v F F' h a l ⟨b, kvs, e, e2, r⟩ => ⟨b, kvs, e, e2, r.nz l n.nz⟩⟩
instance [n : NzF A] : NzF (lD A) := ⟨fun d v F F' h a l ⟨z, b, kvs, e, e2, r⟩ => ⟨z, b, kvs, e, l.get e2 (fun _ _ z => nomatch z), r.nz l n.nz⟩⟩
end
inductive NoZs : Fds → Prop
  | nil : NoZs []
  | cons {f A l} : NoZ A → NoZs l → NoZs ((f, A) :: l)
theorem NoZs.all : ∀ {l : Fds}, NoZs l → ∀ A ∈ asl l, NoZ A
  | _, .nil => fun _ m => nomatch m
  | _, .cons p r => fun B m => by
    rcases List.mem_cons.mp m with e | m
    · subst e; exact p
    · exact r.all B m
theorem nz_oCs {C : Addr} {l : Fds} (k : NoZs l) : NoZ (oCs C l) := fun _ _ _ _ _ l ⟨a, dx, vs, h', e, t, s⟩ => ⟨a, dx, vs, h', e, t, s.nz l k.all⟩
theorem nz_aCs {C : Addr} {l : Fds} (k : NoZs l) : NoZ (aCs C l) := fun _ _ _ _ _ l ⟨z, a, dx, vs, e, t, s⟩ => ⟨z, a, dx, vs, e, l.get t (fun _ _ z => nomatch z), s.nz l k.all⟩
theorem nz_atv {v : V} {A : Asn} (p : NoZ A) : NoZ (atv v A) := fun _ _ _ _ _ l ⟨e, q⟩ => ⟨e, p _ _ _ _ _ l q⟩
/-- slots that say nothing of a locked dict -/
inductive NzC : Ctx → Prop
  | nil : NzC []
  | none {Γ} : NzC Γ → NzC (none :: Γ)
  | cons {A Γ} : NoZ A → NzC Γ → NzC (some A :: Γ)
theorem NzC.slots {a : Addr} {F F' : Hp} (l : Lk a F F') : ∀ {Γ : Ctx} {σ : L2.St} {O : Hp}, NzC Γ → Slots Γ σ F O → Slots Γ σ F' O
  | [], [], _, _, q => ⟨q.1, fun p m => l.tab (q.2 p m)⟩
  | _ :: _, _ :: _, _, .none n, ⟨h, O', t, p, r⟩ => ⟨h, O', t, p, n.slots l r⟩
  | _ :: _, _ :: _, _, .cons k n, ⟨h, O', t, ⟨v, e, p⟩, r⟩ => ⟨h, O', t, ⟨v, e, k _ _ _ _ _ l p⟩, n.slots l r⟩
/-- a locked dict -/
def kD {α : Type} (a : Addr) (E : α → Asn) (d : List (Int × α)) : Asn := ⟨fun v F h => h = emp ∧ ∃ od kvs, v = .ref a ∧ F a = some (.frz od (.dK kvs)) ∧ DKs E F d kvs, by
  intro v F F' h le q
  obtain ⟨z, od, kvs, e, e2, r⟩ := q
  exact ⟨z, od, kvs, e, le _ _ e2, r.mono le⟩, fun q => q.1 ▸ cl_emp⟩
instance {α : Type} {a : Addr} {E : α → Asn} : PerF (kD a E) := ⟨fun _ _ _ _ q => q.1⟩
section
variable {α β γ δ ι ρ B T S' : Type} {X : Cx} {W : WX} {cl : String → Addr} {Γ Γe : Ctx} {tg e a b c : Expr} {es : List Expr} {pos p : Pos} {ta tb : TE} {k : Nat} {i : Nat} {st : Stmt} {RA : RAs T} {Γb : B → Ctx}
/-- the parts ahead of the locked thing, and behind -/
theorem lock_in {F O H : Hp} {R : List Hp} {σ : L2.St} {E : α → Asn} {y : List (Int × α)} (u : Pt (F :: O :: R) H) (s : Slots Γ σ F O) (hl : Γ[i]? = some (some (oD E y))) :
    ∃ d kvs, H d = some (.dK kvs) ∧ ∀ od, ∃ F1 O1, Le F F1 ∧ Pt (F1 :: O1 :: R) (upd H d (.frz od (.dK kvs))) ∧ Slots (Γ.set i (some (kD d E y))) σ F1 O1 ∧ F1 d = some (.frz od (.dK kvs)) ∧ F d = none ∧ Pt [one d (.dK kvs), O1] O := by
  obtain ⟨x, h, O', e', t, ⟨v, rfl, d, kvs, rfl, rfl, r⟩, s'⟩ := s.take hl
  have w : Pt (one d (.dK kvs) :: O' :: F :: R) H := (u.swap).split2 t
  refine ⟨d, kvs, w.at1, fun od => ?_⟩
  have w2 : Pt (one d (.frz od (.dK kvs)) :: O' :: F :: R) (upd H d (.frz od (.dK kvs))) := w.write
  have w3 : Pt (F :: one d (.frz od (.dK kvs)) :: O' :: R) _ := w2.perm (List.perm_append_comm (l₁ := [one d (.frz od (.dK kvs)), O']) (l₂ := [F]) |>.append_right R)
  have hd : F d = none := by
    have := (List.pairwise_cons.mp w3.1).1 _ List.mem_cons_self d
    rcases this with z | z
    · exact z
    · rw [one_same] at z; cases z
  obtain ⟨F1, l1, l2, u2⟩ := w3.leak
  refine ⟨F1, O', l1, u2, ?_, l2 _ _ one_same, hd, t⟩
  have := (s'.mono l1).put' (set_none_at hl) e' (A := kD d E y) ⟨rfl, od, kvs, rfl, l2 _ _ one_same, r.mono l1⟩ Pt.l_emp
  rwa [set_set] at this
/-- F with what was locked at d laid out, or free again -/
theorem lock_out {F F' H : Hp} {l : List Hp} {d : Addr} {od : Obj} {kvs : List (Key × V)} (u : Pt (F' :: l) H) (e : F' d = some (.frz od (.dK kvs))) (hd : F d = none) (le : Le F F') :
    ∃ F2, Le F F2 ∧ Lk d F' F2 ∧ Pt (one d (.dK kvs) :: F2 :: l) (upd H d (.dK kvs)) := by
  have lk : Lk d F' (fun x => if x = d then none else F' x) := ⟨⟨od, kvs, e⟩, fun b u n q => by show (if b = d then none else F' b) = _; rw [if_neg n]; exact q⟩
  refine ⟨fun x => if x = d then none else F' x, ⟨fun x o q n => ?_, fun p m t => lk.tab (le.tb p m t)⟩, ⟨⟨od, kvs, e⟩, fun b u n q => by show (if b = d then none else F' b) = _; rw [if_neg n]; exact q⟩, ?_⟩
  · show (if x = d then none else F' x) = _
    rw [if_neg (fun z => by subst z; rw [hd] at q; cases q)]
    exact le.nt _ _ q n
  · have j : Pt [one d (.frz od (.dK kvs)), fun x => if x = d then none else F' x] F' := by
      refine ⟨List.pairwise_cons.mpr ⟨fun u m x => ?_, List.pairwise_singleton _ _⟩, fun x o => ⟨fun q => ?_, fun ⟨u, m, q⟩ => ?_⟩⟩
      · rw [List.mem_singleton.mp m]
        by_cases z : x = d
        · exact .inr (if_pos z)
        · exact .inl (by unfold one; rw [if_neg z])
      · by_cases z : x = d
        · subst z
          rw [e] at q; cases q
          exact ⟨_, List.mem_cons_self, one_same⟩
        · exact ⟨_, List.mem_cons_of_mem _ List.mem_cons_self, by show (if x = d then none else F' x) = _; rw [if_neg z]; exact q⟩
      · rcases List.mem_cons.mp m with rfl | m
        · obtain ⟨rfl, rfl⟩ := one_some q
          exact e
        · rw [List.mem_singleton.mp m] at q
          have q' : (if x = d then none else F' x) = some o := q
          split at q'
          · cases q'
          · exact q'
    have w : Pt (one d (.frz od (.dK kvs)) :: (fun x => if x = d then none else F' x) :: l) H := u.split2 j
    exact w.write
/-- what may not leave by break or continue -/
def NoBk (m : Fl B T S') : Prop := ∀ b, m ≠ .bk b ∧ m ≠ .ct b
theorem noBk_forM {S : Type} {f : S → α → Fl S T S} : ∀ (xs : List α) (s : S), NoBk (forM f xs s : Fl B T S)
  | [], s => fun b => ⟨fun e => (nomatch e), fun e => (nomatch e)⟩
  | x :: xs, s => fun b => by
    unfold forM
    cases f s x with
    | nx s' => exact noBk_forM xs s' b
    | ct s' => exact noBk_forM xs s' b
    | bk s' => exact ⟨fun e => (nomatch e), fun e => (nomatch e)⟩
    | rt r => exact ⟨fun e => (nomatch e), fun e => (nomatch e)⟩
    | er c => exact ⟨fun e => (nomatch e), fun e => (nomatch e)⟩
    | no => exact ⟨fun e => (nomatch e), fun e => (nomatch e)⟩
theorem noBk_f {mi : Rs α} {f : α → Fl B T S'} (h : ∀ x, NoBk (f x)) : NoBk (mi.f f) := by
  cases mi with
  | ok x => exact h x
  | er c => exact fun b => ⟨fun e => (nomatch e), fun e => (nomatch e)⟩
  | no => exact fun b => ⟨fun e => (nomatch e), fun e => (nomatch e)⟩
/-- a statement that walks one's own dict -/
theorem js_lock (i : Nat) {t : TS} {E : α → Asn} [ez : NzF E] {y : List (Int × α)} {m : Fl B T S'} {Γn : S' → Addr → Ctx} {Γo : S' → Ctx} (h : ∀ d, JS X W cl (Γ.set i (some (kD d E y))) st t m (fun s => Γn s d) Γb RA Γe) (nb : NoBk m)
    (hn : ∀ s d, (Γn s d)[i]? = some (some (kD d E y))) (ho : ∀ s d, (Γn s d).set i (some (oD E y)) = Γo s) (nz : ∀ s d, NzC ((Γn s d).set i none)) (nr : ∀ r v F F' h d, Lk d F F' → RA r v F h → RA r v F' h) (hl : Γ[i]? = some (some (oD E y)) := by rfl) :
    JS X W cl Γ st (tLock t) m Γo Γb RA Γe := by
  refine ⟨ps_lock (h 0).pe, fun σ F O H R D u s q => ?_⟩
  obtain ⟨d, kvs, hd, k⟩ := lock_in u s hl
  refine ⟨d, .dK kvs, hd, trivial, fun od => ?_⟩
  obtain ⟨F1, O1, l1, u1, s1, e1, e0, tO⟩ := k od
  refine (h d).run σ F1 O1 _ R _ u1 s1 ?_
  cases em : m with
  | nx s =>
    rw [em] at q
    intro σ' F' O' H' l u' s'
    have e2 := l _ _ e1
    refine ⟨u'.le (by simp) _ _ e2, ?_⟩
    obtain ⟨F2, lf, lk, w⟩ := lock_out u' e2 e0 (l1.tr l)
    obtain ⟨x, h', O2, e', t2, ⟨v, rfl, rfl, od', kvs', rfl, e3, r⟩, s2⟩ := s'.take (hn s d)
    rw [e2] at e3; cases e3
    have eo := t2.emp_l
    subst eo
    have w2 : Pt (one d (.dK kvs) :: O' :: F2 :: R) _ := w.swap1
    obtain ⟨c, j, w3⟩ := w2.join2
    refine q σ' F2 c _ lf w3.swap ?_
    have := ((nz s d).slots lk s2).put' (set_none_at (hn s d)) e' (A := oD E y) ⟨d, kvs, rfl, rfl, r.nz lk ez.nz⟩ j
    rwa [set_set, ho] at this
  | rt r =>
    rw [em] at q
    intro v F' h' H' l u' p'
    have e2 := l _ _ e1
    refine ⟨u'.le (by simp) _ _ e2, ?_⟩
    obtain ⟨F2, lf, lk, w⟩ := lock_out u' e2 e0 (l1.tr l)
    have w2 : Pt (F2 :: one d (.dK kvs) :: h' :: R) _ := w.swap
    obtain ⟨F3, jc, w3⟩ := w2.join2
    exact q v F3 h' _ (lf.tr (jc.le (by simp))) w3 (nr r v F' F3 h' d ⟨lk.at', fun b u n e => jc.lp (by simp) _ _ (lk.le b u n e)⟩ p')
  | bk b => exact absurd em (nb b).1
  | ct b => exact absurd em (nb b).2
  | er c =>
    rw [em] at q
    intro σ' F' O' H' l u' s'
    exact q σ' F' O' H' (l1.tr l) u' s'
  | no => rw [em] at q; exact q.elim
/-- what raises nothing -/
def NoEr (m : Rs α) : Prop := ∀ c, m ≠ .er c
theorem noEr_ok {a : α} : NoEr (.ok a) := fun _ e => nomatch e
theorem noEr_opt {o : Option α} : NoEr (opt o) := fun c e => by cases o <;> cases e
theorem noEr_b {m : Rs α} {f : α → Rs β} (h : NoEr m) (k : ∀ x, NoEr (f x)) : NoEr (m.b f) := by
  cases m with
  | ok a => exact k a
  | er c => exact absurd rfl (h c)
  | no => exact fun _ e => nomatch e
/-- an expression that walks it -/
theorem jn_lock (i : Nat) {t : TE} {E : α → Asn} [ez : NzF E] {y : List (Int × α)} {m : Rs β} {A : β → Asn} [az : NzF A] (ne : NoEr m) (h : ∀ d, JN X W cl (Γ.set i (some (kD d E y))) e t m A) (hl : Γ[i]? = some (some (oD E y)) := by rfl) :
    JN X W cl Γ e (tLockE t) m A := by
  refine ⟨pe_lock (h 0).pe, fun σ F O H R Q u s q => ?_⟩
  obtain ⟨d, kvs, hd, k⟩ := lock_in u s hl
  refine ⟨d, .dK kvs, hd, trivial, fun od => ?_⟩
  obtain ⟨F1, O1, l1, u1, s1, e1, e0, tO⟩ := k od
  refine (h d).run σ F1 O1 _ R _ u1 s1 ?_
  cases em : m with
  | ok x =>
    rw [em] at q
    intro v F' h' H' l u' p'
    have e2 := l _ _ e1
    refine ⟨u'.le (by simp) _ _ e2, ?_⟩
    obtain ⟨F2, lf, lk, w⟩ := lock_out u' e2 e0 (l1.tr l)
    obtain ⟨c, j, w3⟩ := (w.swap1).join2
    have := j.uniq tO
    subst this
    exact q v F2 h' _ lf w3.swap (az.nz x _ _ _ _ _ lk p')
  | er c => exact absurd em (ne c)
  | no => rw [em] at q; exact q.elim
/-- the keys of a dict that is locked -/
theorem ji_keys {E : α → Asn} {d : Addr} {m : Rs (List (Int × α))} (h1 : JN X W cl Γ a ta m (kD d E)) : JI X W cl Γ tg a (iKeys ta) (m.b fun xs => .ok (xs.map (·.1))) aI := by
  obtain ⟨pa, ka⟩ := h1
  refine ⟨pi_keys pa, fun σ F O H R Q u s q => ka σ F O H R _ u s (q.bind.mono (fun xs _ q v F1 h1 H1 l1 u1 p1 => ?_) fun c q => q)⟩
  obtain ⟨rfl, od, kvs, rfl, e, r⟩ := p1
  have u1 := pt_skip u1 rfl
  have at1 : ∀ {F2 H2 : Hp} {l : List Hp}, Le F1 F2 → Pt (F2 :: l) H2 → H2 d = some (.frz od (.dK kvs)) := fun l2 u2 => (u2.le (by simp) : Le _ _) _ _ (l2 _ _ e)
  have hk : ∀ {d : List (Int × α)} {kvs : List (Key × V)} {i : Nat} {k : Int}, DKs E F1 d kvs → (d.map (·.1))[i]? = some k → ∃ v, kvs[i]? = some (Sum.inl k, v) := by
    intro d
    induction d with
    | nil => intro kvs i k _ e; cases i <;> cases e
    | cons p d ih =>
      intro kvs i k r e
      cases kvs with
      | nil => exact r.elim
      | cons kv kvs =>
        obtain ⟨e1, _, r2⟩ := r
        cases i with
        | zero =>
          cases e
          exact ⟨kv.2, by show some kv = _; rw [← e1]⟩
        | succ i => exact ih (kvs := kvs) (i := i) r2 (by simpa using e)
  have hlen : (xs.map (·.1)).length = kvs.length := by rw [List.length_map]; exact r.len
  refine ⟨d, od, rfl, .inl ⟨kvs, at1 .rfl u1, q (Itk d od kvs) F1 H1 l1 u1 (fun i F2 H2 O2 R2 x l2 u2 ex => ?_) (fun F2 H2 l l2 u2 => walk_keys.stops H2 (at1 l2 u2) |> fun z => by rw [hlen]; exact z)⟩⟩
  have hi : i < kvs.length := by rw [← hlen]; exact (List.getElem?_eq_some_iff.mp ex).1
  refine ⟨walk_keys.goes i H2 hi (at1 l2 u2), fun w H3 y => ?_⟩
  obtain ⟨rfl, k, v, e3, rfl⟩ := walk_keys.yields i H2 w H3 hi (at1 l2 u2) y
  obtain ⟨v', e4⟩ := hk r ex
  rw [e3] at e4
  cases e4
  exact ⟨F2, emp, .rfl, pt_addE u2, rfl, rfl⟩
end
end Br
namespace Br
open PySem PySem.Spec L2 PyProof.Rows
variable [tgi : Tbs]
section
variable {F : Hp} {f : Str} {A B : Asn} {l : Fds} {vs : List V}
theorem setA_setA : ∀ {l : Fds}, setA f A (setA f B l) = setA f A l
  | [] => rfl
  | (g, C) :: r => by
    show setA f A (match f == g with | true => (g, B) :: r | false => (g, C) :: setA f B r) = (match f == g with | true => (g, A) :: r | false => (g, C) :: setA f A r)
    cases e : (f == g) with
    | true =>
      show (match f == g with | true => (g, A) :: r | false => (g, B) :: setA f A r) = (g, A) :: r
      rw [e]
    | false =>
      show (match f == g with | true => (g, A) :: setA f B r | false => (g, C) :: setA f A (setA f B r)) = (g, C) :: setA f A r
      rw [e]
      exact congrArg _ setA_setA
theorem look_setA : ∀ {l : Fds} {C : Asn}, l.lookup f = some C → (setA f B l).lookup f = some B
  | (g, D) :: r, C, h => by
    unfold setA
    rw [List.lookup_cons] at h
    cases e : (f == g) with
    | true => simp only; rw [List.lookup_cons, e]
    | false => rw [e] at h; simp only; rw [List.lookup_cons, e]; exact look_setA h
theorem spl_fld {γ : Type} {Bf : γ → Asn} {fl : γ → Fds} {C : Addr} {y0 : γ} (hf : (fl y0).lookup f = some (Bf y0)) (hs : ∀ z, fl z = setA f (Bf z) (fl y0)) : Spl (fun z => oCs C (fl z)) (fun vp => oCs C (setA f (aV vp) (fl y0))) Bf y0 := by
  constructor
  · intro v F h ⟨a, dx, vs, h', e, t, sp⟩
    obtain ⟨vp, hp, hc, e1, t1, p1, k⟩ := sp.focusF hf
    have s1 := k (aV vp) F emp hc .rfl ⟨rfl, rfl⟩ .l_emp
    have u : Pt [one a (.ins C dx (nmz (fl y0) vs)), one dx (.own a), hc, hp] h := by
      have w : Pt [hp, hc, one a (.ins C dx (nmz (fl y0) vs)), one dx (.own a)] h := (t.mv 2 : Pt [h', one a (.ins C dx (nmz (fl y0) vs)), one dx (.own a)] h).unfold (l := [hp, hc]) t1
      exact ((w.mv 1).mv 3).mv 3
    have j := jnl_pt (l := [one a (.ins C dx (nmz (fl y0) vs)), one dx (.own a), hc]) (u.1.sublist (by simp))
    refine ⟨vp, _, hp, Pt.fold (l := [one a (.ins C dx (nmz (fl y0) vs)), one dx (.own a), hc]) (l' := [hp]) u, ⟨a, dx, vs, hc, e, ?_, s1⟩, p1⟩
    rw [setA_names]
    exact j
  · intro y vp v F h1 h2 h ⟨a, dx, vs, h', e, t, sp⟩ pA tt
    obtain ⟨vp', hp, hc, e1, t1, ⟨rfl, rfl⟩, k⟩ := sp.focusF (look_setA hf)
    have ec := t1.emp_l
    subst ec
    -- h = (ins, dx, hc) + h2
    have u : Pt [one a (.ins C dx (nmz (setA f (aV vp') (fl y0)) vs)), one dx (.own a), h', h2] h := tt.unfold t
    obtain ⟨c, j, w⟩ := (u.mv 3 : Pt [h2, _, _, _] h).mv 3 |>.join2
    have s2 := k (Bf y) F h2 c .rfl pA (j.swap)
    rw [setA_setA, ← hs] at s2
    refine ⟨a, dx, vs, c, e, ?_, s2⟩
    rw [setA_names] at w
    rw [hs, setA_names]
    exact w.mv 2 |>.mv 2
end
section
variable {α β γ δ ι ρ B T S' : Type} {X : Cx} {W : WX} {cl : String → Addr} {Γ Γe : Ctx} {tg e o a b c : Expr} {es : List Expr} {pos p : Pos} {ta tb : TE} {k j : Nat} {S : δ → Asn} {d0 : δ} {i : Nat} {w : Option V}
/-- x.f, x one's own instance whose field f is a hole -/
theorem jn_hfld {K0 : PySem.W.Frag} (i : Nat) (w : Option V) {x f : Str} {C : Addr} {l : Fds} {vp : V} {px pos : Pos} (c : Cls X.K C) (n : NoAttr X.K C f) (hl : Γ[i]? = some (some (ow w (oCs C l))) := by rfl) (hf : l.lookup f = some (aV vp) := by rfl) (hN : X.N[i]? = some x := by rfl)
    (hv : Vis X.env.scope x := by first | exact Or.inl rfl | exact Or.inr (Or.inl rfl) | exact Or.inr (Or.inr rfl)) (hd : (x == ("__debug__" : Str)) = false := by decide) (hcd : (x == ("__classdict__" : Str)) = false := by decide)
    (hb : attributeBase (.Name x px) f X.env (eval (.Name x px) X.env) = eval (.Name x px) X.env := by rfl) (hK : X.K = K0 := by rfl) :
    JN X W cl Γ (.Attribute (.Name x px) f pos) (tFld K0 (tVar i) f) (.ok ()) (fun _ => aV vp) := by
  subst hK
  refine ⟨pe_fld (pe_var hN hv hd hcd) hb, fun σ F O H R Q u s q => ?_⟩
  obtain ⟨x', h, O', e', t, ⟨v0, rfl, p0⟩, s'⟩ := s.take hl
  obtain ⟨a, dx, vs, h', rfl, t2, sp⟩ := ow_of p0
  obtain ⟨v, g1, g2, ev, t3, rfl, eg⟩ := sp.look hf
  have lO : Le h H := (t.le (by simp)).tr (u.le (by simp))
  refine ⟨.ref a, e', a, C, dx, _, v, rfl, lO _ _ t2.at1, c, n, ev, q v F emp H .rfl (pt_addE u) ⟨rfl, rfl⟩⟩
/-- self.f = e, all fields there -/
theorem jl_fstC {K0 : PySem.W.Frag} (i : Nat) (w : Option V) {x f : Str} {C : Addr} {fl : β → Fds} {A : α → Asn} {m : Rs α} {px apos : Pos} (sf : β → α → β) (y : β) (c : Cls X.K C) (n : NoAttr X.K C f) (we : Wk Γ Γe) (h : JN X W cl Γ e ta m A) (hp : ∀ z, putA f (A z) (fl y) = fl (sf y z) := by intro _; rfl) (hl : Γ[i]? = some (some (ow w (oCs C (fl y)))) := by rfl) (hlen : Nat.blt (fl y).length 1000 = true := by rfl) (hN : X.N[i]? = some x := by rfl)
    (hv : Vis X.env.scope x := by first | exact Or.inl rfl | exact Or.inr (Or.inl rfl) | exact Or.inr (Or.inr rfl)) (hd : (x == ("__debug__" : Str)) = false := by decide) (hcd : (x == ("__classdict__" : Str)) = false := by decide)
    (hs : swapsWith e (some (.Attribute (.Name x px) f apos)) pos.line X.env = pure false := by rfl) (hK : X.K = K0 := by rfl) :
    JL X W cl Γ (.Assign [.Attribute (.Name x px) f apos] e pos) (sFld K0 (tVar i) ta f) m (fun z => Γ.set i (some (ow w (oCs C (fl (sf y z)))))) Γe := by
  have := jl_fst (K0 := K0) (px := px) (apos := apos) (pos := pos) i w (l0 := fl y) c n we h hl hlen hN hv hd hcd hs hK
  have e : (fun z => Γ.set i (some (ow w (oCs C (putA f (A z) (fl y)))))) = fun z => Γ.set i (some (ow w (oCs C (fl (sf y z))))) := by
    funext z
    rw [hp]
  rw [e] at this
  exact this
/-- a method that reads alone -/
structure MtR {ι ρ : Type} (P : Program) (w : World) (K : PySem.W.Frag) (mg : Str → Option Value) (base : Heap) (cl : String → Addr) (k : Nat) (C : Addr) (x : Str) (ps : List Str) (As : ι → List Asn) (m : ι → Rs ρ) (Cr : ρ → Asn) : Prop where
  ex : ∃ f fd, Meth K C x f ∧ FnR P w K mg base cl k f fd ps As m Cr ∧ Binds K fd ps []
theorem jn_meth0 {pl : Sem Bool} {x : Str} {ps : List Str} {C : Addr} {fl : ι → Fds} {fm : ι → Rs ρ} {Cr : ρ → Asn} {As : ι → List Asn} {m : Rs ι} {apos : Pos} (G : Gd X W k) (cc : Cls X.K C) (c : MtR X.prog X.w X.K X.mg X.base cl j C x ps As fm Cr) (ho : JN X W cl Γ o ta m (fun y => aCs C (fl y))) (hA : ∀ y, As y = [aCs C (fl y)] := by intro _; rfl) (hn : ∀ y, (fl y).lookup x = none := by intro _; rfl) (hj : j ≤ k := by decide)
    (ht : eval (.Call (.Attribute o x apos) [] [] pos) X.env = (do
      let ov ← eval o X.env
      standAt apos.atName
      let (f, first) ← holding [ov] (getMethod ov x pl)
      callWith pos f first (backTo pos (starEach [] X.env)) (backToKw pos (keywordEach [] X.env))) := by rfl) :
    JN X W cl Γ (.Call (.Attribute o x apos) [] [] pos) (tMethS' C x (Fsp cl As fm Cr) (WE W) ta tNil) (m.b fm) Cr := by
  obtain ⟨f, fd, M, F, hb⟩ := c.ex
  obtain ⟨pp, kk⟩ := ho
  refine ⟨pe_methS0' pp cc M F (G.room.mono hj) hb (passAt G.tk) ht, fun σ F0 O H R Q u s q => kk σ F0 O H R _ u s (q.bind.mono (fun y _ q v F' h H' l u' p' => ?_) fun c q => q)⟩
  obtain ⟨rfl, a, dx, vs, rfl, ea, sp⟩ := p'
  have u2 := pt_skip u' rfl
  refine ⟨a, dx, _, rfl, ((u2.le (by simp) : Le F' H') _ _ ea), look_none (hn y), y, F', emp, O :: R, s.tgo.mono l, (pt_addE u2).perm (.cons _ (.swap _ _ _)), ?_, q.mono (fun r _ q v F2 h2 H2 l2 u5 p2 => ?_) fun c q F2 H2 l2 u5 => q F2 H2 (l.tr l2) u5⟩
  · rw [hA]; exact Sep.sing ⟨rfl, a, dx, vs, rfl, ea, sp⟩
  · exact q v F2 h2 H2 (l.tr l2) (u5.swap1) p2
theorem jn_meth {pl : Sem Bool} {x : Str} {ps : List Str} {t : TA} {C : Addr} {fl : β → Fds} {fm : ι → Rs ρ} {Cr : ρ → Asn} {As : ι → List Asn} {As' : α → List Asn} {m : Rs β} {n : Rs α} {apos : Pos} (g : β → α → ι) (G : Gd X W k) (cc : Cls X.K C) (c : MtR X.prog X.w X.K X.mg X.base cl j C x ps As fm Cr) (ho : JN X W cl Γ o ta m (fun y => aCs C (fl y))) (h : JNs X W cl Γ (e :: es) t n As') (hA : ∀ y z, As (g y z) = aCs C (fl y) :: As' z := by intro _ _; rfl) (hn : ∀ y, (fl y).lookup x = none := by intro _; rfl) (hj : j ≤ k := by decide)
    (hst : starEach (e :: es) X.env = (false, eval e X.env) :: starEach es X.env := by rfl) (hpl : (backTo pos (starEach es X.env)).any (·.1) = false := by rfl)
    (ht : eval (.Call (.Attribute o x apos) (e :: es) [] pos) X.env = (do
      let ov ← eval o X.env
      standAt apos.atName
      let (f, first) ← holding [ov] (getMethod ov x pl)
      callWith pos f first (backTo pos (starEach (e :: es) X.env)) (backToKw pos (keywordEach [] X.env))) := by rfl) :
    JN X W cl Γ (.Call (.Attribute o x apos) (e :: es) [] pos) (tMethS' C x (Fsp cl As fm Cr) (WE W) ta t) (m.b fun y => n.b fun z => fm (g y z)) Cr := by
  obtain ⟨f, fd, M, F, hb⟩ := c.ex
  obtain ⟨pp, kk⟩ := ho
  refine ⟨pe_methS' pp cc M F (G.room.mono hj) hb (passAt G.tk) h.pe hst hpl ht, fun σ F0 O H R Q u s q => kk σ F0 O H R _ u s (q.bind.mono (fun y _ q v F' h0 H' l u' p' => ?_) fun c q => q)⟩
  obtain ⟨rfl, a, dx, vs, rfl, ea, sp⟩ := p'
  have u2 := pt_skip u' rfl
  refine ⟨a, dx, _, rfl, ((u2.le (by simp) : Le F' H') _ _ ea), look_none (hn y), ?_⟩
  refine h.run σ F' O H' R _ u2 (s.mono l) (q.bind.mono (fun z _ q ws F2 g2 H2 l2 u3 p2 => ?_) fun c q F2 H2 l2 u3 => q F2 H2 (l.tr l2) u3)
  refine ⟨g y z, F2, g2, O :: R, s.tgo.mono (l.tr l2), u3.swap1, ?_, q.mono (fun r _ q v F3 h3 H3 l3 u5 p3 => ?_) fun c q F3 H3 l3 u5 => q F3 H3 (l.tr (l2.tr l3)) u5⟩
  · rw [hA]; exact ⟨emp, g2, .l_emp, ⟨rfl, a, dx, vs, rfl, l2 _ _ ea, sp.mono l2⟩, p2⟩
  · exact q v F3 h3 H3 (l.tr (l2.tr l3)) u5.swap1 p3
/-- dict(pairs) -/
def dmk (xs : List (Int × α)) : List (Int × α) := xs.foldl (fun d p => dput d p.1 p.2) []
theorem DKs.merge {E : α → Asn} {F : Hp} : ∀ {xs : List (Int × α)} {kvs : List (Key × V)} {d : List (Int × α)} {e : List (Key × V)}, DKs E F xs kvs → DKs E F d e → DKs E F (xs.foldl (fun d p => dput d p.1 p.2) d) (mergeK e kvs)
  | [], [], _, _, _, q => q
  | (k, x) :: xs, (k', v) :: kvs, d, e, ⟨e1, p, r⟩, q => by
    subst e1
    exact DKs.merge (xs := xs) (kvs := kvs) r (q.put p)
theorem pairs_DKs {K : PySem.W.Frag} {E : α → Asn} [pf : PerF E] {F H : Hp} (l : Le F H) : ∀ {xs : List (Int × α)} {vs : List V}, Sep (xs.map (t2 aI E)) vs F emp → ∃ (ps : List Addr) (kvs : List (Key × V)), vs = ps.map V.ref ∧ PySem.Paired (fun p (kv : Key × V) => SqT K H p [kV kv.1, kv.2]) ps kvs ∧ DKs E F xs kvs
  | [], [], _ => ⟨[], [], rfl, .nil, trivial⟩
  | x :: xs, v :: vs, ⟨h1, h2, t, p, r⟩ => by
    obtain ⟨rfl, rfl⟩ := t.of_emp
    obtain ⟨_, a, ws, rfl, ea, sp⟩ := p
    obtain ⟨ps, kvs, e1, e2, e3⟩ := pairs_DKs l r
    cases ws with
    | nil => exact sp.elim
    | cons w1 ws =>
      obtain ⟨g1, g2, t1, ⟨rfl, rfl⟩, sp2⟩ := sp
      have := t1.emp_l
      subst this
      obtain ⟨w2, rfl, p2⟩ := sep1 sp2
      exact ⟨a :: ps, (Sum.inl x.1, w2) :: kvs, by rw [e1]; rfl, .cons (.inl (.inl (l _ _ ea))) e2, rfl, p2, e3⟩
theorem jn_dictP {K0 : PySem.W.Frag} {E : α → Asn} [pf : PerF E] {L : List (Int × α) → Asn} [rd : RdL K0 L (t2 aI E)] [pl : PerF L] {m : Rs (List (Int × α))} (G : Gd X W k) (hm : X.mg "dict" = none) (h1 : JN X W cl Γ a ta m L) (hg : Gl X "dict" := by rfl) (hs : starEach [a] X.env = (false, eval a X.env) :: starEach [] X.env := by rfl) (hpl : (backTo pos (starEach [] X.env)).any (·.1) = false := by rfl) (hK : X.K = K0 := by rfl) :
    JN X W cl Γ (.Call (.Name "dict" p) [a] [] pos) (tCB (fun xs H Q => ∃ (a : Addr) (ps : List Addr) (kvs : List (Key × V)), xs = [.ref a] ∧ SqL K0 H a (ps.map V.ref) ∧ PySem.Paired (fun p kv => SqT K0 H p [kV kv.1, kv.2]) ps kvs ∧
    ∀ p, H p = none → Q (.ref p) (upd H p (.dK (mergeK [] kvs)))) (tCons ta tNil)) (m.b fun d => .ok (dmk d)) (oD E) := by
  subst hK
  exact JN.args (C := oD E) (jns_one h1 hs) (fun q => pe_callTy (call_dictP G.calm) hg hm (by decide +kernel) q (he := hs) (hpl := hpl)) (f := fun x : List (Int × α) => some (dmk x)) fun xs vs F h H R Q c e u sp k => by
    cases e
    obtain ⟨v, rfl, p1⟩ := sep1 sp
    have eh := pl.per _ _ _ _ p1
    subst eh
    obtain ⟨a, vs, h', rfl, ha, lh, sp⟩ := rd.rd _ _ _ _ p1
    have eh' : h' = emp := funext fun x => by
      cases q : h' x with
      | none => rfl
      | some o => exact absurd (lh.nt _ _ q (sp.cl _ _ q).1) (by intro z; cases z)
    subst eh'
    obtain ⟨l1, l2⟩ := le_part u
    obtain ⟨ps, kvs, e1, e2, e3⟩ := pairs_DKs (K := X.K) (l1) sp
    subst e1
    refine ⟨a, ps, kvs, rfl, ha H l1 l2, e2, fun d hd => ?_⟩
    have u2 : Pt (F :: R) H := (u.swap).dropE
    exact k (.ref d) F (one d (.dK (mergeK [] kvs))) _ .rfl ((u2.alloc hd).swap) ⟨d, _, rfl, rfl, DKs.merge e3 trivial⟩
end
end Br
namespace Br
open PySem PySem.Spec L2 PyProof.Rows PySem.AutoSeq1
variable [tgi : Tbs]
theorem list_extend_tup (l : Addr) (items : Array Value) (n : Nat) (b : Addr) (items2 : Array Value) (n2 : Nat) (dc : Option Addr) (sl : Array (Option Value)) (hs0 : ¬(!items.isEmpty && Builtin.List.listTooLong (items.size + items2.size)) = true) (hs1 : items.size ≤ sizeLine) (hs2 : items.size + items2.size ≤ sizeLine + 1 := by seq_fits) :
    Meets (Builtin.«list.extend» ⟨[.ref l, .ref b], []⟩) (fun _ R s => s.heap.get? l = some { cls := .type "list", dict := none, data := .seq items n, slots := #[] } ∧ s.heap.get? b = some { cls := .type "tuple", dict := dc, data := .seq items2 n2, slots := sl } ∧ R (.ok (.ret Value.none)) { s with heap := s.heap.update l (Obj.mapSeq fun x => x ++ items2), toks := s.toks }) :=
  .of_wp fun prog w A R s h => by
    obtain ⟨hp, g, d, tk, os⟩ := s; obtain ⟨hl, hb, h⟩ := h; have f1 := idx_int; have f2 := AutoSeq1.sub_tuple_tuple; have f3 := AutoSeq1.sub_list_list; have f4 := AutoSeq1.sub_tuple_list; have f5 := AutoSeq1.sub_list_tuple;
    have hz' : (items ++ items2).size ≤ sizeLine + 1 := by rw [Array.size_append]; exact hs2
    wp_walk using (wpAny_updateSeq hl rfl (hz := hs1) (_hz' := hz')), wpAny_loadPart' hl, wpAny_loadPart' hb; exact ⟨_, rfl, h⟩
def rExtT : V → List V → Hp → VK → Prop := fun x vs H Q => ∃ l b xs zs, x = .ref l ∧ vs = [.ref b] ∧ H l = some (.lst xs) ∧ H b = some (.tup zs) ∧ xs.length + zs.length ≤ sizeLine ∧ Q .non (upd H l (.lst (xs ++ zs)))
theorem mt_extT {X : Cx} : MtM X "list.extend" rExtT := by
  intro pins s σ H x vs v us Q I rx rv h
  obtain ⟨l, b, xs, zs, rfl, rfl, hH, hB, hz, q⟩ := h
  cases rx
  obtain ⟨u, rfl, ru⟩ := rv.one
  cases ru
  obtain ⟨z, its, n, r, hl, e⟩ := I.lstM hH
  obtain ⟨its2, r2, ⟨o, e2, oc, n2, od⟩, hl2⟩ := I.tuple (.inl (.inl hB))
  have hlen2 := r2.length
  have hsz : its.toArray.size + its2.toArray.size ≤ sizeLine := by rw [List.size_toArray, List.size_toArray]; omega
  have hlong : ¬ (!its.toArray.isEmpty && Builtin.List.listTooLong (its.toArray.size + its2.toArray.size)) = true := by
    rw [notLongL hsz, Bool.and_false]
    exact Bool.false_ne_true
  obtain ⟨oc', dc, od', sl⟩ := o
  simp only at oc od
  subst oc od
  refine call_meets F.slot_list_extend ⟨_, e, rfl⟩ F.entry_list_extend (F.args_list_extend_2 _ _)
    (list_extend_tup l its.toArray n b its2.toArray n2 dc sl hlong (by rw [List.size_toArray]; omega) (by omega)) ⟨e, e2, ?_⟩
  refine ⟨.non, _, I.lset (its' := its ++ its2) hH e (by simp) (r.append r2) ?_, rfl, q⟩
  rw [List.length_append]
  omega
section
variable {α β γ : Type}
def extO2 (xs : List α) (p : α × α) : Option (Unit × List α) := if xs.length ≤ 900000 then some ((), xs ++ [p.1, p.2]) else none
theorem op_extT {A : α → Asn} [pf : PerF A] {T : α × α → Asn} [rd : RdT T (fun z => [A z.1, A z.2])] : OpM rExtT A (fun p : α × α => [T p]) aU extO2 := by
  intro xs y z ad vs ws F h' g R H Q e w sp sg kk
  have eh := sp.empE
  subst eh
  obtain ⟨v0, rfl, p0⟩ := sep1 sg
  obtain ⟨b, zs, g', rfl, hb, lg, sp2⟩ := rd.rd _ _ _ _ p0
  have eg : g' = emp := Sep.per (fun B m => by
    simp only [List.mem_cons, List.not_mem_nil, or_false] at m
    rcases m with rfl | rfl
    · exact pf.per _
    · exact pf.per _) sp2
  subst eg
  unfold extO2 at e
  by_cases hz : xs.length ≤ 900000
  case neg => rw [if_neg hz] at e; cases e
  rw [if_pos hz] at e; cases e
  have el : xs.length = vs.length := by have := sp.len; rwa [List.length_map] at this
  have el2 : 2 = zs.length := sp2.len
  refine ⟨ad, b, vs, zs, rfl, rfl, w.at1, hb H (w.le (by simp)) (w.le (by simp)), Nat.le_trans (by omega) (Nat.le_of_lt line6), ?_⟩
  obtain ⟨F2, l1, l2, w2⟩ : ∃ F2, Le F F2 ∧ Le g F2 ∧ Pt (one ad (.lst (vs ++ zs)) :: emp :: emp :: F2 :: R) (upd H ad (.lst (vs ++ zs))) := by
    have w1 : Pt (F :: g :: one ad (.lst (vs ++ zs)) :: emp :: R) (upd H ad (.lst (vs ++ zs))) := (ptP (vs' := vs ++ zs) w).perm (by
      exact (List.perm_append_comm (l₁ := [one ad (.lst (vs ++ zs)), emp]) (l₂ := [g, F]) |>.append_right R).trans (.swap _ _ _))
    obtain ⟨F2, l1, l2, w2⟩ := w1.leak
    refine ⟨F2, l1, l2, (w2.perm (l' := one ad (.lst (vs ++ zs)) :: emp :: F2 :: R) (List.perm_append_comm (l₁ := [F2]) (l₂ := [one ad (.lst (vs ++ zs)), emp]) |>.append_right R)).addE.perm (by exact .swap _ _ _)⟩
  refine kk .non _ F2 emp emp _ l1 ?_ ⟨rfl, rfl⟩ w2
  show Sep ((xs ++ [y.1, y.2]).map A) (vs ++ zs) F2 emp
  rw [List.map_append]
  exact Sep.append (sp.mono l1) (sp2.mono l1) .r_emp
end
section
variable {α β γ δ ι ρ B T S' : Type} {X : Cx} {W : WX} {cl : String → Addr} {Γ Γe : Ctx} {i : Nat} {w : Option V}
/-- x.f, x one's own instance, what f holds is frozen -/
theorem jn_ofld {K0 : PySem.W.Frag} (i : Nat) (w : Option V) {x f : Str} {C : Addr} {l : Fds} {Bf : γ → Asn} [pf : PerF Bf] (g : γ) {px pos : Pos} (c : Cls X.K C) (n : NoAttr X.K C f) (hl : Γ[i]? = some (some (ow w (oCs C l))) := by rfl) (hf : l.lookup f = some (Bf g) := by rfl) (hN : X.N[i]? = some x := by rfl)
    (hv : Vis X.env.scope x := by first | exact Or.inl rfl | exact Or.inr (Or.inl rfl) | exact Or.inr (Or.inr rfl)) (hd : (x == ("__debug__" : Str)) = false := by decide) (hcd : (x == ("__classdict__" : Str)) = false := by decide)
    (hb : attributeBase (.Name x px) f X.env (eval (.Name x px) X.env) = eval (.Name x px) X.env := by rfl) (hK : X.K = K0 := by rfl) :
    JN X W cl Γ (.Attribute (.Name x px) f pos) (tFld K0 (tVar i) f) (.ok g) Bf := by
  subst hK
  refine ⟨pe_fld (pe_var hN hv hd hcd) hb, fun σ F O H R Q u s q => ?_⟩
  obtain ⟨x', h, O', e', t, ⟨v0, rfl, p0⟩, s'⟩ := s.take hl
  obtain ⟨a, dx, vs, h', rfl, t2, sp⟩ := ow_of p0
  obtain ⟨v, g1, g2, ev, t3, pv⟩ := sp.look hf
  have eg := pf.per _ _ _ _ pv
  subst eg
  have lO : Le h H := (t.le (by simp)).tr (u.le (by simp))
  exact ⟨.ref a, e', a, C, dx, _, v, rfl, lO _ _ t2.at1, c, n, ev, q v F emp H .rfl (pt_addE u) pv⟩
end
instance {cl : String → Addr} : NzF (aX cl) := ⟨fun c v F F' h a l ⟨e, b, e1, s⟩ => ⟨e, b, e1, l.get s (fun _ _ z => nomatch z)⟩⟩
instance {α : Type} {A B : α → Asn} [f : FrzF A B] {w : V} : FrzF (fun z => atv w (A z)) B := ⟨fun x v F h F' p le lh => f.frz x v F h F' p.2 le lh⟩
instance {α : Type} {A : α → Asn} [f : NtF A] {w : V} : NtF (fun z => atv w (A z)) := ⟨fun x v F h p => f.nt x v F h p.2⟩
instance {α : Type} {v : V} : PerF (fun _ : α => aV v) := ⟨fun _ => aV_per⟩
end Br
namespace Br
open PySem PySem.Spec L2
variable [tgi : Tbs]
/-- the n-th one taken out, another one put there -/
theorem Sep.focusL {F : Hp} : ∀ {As : List Asn} {vs : List V} {h : Hp} {n : Nat} {A : Asn}, Sep As vs F h → As[n]? = some A → ∃ v hp hc, vs[n]? = some v ∧ Pt [hp, hc] h ∧ A.p v F hp ∧ ∀ (B : Asn) F2 h2 h3, Le F F2 → B.p v F2 h2 → Pt [h2, hc] h3 → Sep (As.set n B) vs F2 h3
  | A0 :: As, v :: vs, _, 0, _, ⟨h1, h2, t, p, r⟩, e => by
    simp at e; subst e
    exact ⟨v, h1, h2, rfl, t, p, fun B F2 g g3 l q u => ⟨g, h2, u, q, Sep.mono l r⟩⟩
  | A0 :: As, v :: vs, _, n + 1, _, ⟨h1, h2, t, p, r⟩, e => by
    obtain ⟨u, hp, hc, ev, t2, p2, k⟩ := Sep.focusL (n := n) r (by simpa using e)
    have w : Pt [hp, hc, h1] _ := (t.swap).unfold t2
    obtain ⟨d, j, z2⟩ := (w.perm (l' := [hc, h1, hp]) (List.perm_append_comm (l₁ := [hp]) (l₂ := [hc, h1]))).join2
    refine ⟨u, hp, d, by simpa using ev, z2.swap, p2, fun B F2 g g3 l q t3 => ?_⟩
    have w2 : Pt [hc, h1, g] g3 := (t3.swap).unfold j
    obtain ⟨m, j2, z3⟩ := (w2.perm (l' := [g, hc, h1]) (List.perm_append_comm (l₁ := [hc, h1]) (l₂ := [g]))).join2
    exact ⟨h1, m, z3.swap, A0.mono l p, k B F2 g m l q j2⟩
  | [], [], _, _, _, _, e => by simp at e
section
variable {α β γ δ ι τ ρ B T S' : Type} {X : Cx} {W : WX} {cl : String → Addr} {Γ Γe Γt : Ctx} {tg e a b c : Expr} {es : List Expr} {pos p : Pos} {ta tb : TE} {k : Nat} {S : δ → Asn} {d0 : δ} {i : Nat} {w : Option V} {sts sa : List Stmt}
/-- e[k], e a place that is a tuple -/
theorem jp_prt {K0 : PySem.W.Frag} (k : Nat) {As : τ → List Asn} {Tp : τ → Asn} {A : α → Asn} {m : Rs ι} {get : ι → τ} {put : ι → τ → δ} {j q1} (gt : τ → α) (pt : τ → α → τ) (h1 : JP X W cl Γ i w S d0 a ta m Tp get put) (hT : ∀ x, Tp x = oT (As x) := by intro _; rfl) (hk : ∀ x, (As x)[k]? = some (A (gt x)) := by intro _; rfl) (hp : ∀ x y, As (pt x y) = (As x).set k (A y) := by intro _ _; rfl) (hK : X.K = K0 := by rfl) :
    JP X W cl Γ i w S d0 (.Subscript a (.Constant (.int (k : Int)) j q1) pos) (tOp (rIxT K0) ta (tC (.int (k : Int)))) m A (fun x => gt (get x)) (fun x y => put x (pt (get x) y)) := by
  subst hK
  obtain ⟨pa, hl, ka⟩ := h1
  refine ⟨pe_ix ix_tup pa pe_int (fun _ _ => rfl), hl, fun σ F O H R Q u s v0 h0 O' e0 t p q => ka σ F O H R _ u s v0 h0 O' e0 t p (q.mono (fun x _ q v F1 H1 l1 u1 ln => ?_) fun c q => q)⟩
  obtain ⟨g1, g2, tt, pT, kk⟩ := ln
  rw [hT] at pT
  obtain ⟨ad, vs, rfl, t2, sp⟩ := pT
  obtain ⟨v, fp, fc, ev, tf, pf, kf⟩ := sp.focusL (hk _)
  have hL : H1 ad = some (.tup vs) := (u1.le (by simp) : Le F1 H1) _ _ t2
  refine ⟨ad, vs, k, v, rfl, rfl, SqT.of hL, atI_nat ev, q v F1 H1 l1 u1 ?_⟩
  have w2 : Pt [fp, fc, g2] h0 := tt.unfold tf
  obtain ⟨c1, j1, w3⟩ := Pt.fold (l := [fc, g2]) (l' := [fp]) (w2.perm (List.perm_append_comm (l₁ := [fp]) (l₂ := [fc, g2]))) |> fun z => (⟨_, jnl_pt (w2.1.sublist (List.sublist_cons_self _ _)), z⟩ : ∃ c, Pt [fc, g2] c ∧ Pt [c, fp] h0)
  refine ⟨fp, c1, w3.swap, pf, fun y' F3 g g3 l3 pg tg => ?_⟩
  have w4 : Pt [fc, g2, g] g3 := (tg.swap).unfold j1
  have w5 : Pt [g, fc, g2] g3 := w4.perm (List.perm_append_comm (l₁ := [fc, g2]) (l₂ := [g]))
  obtain ⟨c2, j2, w6⟩ := w5.join2
  refine kk _ F3 c2 g3 l3 ?_ w6
  rw [hT, hp]
  exact ⟨ad, vs, rfl, l3 _ _ t2, kf (A y') F3 g c2 l3 pg j2⟩
/-- slot i's tuple, a hole in the place of its k-th part: the hole's value -/
theorem jn_hprt {K0 : PySem.W.Frag} (i : Nat) (w : Option V) (k : Nat) {x : Str} {l : List Asn} {vp : V} {px q1 pos : Pos} {j} (hl : Γ[i]? = some (some (ow w (oT l))) := by rfl) (hk : l[k]? = some (aV vp) := by rfl) (hN : X.N[i]? = some x := by rfl)
    (hv : Vis X.env.scope x := by first | exact Or.inl rfl | exact Or.inr (Or.inl rfl) | exact Or.inr (Or.inr rfl)) (hd : (x == ("__debug__" : Str)) = false := by decide) (hcd : (x == ("__classdict__" : Str)) = false := by decide) (hK : X.K = K0 := by rfl) :
    JN X W cl Γ (.Subscript (.Name x px) (.Constant (.int (k : Int)) j q1) pos) (tOp (rIxT K0) (tVar i) (tC (.int (k : Int)))) (.ok ()) (fun _ => aV vp) := by
  subst hK
  refine ⟨pe_ix ix_tup (pe_var hN hv hd hcd) pe_int (fun _ _ => rfl), fun σ F O H R Q u s q => ?_⟩
  obtain ⟨x', h, O', e', t, ⟨v0, rfl, p0⟩, s'⟩ := s.take hl
  obtain ⟨ad, vs, rfl, t2, sp⟩ := ow_of p0
  obtain ⟨v, fp, fc, ev, tf, ⟨rfl, _⟩, kf⟩ := sp.focusL hk
  exact ⟨.ref ad, e', ad, vs, k, v, rfl, rfl, SqT.of ((u.le (by simp) : Le F H) _ _ t2), atI_nat ev, q v F emp H .rfl (pt_addE u) ⟨rfl, rfl⟩⟩
/-- a tuple taken apart: a hole and its k-th part -/
theorem spl_prt (k : Nat) {As : α → List Asn} {Sf : α → Asn} {Hl : V → Asn} {A : α → Asn} {y0 : α} (hS : ∀ z, Sf z = oT (As z) := by intro _; rfl) (hk : ∀ z, (As z)[k]? = some (A z) := by intro _; rfl) (hs : ∀ z, As z = (As y0).set k (A z) := by intro _; rfl) (hH : ∀ vp, Hl vp = oT ((As y0).set k (aV vp)) := by intro _; rfl) : Spl Sf Hl A y0 := by
  refine ⟨fun v F h p => ?_, fun y vp v F h1 h2 h pH pA t => ?_⟩
  · rw [hS] at p
    obtain ⟨ad, vs, rfl, t2, sp⟩ := p
    obtain ⟨v, fp, fc, ev, tf, pf, kf⟩ := sp.focusL (hk y0)
    refine ⟨v, fc, fp, tf.swap, ?_, pf⟩
    rw [hH]
    exact ⟨ad, vs, rfl, t2, kf (aV v) F emp fc .rfl ⟨rfl, rfl⟩ .l_emp⟩
  · rw [hH] at pH
    obtain ⟨ad, vs, rfl, t2, sp⟩ := pH
    have hlt : k < (As y0).length := (List.getElem?_eq_some_iff.mp (hk y0)).1
    obtain ⟨v, fp, fc, ev, tf, ⟨rfl, rfl⟩, kf⟩ := sp.focusL (n := k) (A := aV vp) (by rw [List.getElem?_set_self hlt])
    have efc : fc = h1 := (tf.emp_l).symm
    subst efc
    rw [hS, hs y]
    have := kf (A y) F h2 h .rfl pA t.swap
    rw [List.set_set] at this
    exact ⟨ad, vs, rfl, t2, this⟩
structure JQ {α B T S : Type} (X : Cx) (W : WX) (cl : String → Addr) (Γ : Ctx) (e : Expr) (t : TT) (mm : Fl B T S → (α → Fl B T S) → Fl B T S) (Γt : Ctx) (Γf : α → Ctx) (Γe : Ctx) : Prop where
  pe : PT X e t
  run : ∀ (kt : Fl B T S) (kf : α → Fl B T S) (D : FP B T S) (σ : L2.St) (F O H : Hp) (R : List Hp) (Q : Bool → Hp → Prop), Pt (F :: O :: R) H → Slots Γ σ F O → OutF (mm kt kf) D →
    (∀ c, D.er c → ∀ F' O' H', Le F F' → Pt (F' :: O' :: R) H' → Slots Γe σ F' O' → W (.ref (cl c)) none σ H') →
    (OutF kt D → ∀ F' O' H', Le F F' → Pt (F' :: O' :: R) H' → Slots Γt σ F' O' → Q true H') →
    (∀ a, OutF (kf a) D → ∀ F' O' H', Le F F' → Pt (F' :: O' :: R) H' → Slots (Γf a) σ F' O' → Q false H') → t σ H Q
structure JQW {α B T S : Type} (X : Cx) (W : WX) (cl : String → Addr) (Γ : Ctx) (e : Expr) (t : TT) (mm : Fl B T S → (α → Fl B T S) → Fl B T S) (Γt : Ctx) (Γf : α → Ctx) (Γe : Ctx) : Prop where
  pe : PW X e t
  run : ∀ (kt : Fl B T S) (kf : α → Fl B T S) (D : FP B T S) (σ : L2.St) (F O H : Hp) (R : List Hp) (Q : Bool → Hp → Prop), Pt (F :: O :: R) H → Slots Γ σ F O → OutF (mm kt kf) D →
    (∀ c, D.er c → ∀ F' O' H', Le F F' → Pt (F' :: O' :: R) H' → Slots Γe σ F' O' → W (.ref (cl c)) none σ H') →
    (OutF kt D → ∀ F' O' H', Le F F' → Pt (F' :: O' :: R) H' → Slots Γt σ F' O' → Q true H') →
    (∀ a, OutF (kf a) D → ∀ F' O' H', Le F F' → Pt (F' :: O' :: R) H' → Slots (Γf a) σ F' O' → Q false H') → t σ H Q
theorem JQW.q {mm : Fl B T S' → (α → Fl B T S') → Fl B T S'} {Γf : α → Ctx} {t : TT} (h : JQW X W cl Γ e t mm Γt Γf Γe) : JQ X W cl Γ e t mm Γt Γf Γe := ⟨h.pe.pt, h.run⟩
/-- a call by itself -/
theorem jq_call {t : TE} {m : Rs ρ} {Γ' : ρ → Ctx} (u : ρ → Bool) (h : JE X W cl Γ e t m Γ' (fun r => aB (u r)) Γe) (wt : ∀ r, Wk (Γ' r) Γt) (he : ∀ whole, isTrue e X.env whole = (do let v ← whole; standAt e.pos; holding [v] (truthy v)) := by intro _; rfl) :
    JQ (B := B) (T := T) (S := S') X W cl Γ e (tB t) (fun kt kf => m.f fun r => if u r = true then kt else kf r) Γt Γ' Γe := by
  obtain ⟨p, k⟩ := h
  refine ⟨pt_val p he, fun kt kf D σ F O H R Q u1 s q qe qt qf => k σ F O H R _ u1 s (q.bindR.mono (fun r _ q v F' O' h H' l u' s' p' => ?_) fun c q F' O' H' l u' s' => qe c q F' O' H' l u' s')⟩
  have p' : (aB (u r)).p v F' h := p'
  refine ⟨u r, p'.1, ?_⟩
  have u2 := pt_skip u' p'.2
  have q : OutF (if u r = true then kt else kf r) D := q
  cases hr : u r with
  | true =>
    rw [hr, if_pos rfl] at q
    obtain ⟨F2, O2, l2, u3, s3⟩ := (wt r).slots s' u2
    exact qt q F2 O2 H' (l.tr l2) u3 s3
  | false =>
    rw [hr, if_neg (by simp)] at q
    exact qf r q F' O' H' l u2 s'
theorem jq_ncall {t : TE} {m : Rs ρ} {Γ' : ρ → Ctx} (u : ρ → Bool) (h : JE X W cl Γ e t m Γ' (fun r => aB (u r)) Γe) (wt : ∀ r, Wk (Γ' r) Γt) (he : ∀ whole, isTrue e X.env whole = (do let v ← whole; standAt e.pos; holding [v] (truthy v)) := by intro _; rfl) :
    JQ (B := B) (T := T) (S := S') X W cl Γ (.UnaryOp .Not e pos) (tNot (tB t)) (fun kt kf => m.f fun r => if (!u r) = true then kt else kf r) Γt Γ' Γe := by
  obtain ⟨p, k⟩ := h
  refine ⟨pt_not (pt_val p he), fun kt kf D σ F O H R Q u1 s q qe qt qf => k σ F O H R _ u1 s (q.bindR.mono (fun r _ q v F' O' h H' l u' s' p' => ?_) fun c q F' O' H' l u' s' => qe c q F' O' H' l u' s')⟩
  have p' : (aB (u r)).p v F' h := p'
  refine ⟨u r, p'.1, ?_⟩
  have u2 := pt_skip u' p'.2
  have q : OutF (if (!u r) = true then kt else kf r) D := q
  cases hr : u r with
  | false =>
    rw [hr, if_pos (by simp)] at q
    obtain ⟨F2, O2, l2, u3, s3⟩ := (wt r).slots s' u2
    show Q true H'
    exact qt q F2 O2 H' (l.tr l2) u3 s3
  | true =>
    rw [hr, if_neg (by simp)] at q
    show Q false H'
    exact qf r q F' O' H' l u2 s'
theorem jq_jt {t : TT} {m : Rs Bool} (h : JT X W cl Γ e t m) (wt : Wk Γ Γt) (we : Wk Γ Γe) : JQ (B := B) (T := T) (S := S') X W cl Γ e t (fun kt kf => m.f fun r => if r = true then kt else kf ()) Γt (fun _ : Unit => Γ) Γe := by
  obtain ⟨p, k⟩ := h
  refine ⟨p, fun kt kf D σ F O H R Q u1 s q qe qt qf => k σ F O H R _ u1 s (q.bindR.mono (fun r _ q F' H' l u' => ?_) fun c q F' H' l u' => ?_)⟩
  · cases r with
    | true =>
      obtain ⟨F2, O2, l2, u3, s3⟩ := wt.slots (s.mono l) u'
      exact qt q F2 O2 H' (l.tr l2) u3 s3
    | false => exact qf () q F' O H' l u' (s.mono l)
  · obtain ⟨F2, O2, l2, u3, s3⟩ := we.slots (s.mono l) u'
    exact qe c q F2 O2 H' (l.tr l2) u3 s3
theorem jqw_or1 {mm : Fl B T S' → (α → Fl B T S') → Fl B T S'} {Γf : α → Ctx} {t : TT} (h : JQ X W cl Γ a t mm Γt Γf Γe) : JQW X W cl Γ (.BoolOp .Or [a] pos) t mm Γt Γf Γe := ⟨pw_or1 h.pe, h.run⟩
theorem jqw_or {mm : Fl B T S' → (α → Fl B T S') → Fl B T S'} {Γ1 : α → Ctx} {t t2 : TT} {rest : List Expr} {m2 : α → Fl B T S' → (β → Fl B T S') → Fl B T S'} {Γ2 : α → β → Ctx} (a0 : α) (h1 : JQ X W cl Γ a t mm Γt Γ1 Γe) (h2 : ∀ x, JQW X W cl (Γ1 x) (.BoolOp .Or (b :: rest) pos) t2 (m2 x) Γt (Γ2 x) Γe) :
    JQW X W cl Γ (.BoolOp .Or (a :: b :: rest) pos) (tOr t t2) (fun kt kf => mm kt fun x => m2 x kt fun y => kf (x, y)) Γt (fun z => Γ2 z.1 z.2) Γe := by
  obtain ⟨p, k⟩ := h1
  refine ⟨pw_or p (h2 a0).pe, fun kt kf D σ F O H R Q u s q qe qt qf => k kt _ D σ F O H R _ u s q qe (fun q F' O' H' l u' s' => ?_) fun x q F' O' H' l u' s' => ?_⟩
  · exact qt q F' O' H' l u' s'
  · exact (h2 x).run kt _ D σ F' O' H' R Q u' s' q (fun c q F2 O2 H2 l2 => qe c q F2 O2 H2 (l.tr l2)) (fun q F2 O2 H2 l2 => qt q F2 O2 H2 (l.tr l2)) fun y q F2 O2 H2 l2 => qf (x, y) q F2 O2 H2 (l.tr l2)
/-- if such a test: what never goes on; then the rest -/
theorem jb_ifq {M : Fl B T S'} {Γn : S' → Ctx} {Γb : B → Ctx} {RA : RAs T} {mm : Fl B T S' → (α → Fl B T S') → Fl B T S'} {Γf : α → Ctx} {t : TT} {t1 t2 : TS} {m : Fl B T Empty} {n : α → Fl B T S'} {Γ0 : Empty → Ctx} (a0 : α) (hc : JQ X W cl Γ c t mm Γt Γf Γe) (h1 : JB X W cl Γt sa t1 m Γ0 Γb RA Γe) (h2 : ∀ x, JB X W cl (Γf x) sts t2 (n x) Γn Γb RA Γe) (hM : mm m.v n = M) :
    JB X W cl Γ (.If c sa [] pos :: sts) (tSeq (tIfS t t1 tNext) t2) M Γn Γb RA Γe := by
  subst hM
  obtain ⟨p, k⟩ := hc
  obtain ⟨p1, k1⟩ := h1
  refine ⟨pss_cons (ps_if p p1 pss_nil) (h2 a0).pe, fun σ F O H R D u s q => k _ _ (wants W cl Γn Γb RA Γe F R D) σ F O H R _ u s q (fun c q => q σ) (fun q F1 O1 H1 le u1 s1 => ?_) fun x q F1 O1 H1 le u1 s1 => ?_⟩
  · refine k1 σ F1 O1 H1 R _ u1 s1 (wants_le le ?_)
    have q' : OutF (m.v : Fl B T S') (wants W cl Γn Γb RA Γe F R D) := q
    cases m with
    | nx s => exact s.elim
    | rt r => exact q'
    | bk r => exact q'
    | ct r => exact q'
    | er r => exact q'
    | no => exact q'
  · exact (h2 x).run σ F1 O1 H1 R D u1 s1 (wants_le le q)
end
end Br
namespace Br
open PySem PySem.Spec L2
variable [tgi : Tbs]
section
variable {α β γ δ ι τ ρ B T S' : Type} {X : Cx} {W : WX} {cl : String → Addr} {Γ Γe Γt : Ctx} {tg e a b c : Expr} {es : List Expr} {pos p : Pos} {ta tb : TE} {k : Nat} {S : δ → Asn} {d0 : δ} {i : Nat} {w : Option V}
theorem Sep.last {E : α → Asn} {F : Hp} : ∀ {xs : List α} {x : α} {vs : List V} {h : Hp}, Sep ((xs ++ [x]).map E) vs F h → ∃ ws v h1 h2, vs = ws ++ [v] ∧ Pt [h1, h2] h ∧ Sep (xs.map E) ws F h1 ∧ (E x).p v F h2
  | [], x, [], _, s => s.elim
  | [], x, [v], h, ⟨h1, h2, t, p, r⟩ => by
    have r' : h2 = emp := r
    subst r'
    exact ⟨[], v, emp, h1, rfl, t.swap, rfl, p⟩
  | [], x, v :: u :: vs, h, ⟨h1, h2, t, p, r⟩ => r.elim
  | y :: xs, x, [], _, s => s.elim
  | y :: xs, x, v :: vs, h, ⟨h1, h2, t, p, r⟩ => by
    obtain ⟨ws, u, g1, g2, rfl, t2, s2, p2⟩ := Sep.last (xs := xs) (x := x) r
    have w : Pt [g1, g2, h1] h := (t.swap).unfold t2
    obtain ⟨m, j, z⟩ := (w.perm (l' := [h1, g1, g2]) (List.perm_append_comm (l₁ := [g1, g2]) (l₂ := [h1]))).join2
    exact ⟨v :: ws, u, m, g2, rfl, z, ⟨h1, g1, j, p, s2⟩, p2⟩
theorem Sep.permP {E : α → Asn} {F : Hp} {qs rs : List (V × α)} (q : qs.Perm rs) : ∀ {h : Hp}, Sep ((qs.map (·.2)).map E) (qs.map (·.1)) F h → Sep ((rs.map (·.2)).map E) (rs.map (·.1)) F h := by
  induction q with
  | nil => exact fun s => s
  | cons x _ ih => exact fun ⟨h1, h2, t, p, r⟩ => ⟨h1, h2, t, p, ih r⟩
  | swap x y l =>
    rintro h ⟨h1, h2, t, p1, h3, h4, t2, p2, r⟩
    have w : Pt [h3, h4, h1] h := (t.swap).unfold t2
    obtain ⟨m, j, z⟩ := (w.perm (l' := [h1, h4, h3]) (by
      exact (List.perm_append_comm (l₁ := [h3, h4]) (l₂ := [h1])).trans (.cons _ (.swap _ _ _)))).join2
    exact ⟨h3, m, z.swap, p2, h1, h4, j, p1, r⟩
  | trans _ _ i1 i2 => exact fun s => i2 (i1 s)
theorem zip_fst' : ∀ {vs : List V} {xs : List α}, vs.length = xs.length → (vs.zip xs).map (·.1) = vs
  | [], [], _ => rfl
  | x :: xs, d :: ds, h => by simp [zip_fst' (vs := xs) (xs := ds) (by simpa using h)]
/-- extend by one's own items -/
theorem op_extO {A : α → Asn} : OpM rExtend A (fun ys : List α => [oA A ys]) aU extO := by
  intro xs y z ad vs ws F h' g R H Q e w sp sg kk
  obtain ⟨v0, rfl, p0⟩ := sep1 sg
  obtain ⟨b, zs, g', rfl, t2, sp2⟩ := p0
  unfold extO at e
  by_cases hz : xs.length + y.length ≤ 1000000
  case neg => rw [if_neg hz] at e; cases e
  rw [if_pos hz] at e; cases e
  have el : xs.length = vs.length := by have := sp.len; rwa [List.length_map] at this
  have el2 : y.length = zs.length := by have := sp2.len; rwa [List.length_map] at this
  refine ⟨ad, b, vs, zs, rfl, rfl, w.at1, ?_, Nat.le_trans (by omega) (Nat.le_of_lt line6), ?_⟩
  · exact (w.le (List.mem_cons_of_mem _ (List.mem_cons_of_mem _ List.mem_cons_self)) : Le g H) _ _ t2.at1
  · have w1 : Pt (one ad (.lst (vs ++ zs)) :: h' :: g :: F :: R) (upd H ad (.lst (vs ++ zs))) := ptP w
    have w2 : Pt (one b (.lst zs) :: g' :: one ad (.lst (vs ++ zs)) :: h' :: F :: R) (upd H ad (.lst (vs ++ zs))) := ((w1.perm (l' := g :: one ad (.lst (vs ++ zs)) :: h' :: F :: R) (by
      exact (List.perm_append_comm (l₁ := [one ad (.lst (vs ++ zs)), h']) (l₂ := [g]) |>.append_right (F :: R)))).unfold t2)
    have w3 : Pt (F :: one b (.lst zs) :: one ad (.lst (vs ++ zs)) :: h' :: g' :: R) (upd H ad (.lst (vs ++ zs))) := w2.perm (by
      refine .trans (.cons _ (List.perm_append_comm (l₁ := [g']) (l₂ := [one ad (.lst (vs ++ zs)), h', F]) |>.append_right R)) ?_
      refine .trans (List.perm_append_comm (l₁ := [one b (.lst zs), one ad (.lst (vs ++ zs)), h']) (l₂ := [F]) |>.append_right (g' :: R)) ?_
      exact .refl _)
    obtain ⟨F2, l1, l2, w4⟩ := w3.leak
    have w5 : Pt (h' :: g' :: one ad (.lst (vs ++ zs)) :: F2 :: R) (upd H ad (.lst (vs ++ zs))) := w4.perm (by
      exact (List.perm_append_comm (l₁ := [F2, one ad (.lst (vs ++ zs))]) (l₂ := [h', g']) |>.append_right R).trans (.cons _ (.cons _ (.swap _ _ _))))
    obtain ⟨m, j, w6⟩ := w5.join2
    have w7 : Pt (one ad (.lst (vs ++ zs)) :: m :: emp :: F2 :: R) (upd H ad (.lst (vs ++ zs))) := ((w6.perm (l' := one ad (.lst (vs ++ zs)) :: m :: F2 :: R) (.swap _ _ _)).addE).perm (by
      exact (List.perm_append_comm (l₁ := [emp]) (l₂ := [one ad (.lst (vs ++ zs)), m]) |>.append_right (F2 :: R)))
    exact kk .non _ F2 m emp _ l1 (by rw [List.map_append]; exact Sep.append (sp.mono l1) (sp2.mono l1) j) ⟨rfl, rfl⟩ w7
/-- pop of one's own item -/
theorem op_popO {A : α → Asn} : OpM rPop A (fun _ : Unit => []) A (fun xs _ => popO xs) := by
  intro xs y z ad vs ws F h' g R H Q e w sp sg kk
  have eg : ws = [] ∧ g = emp := by
    cases ws with
    | nil => exact ⟨rfl, sg⟩
    | cons _ _ => exact sg.elim
  obtain ⟨rfl, rfl⟩ := eg
  replace e : popO xs = some z := e
  unfold popO at e
  cases q2 : xs.getLast? with
  | none => rw [q2] at e; cases e
  | some x =>
    rw [q2] at e; cases e
    obtain ⟨ys, rfl⟩ := List.getLast?_eq_some_iff.mp q2
    obtain ⟨us, v, h1, h2, rfl, t, s1, p1⟩ := Sep.last sp
    have w2 : Pt (h1 :: h2 :: one ad (.lst (us ++ [v])) :: emp :: F :: R) H := (w.perm (.swap _ _ _)).unfold t
    have w3 : Pt (one ad (.lst (us ++ [v])) :: h1 :: h2 :: F :: R) H := Pt.dropE (w2.perm (by
      refine .trans (.cons _ (.swap _ _ _)) ?_
      refine .trans (List.perm_append_comm (l₁ := [h1, one ad (.lst (us ++ [v])), h2]) (l₂ := [emp]) |>.append_right (F :: R)) ?_
      exact .cons _ (.swap _ _ _)))
    refine ⟨ad, us ++ [v], v, rfl, rfl, w.at1, by simp, ?_⟩
    refine kk v us F h1 h2 _ .rfl (by rw [List.dropLast_concat]; exact s1) p1 ?_
    rw [List.dropLast_concat]
    exact ptP w3
/-- an operation that takes things away -/
theorem JE.args {es : List Expr} {t : TA} {m : Rs α} {Γ2 : Ctx} {As : α → List Asn} {C : γ → Asn} {f : α → Option γ} {r : List V → Hp → VK → Prop} (h : JEs X W cl Γ es t m (fun _ => Γ2) As Γe) (hp : PA X es t → PE X e (tCB r t)) (op : OpN r As f C) : JE X W cl Γ e (tCB r t) (m.b fun x => opt (f x)) (fun _ => Γ2) C Γe := by
  obtain ⟨p, k⟩ := h
  refine ⟨hp p, fun σ F O H R Q u s q => k σ F O H R _ u s (q.bind.mono (fun x _ q v F1 O1 h1 H1 le u1 s1 p1 => ?_) fun c q => q)⟩
  obtain ⟨c, e, q⟩ := opt_out q
  exact op x v F1 h1 H1 (O1 :: R) Q c e (u1.perm (.cons _ (.swap _ _ _))) p1 fun v' F' h' H' le' u' p' => q v' F' O1 h' H' (le.tr le') (u'.perm (.cons _ (.swap _ _ _))) (s1.mono le') p'
/-- sorted of a list of one's own things, given away -/
theorem je_sortMv {K0 : PySem.W.Frag} [DecidableEq α] [LtO α] {E : α → Asn} [d : DatF K0 E] [o : OrF K0 E] (i : Nat) {x : Str} {ys : List α} {px : Pos} (G : Gd X W k) (hm : X.mg "sorted" = none) (hl0 : Γ[i]? = some (some (oA E ys)) := by rfl) (hN : X.N[i]? = some x := by rfl) (hv : Vis X.env.scope x := by first | exact Or.inl rfl | exact Or.inr (Or.inl rfl) | exact Or.inr (Or.inr rfl))
    (hd : (x == ("__debug__" : Str)) = false := by decide) (hcd : (x == ("__classdict__" : Str)) = false := by decide) (hl : Nat.ble d.dep 50 = true := by rfl) (hg : Gl X "sorted" := by rfl) (hs : starEach [.Name x px] X.env = (false, eval (.Name x px) X.env) :: starEach [] X.env := by rfl) (hpl : (backTo pos (starEach [] X.env)).any (·.1) = false := by rfl) (hK : X.K = K0 := by rfl) :
    JE X W cl Γ (.Call (.Name "sorted" p) [.Name x px] [] pos) (tCB (rSortedZ K0) (tCons (tVar i) tNil)) (.ok (srtL ys)) (fun _ => Γ.set i none) (oA E) Γe := by
  subst hK
  have j : JEs X W cl Γ [.Name x px] (tCons (tVar i) tNil) ((Rs.ok ys).b fun x => (Rs.ok ()).b fun y => .ok (x, y)) (fun _ => Γ.set i none) (fun p => [oA E p.1]) Γe := jes_cons (je_move i (oA E) hl0 hN hv hd hcd) (fun _ => jes_nil) hs
  exact (JE.args (C := oA E) j (fun q => pe_callB (call_sortedZ G.room.units) hg hm (by decide +kernel) q (he := hs) (hpl := hpl)) (f := fun d => some (srtL d.1)) fun xs vs F h H R Q c e u sp k => by
    obtain ⟨v, rfl, p1⟩ := sep1 sp
    obtain ⟨a, ws, h', rfl, tt, sp⟩ := p1
    obtain ⟨l1, l2⟩ := le_part u
    cases e
    have el : ws.length = xs.1.length := by have := sp.len; rw [List.length_map] at this; exact this.symm
    refine ⟨a, ws, xs.1.map d.dat, rfl, SqL.of (l2 _ _ tt.at1), dpAll_of sp l1 ((tt.le (by simp)).tr l2), ?_, ?_, ?_, fun l hl2 => ?_⟩
    · intro x hx y hy
      obtain ⟨a, _, rfl⟩ := List.mem_map.mp hx
      obtain ⟨b, _, rfl⟩ := List.mem_map.mp hy
      exact o.alike a b
    · rcases o.form with f | f
      · refine .inl fun x hx => ?_
        obtain ⟨a, _, rfl⟩ := List.mem_map.mp hx
        exact f a
      · refine .inr fun x hx => ?_
        obtain ⟨a, _, rfl⟩ := List.mem_map.mp hx
        exact f a
    · intro x hx
      obtain ⟨a, _, rfl⟩ := List.mem_map.mp hx
      exact Nat.le_trans (d.low a) (Nat.ble_eq.mp hl)
    · have e1 : ((ws.zip (xs.1.map d.dat)).mergeSort (PySem.W.dataLe false Prod.snd)) = ((ws.zip xs.1).mergeSort fun q r => !LtO.lt r.2 q.2).map fun q => (q.1, d.dat q.2) := by
        rw [← zip_map_r, List.map_mergeSort]
        intro q _ r _
        rw [PySem.W.dataLe_eq]
        show (!LtO.lt r.2 q.2) = !PySem.W.dataLt (d.dat r.2) (d.dat q.2)
        rw [o.lt]
      have e2 : ((ws.zip xs.1).mergeSort fun q r => !LtO.lt r.2 q.2).map (·.2) = srtL xs.1 := by
        unfold srtL
        rw [List.map_mergeSort (s := fun a b => !LtO.lt b a), zip_snd' el]
        intro q _ r _
        rfl
      rw [e1, List.map_map]
      have sp1 : Sep (((ws.zip xs.1).map (·.2)).map E) ((ws.zip xs.1).map (·.1)) F h' := by rw [zip_snd' el, zip_fst' el]; exact sp
      have sp2 := Sep.permP (List.mergeSort_perm (ws.zip xs.1) (fun q r => !LtO.lt r.2 q.2)).symm sp1
      rw [e2] at sp2
      have w1 : Pt (one a (.lst ws) :: h' :: F :: R) H := (u.perm (.swap _ _ _)).unfold tt
      have w2 := w1.alloc (o := .lst (((ws.zip xs.1).mergeSort fun q r => !LtO.lt r.2 q.2).map (fun q : V × α => q.1))) hl2
      have w3 := w2.perm (l' := F :: one a (.lst ws) :: one l (.lst (((ws.zip xs.1).mergeSort fun q r => !LtO.lt r.2 q.2).map (fun q : V × α => q.1))) :: h' :: R) (by
        refine .trans (.swap _ _ _) ?_
        exact (List.perm_append_comm (l₁ := [one a (.lst ws), one l (.lst (((ws.zip xs.1).mergeSort fun q r => !LtO.lt r.2 q.2).map (fun q : V × α => q.1))), h']) (l₂ := [F]) |>.append_right R))
      obtain ⟨F2, l3, _, w4⟩ := w3.leak
      obtain ⟨m, j2, w5⟩ := (w4.perm (l' := one l (.lst (((ws.zip xs.1).mergeSort fun q r => !LtO.lt r.2 q.2).map (fun q : V × α => q.1))) :: h' :: F2 :: R) (List.perm_append_comm (l₁ := [F2]) (l₂ := [one l (.lst (((ws.zip xs.1).mergeSort fun q r => !LtO.lt r.2 q.2).map (fun q : V × α => q.1))), h']) |>.append_right R)).join2
      exact k _ F2 m _ l3 (w5.perm (.swap _ _ _)) ⟨l, _, h', rfl, j2, sp2.mono l3⟩)
end
class DatO (K : PySem.W.Frag) {α : Type} (A : α → Asn) [DecidableEq α] where
  dat : α → PyData
  dep : Nat
  ok : α → Bool
  is : ∀ x v F h H, (A x).p v F h → Le F H → Le h H → Dp K H v (dat x)
  lay : ∀ x, ok x = true → (dat x).canLay0 = true
  low : ∀ x, (dat x).depth ≤ dep
  eq : ∀ x y, PyData.eqv (dat x) (dat y) = decide (x = y)
instance (priority := low) {K : PySem.W.Frag} {α : Type} {A : α → Asn} [DecidableEq α] [d : DatF K A] : DatO K A := ⟨d.dat, d.dep, fun _ => true, d.is, fun x _ => d.lay x, d.low, d.eq⟩
instance {K : PySem.W.Frag} : DatO K aS := ⟨.str, 0, fun x => PySem.PyData.strOk x, fun x v F h H p _ _ => by rw [p.1]; exact .str x, fun x h => h, fun _ => by simp [PyData.depth], fun x y => by simp [PyData.eqv, Bool.beq_eq_decide_eq]⟩
instance {K : PySem.W.Frag} {α β : Type} [DecidableEq α] [DecidableEq β] {A : α → Asn} {C : β → Asn} [d : DatO K A] [d' : DatO K C] : DatO K (t2 A C) :=
  ⟨fun x => .tuple [d.dat x.1, d'.dat x.2], max d.dep d'.dep + 1, fun x => d.ok x.1 && d'.ok x.2, fun x v F h H p lf lh => by
    obtain ⟨a, vs, h', rfl, sq, l', sp⟩ := (inferInstance : RdT (t2 A C) (fun x => [A x.1, C x.2])).rd x v F h p
    obtain ⟨v1, v2, h1, h2, rfl, t, p1, p2⟩ := sep2 sp
    exact .tup (SqT.of (sq H lf lh)) (.cons (d.is _ _ _ _ _ p1 lf ((t.le (by simp)).tr (l'.tr lh))) (.cons (d'.is _ _ _ _ _ p2 lf ((t.le (by simp)).tr (l'.tr lh))) .nil)),
   fun x h => by
    rw [Bool.and_eq_true] at h
    simp [PyData.canLay0, PyData.canLayAll0, d.lay _ h.1, d'.lay _ h.2], fun x => by have := d.low x.1; have := d'.low x.2; simp [PyData.depth, PyData.depthAll]; omega, fun x y => by
    rw [PyData.eqv, PyData.eqvAll, PyData.eqvAll, PyData.eqvAll, d.eq, d'.eq]
    obtain ⟨x1, x2⟩ := x
    obtain ⟨y1, y2⟩ := y
    by_cases h1 : x1 = y1 <;> by_cases h2 : x2 = y2 <;> simp [h1, h2]⟩
def eqO {α : Type} [DecidableEq α] (ok : α → Bool) (x y : α) : Option Bool := if (ok x && ok y) = true then some (decide (x = y)) else none
def neO {α : Type} [DecidableEq α] (ok : α → Bool) (x y : α) : Option Bool := if (ok x && ok y) = true then some (!decide (x = y)) else none
section
variable {α β γ δ ι τ ρ B T S' : Type} {X : Cx} {W : WX} {cl : String → Addr} {Γ Γe Γt : Ctx} {tg e a b c : Expr} {es : List Expr} {pos p : Pos} {ta tb : TE} {k : Nat}
theorem op2_O {K0 : PySem.W.Frag} [DecidableEq α] {A : α → Asn} [d : DatO K0 A] (hl : d.dep ≤ 64) {neg : Bool} (hK : X.K = K0 := by rfl) : Op2 (fun x y H Q => ∃ d e, Dp K0 H x d ∧ Dp K0 H y e ∧ SeqAt.shaped d = true ∧ SeqAt.shaped e = true ∧ Q (.bl (if neg then !PyData.eqv d e else PyData.eqv d e)) H) A A (fun x y => if (d.ok x && d.ok y) = true then some (if neg then !decide (x = y) else decide (x = y)) else none) aB := by
  subst hK
  intro x y v w F h1 h2 H R Q c e u p q k
  replace e : (if (d.ok x && d.ok y) = true then some (if neg then !decide (x = y) else decide (x = y)) else none) = some c := e
  by_cases hz : (d.ok x && d.ok y) = true
  case neg => rw [if_neg hz] at e; cases e
  rw [if_pos hz] at e
  rw [Bool.and_eq_true] at hz
  have sh : ∀ z, d.ok z = true → SeqAt.shaped (d.dat z) = true := fun z hz => by unfold SeqAt.shaped; rw [d.lay z hz]; have := d.low z; simp; omega
  have lF : Le F H := u.le (by simp)
  have q2 := d.is y w F h2 H q lF (u.le (by simp))
  refine ⟨d.dat x, d.dat y, d.is x v F h1 H p lF (u.le (by simp)), q2, sh x hz.1, sh y hz.2, ?_⟩
  rw [d.eq]
  obtain ⟨F2, l1, _, u2⟩ := u.leak
  obtain ⟨F3, l3, _, u3⟩ := u2.leak
  exact k _ F3 emp H (l1.tr l3) (Pt.swap u3.addE) ⟨by rw [Option.some.inj e], rfl⟩
theorem jn_eqO {K0 : PySem.W.Frag} [DecidableEq α] {A : α → Asn} [d : DatO K0 A] {m n : Rs α} (ok : α → Bool) (G : Gd X W k) (h1 : JN X W cl Γ a ta m A) (h2 : JN X W cl Γ b tb n A) (ho : d.ok = ok := by rfl) (hl : Nat.ble d.dep 64 = true := by rfl) (hK : X.K = K0 := by rfl) :
    JN X W cl Γ (.Compare a [.Eq] [b] pos) (tOp (rEqD K0) ta tb) (m.b fun x => n.b fun y => opt (eqO ok x y)) aB := by
  subst hK
  subst ho
  exact (JN.bin (f := fun x y => eqO d.ok x y) h1 h2 (fun p q => pe_cmpR (op_eqD G.room.units) p q (nomark _)) (op2_O (neg := false) (Nat.ble_eq.mp hl)))
theorem jn_neO {K0 : PySem.W.Frag} [DecidableEq α] {A : α → Asn} [d : DatO K0 A] {m n : Rs α} (ok : α → Bool) (G : Gd X W k) (h1 : JN X W cl Γ a ta m A) (h2 : JN X W cl Γ b tb n A) (ho : d.ok = ok := by rfl) (hl : Nat.ble d.dep 64 = true := by rfl) (hK : X.K = K0 := by rfl) :
    JN X W cl Γ (.Compare a [.NotEq] [b] pos) (tOp (rNeD K0) ta tb) (m.b fun x => n.b fun y => opt (neO ok x y)) aB := by
  subst hK
  subst ho
  exact (JN.bin (f := fun x y => neO d.ok x y) h1 h2 (fun p q => pe_cmpR (op_neD G.room.units) p q (nomark _)) (op2_O (neg := true) (Nat.ble_eq.mp hl)))
theorem jt_eqO {K0 : PySem.W.Frag} [DecidableEq α] {A : α → Asn} [d : DatO K0 A] {m n : Rs α} (ok : α → Bool) (G : Gd X W k) (h1 : JN X W cl Γ a ta m A) (h2 : JN X W cl Γ b tb n A) (ho : d.ok = ok := by rfl) (hl : Nat.ble d.dep 64 = true := by rfl) (hK : X.K = K0 := by rfl) :
    JT X W cl Γ (.Compare a [.Eq] [b] pos) (tTest (tOp (rEqD K0) ta tb)) (m.b fun x => n.b fun y => opt (eqO ok x y)) := by
  subst hK
  exact (jt_c (jn_eqO ok G h1 h2 ho hl) (pt_cmpR (op_eqD G.room.units) h1.pe h2.pe (nomark _)))
theorem jt_neO {K0 : PySem.W.Frag} [DecidableEq α] {A : α → Asn} [d : DatO K0 A] {m n : Rs α} (ok : α → Bool) (G : Gd X W k) (h1 : JN X W cl Γ a ta m A) (h2 : JN X W cl Γ b tb n A) (ho : d.ok = ok := by rfl) (hl : Nat.ble d.dep 64 = true := by rfl) (hK : X.K = K0 := by rfl) :
    JT X W cl Γ (.Compare a [.NotEq] [b] pos) (tTest (tOp (rNeD K0) ta tb)) (m.b fun x => n.b fun y => opt (neO ok x y)) := by
  subst hK
  exact (jt_c (jn_neO ok G h1 h2 ho hl) (pt_cmpR (op_neD G.room.units) h1.pe h2.pe (nomark _)))
end
end Br
namespace Br
open PySem PySem.Spec L2
variable [tgi : Tbs]
/-- pinned to a value -/
abbrev pnA {δ : Type} (v : V) (A : δ → Asn) (x : δ) : Asn := atv v (A x)
instance {δ : Type} {v : V} {A : δ → Asn} [p : PerF A] : PerF (pnA v A) := ⟨fun x w F h q => p.per x w F h q.2⟩
inductive PinK (vf : Nat → V) : Nat → Ctx → Ctx → Prop
  | nil {n} : PinK vf n [] []
  | keep {n a Γ Γ'} : PinK vf (n + 1) Γ Γ' → PinK vf n (a :: Γ) (a :: Γ')
  | pin {n A Γ Γ'} : PinK vf (n + 1) Γ Γ' → PinK vf n (some A :: Γ) (some (atv (vf n) A) :: Γ')
theorem PinK.slots {vf : Nat → V} {F : Hp} : ∀ {n : Nat} {Γ Γ' : Ctx} {σ : L2.St} {O : Hp}, PinK vf n Γ Γ' → (∀ j v, σ[j]? = some (some v) → vf (n + j) = v) → Slots Γ σ F O → Slots Γ' σ F O
  | _, _, _, [], _, .nil, _, q => q
  | n, _, _, x :: σ, _, .keep k, e, ⟨h, O', t, p, r⟩ => ⟨h, O', t, p, k.slots (fun j v q => by rw [Nat.add_right_comm, Nat.add_assoc]; exact e (j + 1) v (by simpa using q)) r⟩
  | n, _, _, x :: σ, _, .pin k, e, ⟨h, O', t, ⟨v, ev, p⟩, r⟩ => ⟨h, O', t, ⟨v, ev, (e 0 v (by rw [ev]; rfl)).symm, p⟩, k.slots (fun j v q => by rw [Nat.add_right_comm, Nat.add_assoc]; exact e (j + 1) v (by simpa using q)) r⟩
/-- behind it: what was pinned is as it was -/
inductive BackK (vf : Nat → V) : Nat → Ctx → Ctx → Ctx → Prop
  | nil {n} : BackK vf n [] [] []
  | none {n a Γ0 Γn Γo} : BackK vf (n + 1) Γ0 Γn Γo → BackK vf n (a :: Γ0) (none :: Γn) (none :: Γo)
  | nu {n a A Γ0 Γn Γo} : NoT A → BackK vf (n + 1) Γ0 Γn Γo → BackK vf n (a :: Γ0) (some A :: Γn) (some A :: Γo)
  | unpin {n A Γ0 Γn Γo} : Per A → BackK vf (n + 1) Γ0 Γn Γo → BackK vf n (some A :: Γ0) (some (atv (vf n) A) :: Γn) (some A :: Γo)
theorem BackK.slots {vf : Nat → V} {F F2 F' : Hp} (gg : TgOk F') (hT : ∀ a t, F2 a = some (.tup t) → F' a = some (.tup t)) (l : Le F F') : ∀ {n : Nat} {Γ0 Γn Γo : Ctx} {σ0 σ : L2.St} {O0 O : Hp}, BackK vf n Γ0 Γn Γo → (∀ j v, σ0[j]? = some (some v) → vf (n + j) = v) → Slots Γ0 σ0 F O0 → Slots Γn σ F2 O → Slots Γo σ F' O
  | _, _, _, _, _, [], _, _, .nil, _, _, q => ⟨q.1, gg⟩
  | _, _, _, _, [], _ :: _, _, _, k, _, q0, q => by cases k <;> first | exact q | exact q0.elim
  | n, _, _, _, x0 :: σ0, x :: σ, _, _, .none k, e, ⟨_, _, _, _, r0⟩, ⟨h, O', t, p, r⟩ => ⟨h, O', t, p, k.slots gg hT l (fun j v q => by rw [Nat.add_right_comm, Nat.add_assoc]; exact e (j + 1) v (by simpa using q)) r0 r⟩
  | n, _, _, _, x0 :: σ0, x :: σ, _, _, .nu z k, e, ⟨_, _, _, _, r0⟩, ⟨h, O', t, ⟨v, ev, p⟩, r⟩ => ⟨h, O', t, ⟨v, ev, z _ _ _ _ hT p⟩, k.slots gg hT l (fun j v q => by rw [Nat.add_right_comm, Nat.add_assoc]; exact e (j + 1) v (by simpa using q)) r0 r⟩
  | n, _, _, _, x0 :: σ0, x :: σ, _, _, .unpin (A := A) z k, e, ⟨h0, _, _, ⟨v0, ev0, p0⟩, r0⟩, ⟨h, O', t, ⟨v, ev, e1, p⟩, r⟩ => ⟨h, O', t, ⟨v, ev, by
      have a0 := z _ _ _ p0
      have a1 := z _ _ _ p
      subst a0 a1
      have e2 : vf n = v0 := e 0 v0 (by rw [ev0]; rfl)
      rw [e1, e2]
      exact A.mono l p0⟩, k.slots gg hT l (fun j v q => by rw [Nat.add_right_comm, Nat.add_assoc]; exact e (j + 1) v (by simpa using q)) r0 r⟩
section
variable {α β γ δ ι ρ B T S' : Type} {X : Cx} {W : WX} {cl : String → Addr} {Γ Γe : Ctx} {tg e a b c : Expr} {es : List Expr} {pos p : Pos} {ta tb : TE} {k : Nat} {i : Nat} {st : Stmt} {RA : RAs T} {Γb : B → Ctx}
theorem jn_vp (i : Nat) (v : V) {x : Str} (A : α → Asn) {y : α} (hl : Γ[i]? = some (some (pnA v A y)) := by rfl) [pr : PerF A] (hN : X.N[i]? = some x := by rfl) (hv : Vis X.env.scope x := by first | exact Or.inl rfl | exact Or.inr (Or.inl rfl) | exact Or.inr (Or.inr rfl))
    (hd : (x == ("__debug__" : Str)) = false := by decide) (hcd : (x == ("__classdict__" : Str)) = false := by decide) : JN X W cl Γ (.Name x pos) (tVar i) (.ok y) A :=
  (jn_v (pr := ⟨fun x w F h q => pr.per x w F h q.2⟩) i (pnA v A) hl hN hv hd hcd).imp fun _ _ _ _ q => q.2
/-- a statement that reads one's own thing and changes it not -/
theorem js_bor (i : Nat) {t : TS} {Bo C : δ → Asn} {y : δ} [f : FrzF Bo C] [nt : NtF Bo] [pc : PerF C] {m : Fl B T S'} {Γp : (Nat → V) → Ctx} {Γn : S' → (Nat → V) → Ctx} {Γo : S' → Ctx}
    (hp : ∀ vf, PinK vf 0 (Γ.set i (some (C y))) (Γp vf)) (h : ∀ vf, JS X W cl (Γp vf) st t m (fun s => Γn s vf) Γb RA Γe) (nb : NoBk m) (hn : ∀ s vf, (Γn s vf)[i]? = some (some (atv (vf i) (C y))))
    (bk : ∀ s vf, BackK vf 0 (Γ.set i none) ((Γn s vf).set i none) ((Γo s).set i none)) (ho : ∀ s, ((Γo s).set i (some (Bo y))) = Γo s) (hg : ∀ s, ((Γo s).set i none)[i]? = some none) (hl : Γ[i]? = some (some (Bo y)) := by rfl) : JS X W cl Γ st t m Γo Γb RA Γe := by
  refine ⟨(h fun _ => .non).pe, fun σ F O H R D u s q => ?_⟩
  have s0 := s
  obtain ⟨x, g, O1, e', tt, ⟨v, rfl, p⟩, s1⟩ := s.take hl
  have w : Pt (g :: O1 :: F :: R) H := (u.swap).split2 tt
  have w2 : Pt (F :: g :: O1 :: R) H := w.perm (.trans (.cons _ (.swap _ _ _)) (.swap _ _ _))
  have dj : Dj F g := (List.pairwise_cons.mp w2.1).1 g (by simp)
  obtain ⟨F1, l1, l2, w3⟩ := w2.leak
  have s2 : Slots (Γ.set i (some (C y))) σ F1 O1 := by
    have := (s1.mono l1).put' (set_none_at hl) (by rw [e']) (f.frz y v F g F1 p l1 l2) Pt.l_emp
    rw [set_set] at this
    exact this
  obtain ⟨vf, hv⟩ : ∃ vf : Nat → V, ∀ j v, σ[j]? = some (some v) → vf (0 + j) = v := ⟨fun j => match σ[j]? with | some (some v) => v | _ => .non, fun j v e => by simp [e]⟩
  refine (h vf).run σ F1 O1 _ R _ w3 ((hp vf).slots hv s2) ?_
  cases em : m with
  | nx s =>
    rw [em] at q
    intro σ' F2 O' H' l u' s'
    obtain ⟨F', lf, pf, z⟩ := sub_partT (F1 := F) (F2 := F2) (h := g) ((Bo y).cl p) (l2.tr l) dj (l1.tr l)
    obtain ⟨x', h', O2, e2, t2, ⟨v', rfl, ev, pC⟩, s3⟩ := s'.take (hn s vf)
    have eh := pc.per y v' F2 h' pC
    subst eh
    have eo := t2.emp_l
    subst eo
    have evv : v' = v := by rw [ev]; have := hv i v e'; rw [Nat.zero_add] at this; exact this
    subst evv
    have s4 := (bk s vf).slots (s0.tgo.mono lf) (z (fun a t => nt.nt y _ _ _ p a t)) lf hv s1 s3
    have a1 : Pt (F' :: g :: O' :: R) H' := u'.split2 pf
    obtain ⟨c, j, a3⟩ := (a1.perm (l' := g :: O' :: F' :: R) (List.Perm.trans (.swap _ _ _) (.cons _ (.swap _ _ _)))).join2
    have s5 := s4.put' (hg s) e2 (A := Bo y) ((Bo y).mono lf p) j
    rw [set_set, ho] at s5
    exact q σ' F' c H' lf a3.swap s5
  | rt r =>
    rw [em] at q
    intro v F' h' H' l u' p'
    exact q v F' h' H' (l1.tr l) u' p'
  | bk b => exact absurd em (nb b).1
  | ct b => exact absurd em (nb b).2
  | er c =>
    rw [em] at q
    intro σ' F' O' H' l u' s'
    exact q σ' F' O' H' (l1.tr l) u' s'
  | no => rw [em] at q; exact q.elim
theorem js_jl {t : TS} {m : Rs α} {Γ' : α → Ctx} (h : JL X W cl Γ st t m Γ' Γe) : JS (B := B) X W cl Γ st t (m.f fun y => (.nx y : Fl B T α)) Γ' Γb RA Γe := by
  obtain ⟨p, k⟩ := h
  exact ⟨p, fun σ F O H R D u s q => k σ F O H R D u s (q.bindR.mono (fun a _ q => q) fun c q => q)⟩
theorem noBk_nx {s : S'} : NoBk (.nx s : Fl B T S') := fun b => ⟨fun e => (nomatch e), fun e => (nomatch e)⟩
end
end Br
namespace Br
open PySem PySem.Spec L2 PyProof.Rows PySem.AutoSeq1
variable [tgi : Tbs]
def rIns : V → List V → Hp → VK → Prop := fun x vs H Q => ∃ l xs i y, x = .ref l ∧ vs = [.int i, y] ∧ H l = some (.lst xs) ∧ 0 ≤ i ∧ i ≤ xs.length ∧ xs.length + 1 ≤ sizeLine ∧ Q .non (upd H l (.lst (xs.take i.toNat ++ y :: xs.drop i.toNat)))
theorem vals_ins {y : V} {w : Value} (h : RelV y w) : ∀ {xs : List V} {us : List Value} (k : Nat), Vals xs us → Vals (xs.take k ++ y :: xs.drop k) (us.take k ++ w :: us.drop k)
  | _, _, 0, r => .cons h r
  | _, _, _ + 1, .nil => .cons h .nil
  | _, _, k + 1, .cons r rs => .cons r (vals_ins h k rs)
theorem mt_insert {X : Cx} : MtM X "list.insert" rIns := by
  intro pins s σ H x vs v us Q I rx rv h
  obtain ⟨l, xs, i, y, rfl, rfl, hH, h0, h1, hz, q⟩ := h
  cases rx
  obtain ⟨u, w, rfl, ru, rw'⟩ := rv.two
  obtain ⟨t, rfl⟩ := ru
  obtain ⟨z, its, n, r, hl, e⟩ := I.lstM hH
  have hlen := r.length
  have h63 : i < 2 ^ 63 := by have := sizeLine_eq; omega
  have hf : Builtin.List.listFitsIndex i = true := fitsIndex_both (by omega) h63
  refine call_meets F.slot_list_insert ⟨_, e, rfl⟩ F.entry_list_insert (F.args_list_insert_3 _ _ _)
    (list_insert_list_int_val_1 l its.toArray n i t w (by simp [hf]) (by rw [List.size_toArray]; omega)) ⟨e, ?_⟩
  refine ⟨.non, _, I.lset (its' := its.take i.toNat ++ w :: its.drop i.toNat) hH e ?_ (vals_ins rw' i.toNat r) ?_, rfl, q⟩
  · show (its.toArray.extract 0 (if i < 0 then (i + (its.toArray.size : Int)).toNat else min i.toNat its.toArray.size)).push w ++ its.toArray.extract (if i < 0 then (i + (its.toArray.size : Int)).toNat else min i.toNat its.toArray.size) = (its.take i.toNat ++ w :: its.drop i.toNat).toArray
    rw [if_neg (by omega), List.size_toArray, Nat.min_eq_left (by omega)]
    apply Array.toList_inj.mp
    simp
    exact List.take_of_length_le (by simp)
  · rw [List.length_append, List.length_cons, List.length_take, List.length_drop]
    omega
section
variable {α β γ : Type}
def insL (xs : List α) (k : Nat) (y : α) : List α := xs.take k ++ y :: xs.drop k
def insO (xs : List α) (p : Int × α) : Option (Unit × List α) := if 0 ≤ p.1 ∧ p.1 ≤ xs.length ∧ xs.length ≤ 900000 then some ((), insL xs p.1.toNat p.2) else none
theorem op_ins {A : α → Asn} [pf : PerF A] : OpM rIns A (fun p : Int × α => [aI p.1, A p.2]) aU insO := by
  intro xs y z ad vs ws F h' g R H Q e w sp sg kk
  have eh := sp.empE
  subst eh
  obtain ⟨v1, v2, g1, g2, rfl, t, ⟨rfl, e1⟩, p2⟩ := sep2 sg
  have e2 := pf.per _ _ _ _ p2
  subst e1 e2
  have eg := t.emp_r
  subst eg
  unfold insO at e
  by_cases hz : 0 ≤ y.1 ∧ y.1 ≤ xs.length ∧ xs.length ≤ 900000
  case neg => rw [if_neg hz] at e; cases e
  rw [if_pos hz] at e; cases e
  have el : xs.length = vs.length := by have := sp.len; rwa [List.length_map] at this
  refine ⟨ad, vs, y.1, v2, rfl, rfl, w.at1, hz.1, by omega, Nat.le_trans (by omega) (Nat.le_of_lt line6), ?_⟩
  refine kk .non _ F emp emp _ .rfl ?_ ⟨rfl, rfl⟩ (ptP w)
  have s1 : Sep (xs.map A) vs F emp := sp
  have := Sep.append (Sep.sub sp (xs.take y.1.toNat) (vs.take y.1.toNat) (by simp [el]) (fun m => m) (fun m x hx => by
    rw [List.getElem?_take] at hx
    split at hx
    · exact hx
    · cases hx) (fun m v hv hm => by
    rw [List.length_take] at hm
    rw [List.getElem?_take, if_pos (by omega)]; exact hv)) (h' := emp) (Bs := A y.2 :: (xs.drop y.1.toNat).map A) (ws := v2 :: vs.drop y.1.toNat) ⟨emp, emp, .r_emp, p2, Sep.sub sp (xs.drop y.1.toNat) (vs.drop y.1.toNat) (by simp [el]) (fun m => y.1.toNat + m) (fun m x hx => by rwa [List.getElem?_drop] at hx) (fun m v hv hm => by rw [List.getElem?_drop]; exact hv)⟩ .r_emp
  show Sep ((xs.take y.1.toNat ++ y.2 :: xs.drop y.1.toNat).map A) _ F emp
  rw [List.map_append, List.map_cons]
  exact this
end
section
variable {α β γ δ ι τ ρ B T S' : Type} {X : Cx} {W : WX} {cl : String → Addr} {Γ Γe : Ctx} {a b : Expr} {pos p : Pos} {ta tb : TE} {k : Nat}
/-- a pair's part by a number -/
theorem jn_pick2 {K0 : PySem.W.Frag} {A : α → Asn} {Tp : α × α → Asn} [rd : RdT Tp (fun z => [A z.1, A z.2])] [pf : PerF A] {m : Rs (α × α)} {n : Rs Int} (h1 : JN X W cl Γ a ta m Tp) (h2 : JN X W cl Γ b tb n aI) (hs : PlainIx b := by intro _ _; rfl) (hK : X.K = K0 := by rfl) :
    JN X W cl Γ (.Subscript a b pos) (tOp (rIxT K0) ta tb) (m.b fun x => n.b fun y => opt (atI [x.1, x.2] y)) A := by
  subst hK
  exact (JN.bin (f := fun (x : α × α) y => atI [x.1, x.2] y) h1 h2 (fun p q => pe_ix ix_tup p q hs) fun xs i v w F h1 h2 H R Q c e u p q k => by
    obtain ⟨a, ws, h', rfl, sq, lh, sp⟩ := rd.rd _ _ _ _ p
    obtain ⟨rfl, e2⟩ := q
    subst e2
    have u2 : Pt (F :: h1 :: R) H := (u.swap).dropE
    obtain ⟨l1, l2⟩ := le_part u2
    have sp' : Sep ([xs.1, xs.2].map A) ws F h' := sp
    obtain ⟨v, ev, pv⟩ := sp'.idx e
    exact ⟨a, ws, i, v, rfl, rfl, SqT.of (sq H l1 l2), ev, kt_val k u2 fun F' l _ => (A c).mono l pv⟩)
end
end Br
namespace Br
open PySem PySem.Spec L2
variable [tgi : Tbs]
def aE {α β : Type} (A : α → Asn) (B : β → Asn) : α ⊕ β → Asn
  | .inl a => A a
  | .inr b => B b
section
variable {α β γ δ α' β' γ' δ' : Type} {A : α → Asn} {B : β → Asn} {C : γ → Asn} {D : δ → Asn} {A' : α' → Asn} {B' : β' → Asn} {C' : γ' → Asn} {D' : δ' → Asn}
instance [p : PerF A] [q : PerF B] : PerF (aE A B) := ⟨fun x => by cases x; exact p.per _; exact q.per _⟩
instance [p : NofF A] [q : NofF B] : NofF (aE A B) := ⟨fun x => by cases x; exact p.nof _; exact q.nof _⟩
instance {A A' : α → Asn} {B B' : β → Asn} [p : FrzF A A'] [q : FrzF B B'] : FrzF (aE A B) (aE A' B') := ⟨fun x => by cases x; exact p.frz _; exact q.frz _⟩
instance [p : NuF A] [q : NuF B] : NuF (aE A B) := ⟨fun x => by cases x; exact p.nu _; exact q.nu _⟩
instance [p : NtF A] [q : NtF B] : NtF (aE A B) := ⟨fun x => by cases x; exact p.nt _; exact q.nt _⟩
instance [p : NzF A] [q : NzF B] : NzF (aE A B) := ⟨fun x => by cases x; exact p.nz _; exact q.nz _⟩
instance [p : NnF A] [q : NnF B] : NnF (aE A B) := ⟨fun x => by cases x; exact p.nn _; exact q.nn _⟩
instance {As : α → List Asn} {Bs : β → List Asn} [p : RdT A As] [q : RdT B Bs] : RdT (aE A B) (fun x => Sum.elim As Bs x) := ⟨fun x => by cases x; exact p.rd _; exact q.rd _⟩
/-- any value -/
def aAny : Unit → Asn := fun _ => ⟨fun _ _ h => h = emp, fun _ q => q, fun q => q ▸ cl_emp⟩
instance : PerF aAny := ⟨fun _ _ _ _ p => p⟩
instance : NofF aAny := ⟨fun _ _ _ _ _ p => p⟩
instance : FrzF aAny aAny := ⟨fun _ _ _ _ _ _ _ _ => rfl⟩
instance : NuF aAny := ⟨fun _ _ _ _ _ _ p => p⟩
instance : NzF aAny := ⟨fun _ _ _ _ _ _ _ p => p⟩
class TyD (K : PySem.W.Frag) {α : Type} (A : α → Asn) (ty : outParam (α → String)) : Prop where
  is : ∀ x v F h H, (A x).p v F h → Le F H → Le h H → TyX K H v (.type (ty x))
instance (priority := low) {K : PySem.W.Frag} {ty : String} [t : TyF K A ty] : TyD K A (fun _ => ty) := ⟨t.is⟩
instance {K : PySem.W.Frag} {f : α → String} {g : β → String} [t : TyD K A f] [u : TyD K B g] : TyD K (aE A B) (fun x => Sum.elim f g x) := ⟨fun x => by cases x; exact t.is _; exact u.is _⟩
instance {K : PySem.W.Frag} {f : α → String} [t : TyD K A f] : TyD K (aO A) (fun x => x.elim "NoneType" f) := ⟨fun x v F h H p l1 l2 => by
  cases x with
  | none => rw [p.1]; exact TyX.base .non
  | some x => exact t.is x v F h H p l1 l2⟩
/-- what is A x is B (g x) -/
def TCst (A : α → Asn) (B : β → Asn) (g : α → β) : Prop := ∀ x v F h, (A x).p v F h → (B (g x)).p v F h
/-- where f tells y, what is A x is B y -/
def Cst (A : α → Asn) (B : β → Asn) (f : α → Option β) : Prop := ∀ x y v F h, f x = some y → (A x).p v F h → (B y).p v F h
def mapO (f : α → Option β) : List α → Option (List β)
  | [] => some []
  | x :: xs => match f x, mapO f xs with
    | some y, some ys => some (y :: ys)
    | _, _ => none
theorem mapO_ok {f : α → Option β} {g : α → β} : ∀ {xs : List α}, (∀ x ∈ xs, f x = some (g x)) → mapO f xs = some (xs.map g)
  | [], _ => rfl
  | x :: xs, h => by
    unfold mapO
    rw [h x List.mem_cons_self, mapO_ok fun y m => h y (List.mem_cons_of_mem _ m)]
    rfl
theorem t_id : TCst A A (fun x => x) := fun _ _ _ _ p => p
theorem t_any [p : PerF A] : TCst A aAny (fun _ => ()) := fun x v F h q => p.per x v F h q
theorem t_inl {g : α → β} (h : TCst A B g) : TCst A (aE B C) (fun x => .inl (g x)) := h
theorem t_inr {g : α → β} (h : TCst A B g) : TCst A (aE C B) (fun x => .inr (g x)) := h
theorem t_some {g : α → β} (h : TCst A B g) : TCst A (aO B) (fun x => some (g x)) := h
theorem t_O {g : α → β} (h : TCst A B g) : TCst (aO A) (aO B) (fun x => x.map g) := fun x v F hh p => by
  cases x with
  | none => exact p
  | some x => exact h x v F hh p
theorem t_E {g : α → α'} {f : β → β'} (h : TCst A A' g) (k : TCst B B' f) : TCst (aE A B) (aE A' B') (fun x => Sum.map g f x) := fun x => by cases x; exact h _; exact k _
theorem sep_t {g : α → β} (h : TCst A B g) {F : Hp} : ∀ {xs : List α} {vs : List V} {hh : Hp}, Sep (xs.map A) vs F hh → Sep ((xs.map g).map B) vs F hh
  | [], [], _, p => p
  | x :: xs, v :: vs, _, ⟨h1, h2, t, p, r⟩ => ⟨h1, h2, t, h x v F h1 p, sep_t h r⟩
theorem t_L {g : α → β} (h : TCst A B g) : TCst (lA A) (lA B) (fun x => x.map g) := fun _ _ _ _ ⟨e, a, vs, e1, t, r⟩ => ⟨e, a, vs, e1, t, sep_t h r⟩
theorem t_oL {g : α → β} (h : TCst A B g) : TCst (oA A) (oA B) (fun x => x.map g) := fun _ _ _ _ ⟨a, vs, h', e1, t, r⟩ => ⟨a, vs, h', e1, t, sep_t h r⟩
/-- part by part -/
inductive CstL : List Asn → List Asn → Prop
  | nil : CstL [] []
  | cons {A B : Asn} {As Bs : List Asn} : (∀ v F h, A.p v F h → B.p v F h) → CstL As Bs → CstL (A :: As) (B :: Bs)
theorem sep_cl {F : Hp} : ∀ {As Bs : List Asn} {vs : List V} {hh : Hp}, CstL As Bs → Sep As vs F hh → Sep Bs vs F hh
  | _, _, [], _, .nil, p => p
  | _, _, v :: vs, _, .cons k r, ⟨h1, h2, t, p, q⟩ => ⟨h1, h2, t, k v F h1 p, sep_cl r q⟩
theorem aT_cl {As Bs : List Asn} (c : CstL As Bs) : ∀ v F h, (aT As).p v F h → (aT Bs).p v F h := fun _ _ _ ⟨e, a, vs, e1, t, r⟩ => ⟨e, a, vs, e1, t, sep_cl c r⟩
theorem oT_cl {As Bs : List Asn} (c : CstL As Bs) : ∀ v F h, (oT As).p v F h → (oT Bs).p v F h := fun _ _ _ ⟨a, vs, e1, t, r⟩ => ⟨a, vs, e1, t, sep_cl c r⟩
theorem t_t2 {f : α → α'} {g : β → β'} (h : TCst A A' f) (k : TCst B B' g) : TCst (t2 A B) (t2 A' B') (fun x => (f x.1, g x.2)) := fun _ => aT_cl (.cons (h _) (.cons (k _) .nil))
theorem t_o2 {f : α → α'} {g : β → β'} (h : TCst A A' f) (k : TCst B B' g) : TCst (o2 A B) (o2 A' B') (fun x => (f x.1, g x.2)) := fun _ => oT_cl (.cons (h _) (.cons (k _) .nil))
theorem t_t3 {f : α → α'} {g : β → β'} {i : γ → γ'} (h : TCst A A' f) (k : TCst B B' g) (l : TCst C C' i) : TCst (t3 A B C) (t3 A' B' C') (fun x => (f x.1, g x.2.1, i x.2.2)) := fun _ => aT_cl (.cons (h _) (.cons (k _) (.cons (l _) .nil)))
theorem t_o3 {f : α → α'} {g : β → β'} {i : γ → γ'} (h : TCst A A' f) (k : TCst B B' g) (l : TCst C C' i) : TCst (o3 A B C) (o3 A' B' C') (fun x => (f x.1, g x.2.1, i x.2.2)) := fun _ => oT_cl (.cons (h _) (.cons (k _) (.cons (l _) .nil)))
theorem t_t4 {f : α → α'} {g : β → β'} {i : γ → γ'} {j : δ → δ'} (h : TCst A A' f) (k : TCst B B' g) (l : TCst C C' i) (m : TCst D D' j) : TCst (t4 A B C D) (t4 A' B' C' D') (fun x => (f x.1, g x.2.1, i x.2.2.1, j x.2.2.2)) := fun _ => aT_cl (.cons (h _) (.cons (k _) (.cons (l _) (.cons (m _) .nil))))
theorem t_o4 {f : α → α'} {g : β → β'} {i : γ → γ'} {j : δ → δ'} (h : TCst A A' f) (k : TCst B B' g) (l : TCst C C' i) (m : TCst D D' j) : TCst (o4 A B C D) (o4 A' B' C' D') (fun x => (f x.1, g x.2.1, i x.2.2.1, j x.2.2.2)) := fun _ => oT_cl (.cons (h _) (.cons (k _) (.cons (l _) (.cons (m _) .nil))))
theorem t_sum {g : α → γ} {f : β → γ} (h : TCst A C g) (k : TCst B C f) : TCst (aE A B) C (fun x => Sum.elim g f x) := fun x => by cases x; exact h _; exact k _
theorem t_unit : TCst aU (aO A) (fun _ => none) := fun _ _ _ _ p => p
def leftO (f : α → Option γ) : α ⊕ β → Option γ
  | .inl x => f x
  | .inr _ => none
def rightO (f : β → Option γ) : α ⊕ β → Option γ
  | .inl _ => none
  | .inr x => f x
theorem c_of {g : α → β} (h : TCst A B g) : Cst A B (fun x => some (g x)) := fun x y v F hh e p => by cases e; exact h x v F hh p
theorem c_left {f : α → Option γ} (h : Cst A C f) : Cst (aE A B) C (fun x => leftO f x) := fun x y v F hh e p => by
  cases x with
  | inl x => exact h x y v F hh e p
  | inr x => cases e
theorem c_right {f : β → Option γ} (h : Cst B C f) : Cst (aE A B) C (fun x => rightO f x) := fun x y v F hh e p => by
  cases x with
  | inr x => exact h x y v F hh e p
  | inl x => cases e
theorem c_sum {f : α → Option γ} {g : β → Option γ} (h : Cst A C f) (k : Cst B C g) : Cst (aE A B) C (fun x => Sum.elim f g x) := fun x => by cases x; exact h _; exact k _
theorem c_none : Cst A B (fun _ => none) := fun _ _ _ _ _ e => nomatch e
theorem c_get {f : α → Option γ} (h : Cst A C f) : Cst (aO A) C (fun x => x.bind f) := fun x y v F hh e p => by
  cases x with
  | some x => exact h x y v F hh e p
  | none => cases e
theorem c_inl {f : α → Option β} (h : Cst A B f) : Cst A (aE B C) (fun x => (f x).map .inl) := fun x y v F hh e p => by
  dsimp only at e
  cases ef : f x with
  | none => rw [ef] at e; cases e
  | some z => rw [ef] at e; cases e; exact h x z v F hh ef p
theorem c_inr {f : α → Option β} (h : Cst A B f) : Cst A (aE C B) (fun x => (f x).map .inr) := fun x y v F hh e p => by
  dsimp only at e
  cases ef : f x with
  | none => rw [ef] at e; cases e
  | some z => rw [ef] at e; cases e; exact h x z v F hh ef p
theorem c_some {f : α → Option β} (h : Cst A B f) : Cst A (aO B) (fun x => (f x).map some) := fun x y v F hh e p => by
  dsimp only at e
  cases ef : f x with
  | none => rw [ef] at e; cases e
  | some z => rw [ef] at e; cases e; exact h x z v F hh ef p
def omapO (f : α → Option β) : Option α → Option (Option β)
  | none => some none
  | some x => (f x).map some
theorem c_O {f : α → Option β} (h : Cst A B f) : Cst (aO A) (aO B) (fun x => omapO f x) := fun x y v F hh e p => by
  cases x with
  | none => cases e; exact p
  | some x =>
    cases ef : f x with
    | none => simp only [omapO] at e; rw [ef] at e; cases e
    | some z => simp only [omapO] at e; rw [ef] at e; cases e; exact h x z v F hh ef p
theorem sep_c {f : α → Option β} (h : Cst A B f) {F : Hp} : ∀ {xs : List α} {ys : List β} {vs : List V} {hh : Hp}, mapO f xs = some ys → Sep (xs.map A) vs F hh → Sep (ys.map B) vs F hh
  | [], _, [], _, e, p => by cases e; exact p
  | x :: xs, ys, v :: vs, _, e, ⟨h1, h2, t, p, r⟩ => by
    unfold mapO at e
    cases ef : f x with
    | none => rw [ef] at e; cases e
    | some y =>
      cases eg : mapO f xs with
      | none => rw [ef, eg] at e; cases e
      | some zs => rw [ef, eg] at e; cases e; exact ⟨h1, h2, t, h x y v F h1 ef p, sep_c h eg r⟩
theorem c_L {f : α → Option β} (h : Cst A B f) : Cst (lA A) (lA B) (fun x => mapO f x) := fun _ _ _ _ _ e ⟨z, a, vs, e1, t, r⟩ => ⟨z, a, vs, e1, t, sep_c h e r⟩
theorem c_oL {f : α → Option β} (h : Cst A B f) : Cst (oA A) (oA B) (fun x => mapO f x) := fun _ _ _ _ _ e ⟨a, vs, h', e1, t, r⟩ => ⟨a, vs, h', e1, t, sep_c h e r⟩
def pr2 (f : α → Option α') (g : β → Option β') (x : α × β) : Option (α' × β') := (f x.1).bind fun a => (g x.2).map fun b => (a, b)
def pr3 (f : α → Option α') (g : β → Option β') (i : γ → Option γ') (x : α × β × γ) : Option (α' × β' × γ') := (f x.1).bind fun a => (g x.2.1).bind fun b => (i x.2.2).map fun c => (a, b, c)
def pr4 (f : α → Option α') (g : β → Option β') (i : γ → Option γ') (j : δ → Option δ') (x : α × β × γ × δ) : Option (α' × β' × γ' × δ') := (f x.1).bind fun a => (g x.2.1).bind fun b => (i x.2.2.1).bind fun c => (j x.2.2.2).map fun d => (a, b, c, d)
theorem pr2_some {f : α → Option α'} {g : β → Option β'} {x : α × β} {y : α' × β'} (e : pr2 f g x = some y) : f x.1 = some y.1 ∧ g x.2 = some y.2 := by
  unfold pr2 at e
  cases e1 : f x.1 with
  | none => rw [e1] at e; cases e
  | some a =>
    cases e2 : g x.2 with
    | none => rw [e1, e2] at e; cases e
    | some b => rw [e1, e2] at e; cases e; exact ⟨rfl, rfl⟩
theorem pr3_some {f : α → Option α'} {g : β → Option β'} {i : γ → Option γ'} {x : α × β × γ} {y : α' × β' × γ'} (e : pr3 f g i x = some y) : f x.1 = some y.1 ∧ g x.2.1 = some y.2.1 ∧ i x.2.2 = some y.2.2 := by
  unfold pr3 at e
  cases e1 : f x.1 with
  | none => rw [e1] at e; cases e
  | some a =>
    cases e2 : g x.2.1 with
    | none => rw [e1, e2] at e; cases e
    | some b =>
      cases e3 : i x.2.2 with
      | none => rw [e1, e2, e3] at e; cases e
      | some c => rw [e1, e2, e3] at e; cases e; exact ⟨rfl, rfl, rfl⟩
theorem pr4_some {f : α → Option α'} {g : β → Option β'} {i : γ → Option γ'} {j : δ → Option δ'} {x : α × β × γ × δ} {y : α' × β' × γ' × δ'} (e : pr4 f g i j x = some y) : f x.1 = some y.1 ∧ g x.2.1 = some y.2.1 ∧ i x.2.2.1 = some y.2.2.1 ∧ j x.2.2.2 = some y.2.2.2 := by
  unfold pr4 at e
  cases e1 : f x.1 with
  | none => rw [e1] at e; cases e
  | some a =>
    cases e2 : g x.2.1 with
    | none => rw [e1, e2] at e; cases e
    | some b =>
      cases e3 : i x.2.2.1 with
      | none => rw [e1, e2, e3] at e; cases e
      | some c =>
        cases e4 : j x.2.2.2 with
        | none => rw [e1, e2, e3, e4] at e; cases e
        | some d => rw [e1, e2, e3, e4] at e; cases e; exact ⟨rfl, rfl, rfl, rfl⟩
theorem c_t2 {f : α → Option α'} {g : β → Option β'} (h : Cst A A' f) (k : Cst B B' g) : Cst (t2 A B) (t2 A' B') (fun x => pr2 f g x) := fun x y v F hh e => by
  obtain ⟨e1, e2⟩ := pr2_some e
  exact aT_cl (.cons (fun v F q => h _ _ v F q e1) (.cons (fun v F q => k _ _ v F q e2) .nil)) v F hh
theorem c_o2 {f : α → Option α'} {g : β → Option β'} (h : Cst A A' f) (k : Cst B B' g) : Cst (o2 A B) (o2 A' B') (fun x => pr2 f g x) := fun x y v F hh e => by
  obtain ⟨e1, e2⟩ := pr2_some e
  exact oT_cl (.cons (fun v F q => h _ _ v F q e1) (.cons (fun v F q => k _ _ v F q e2) .nil)) v F hh
theorem c_t3 {f : α → Option α'} {g : β → Option β'} {i : γ → Option γ'} (h : Cst A A' f) (k : Cst B B' g) (l : Cst C C' i) : Cst (t3 A B C) (t3 A' B' C') (fun x => pr3 f g i x) := fun x y v F hh e => by
  obtain ⟨e1, e2, e3⟩ := pr3_some e
  exact aT_cl (.cons (fun v F q => h _ _ v F q e1) (.cons (fun v F q => k _ _ v F q e2) (.cons (fun v F q => l _ _ v F q e3) .nil))) v F hh
theorem c_o3 {f : α → Option α'} {g : β → Option β'} {i : γ → Option γ'} (h : Cst A A' f) (k : Cst B B' g) (l : Cst C C' i) : Cst (o3 A B C) (o3 A' B' C') (fun x => pr3 f g i x) := fun x y v F hh e => by
  obtain ⟨e1, e2, e3⟩ := pr3_some e
  exact oT_cl (.cons (fun v F q => h _ _ v F q e1) (.cons (fun v F q => k _ _ v F q e2) (.cons (fun v F q => l _ _ v F q e3) .nil))) v F hh
theorem c_t4 {f : α → Option α'} {g : β → Option β'} {i : γ → Option γ'} {j : δ → Option δ'} (h : Cst A A' f) (k : Cst B B' g) (l : Cst C C' i) (m : Cst D D' j) : Cst (t4 A B C D) (t4 A' B' C' D') (fun x => pr4 f g i j x) := fun x y v F hh e => by
  obtain ⟨e1, e2, e3, e4⟩ := pr4_some e
  exact aT_cl (.cons (fun v F q => h _ _ v F q e1) (.cons (fun v F q => k _ _ v F q e2) (.cons (fun v F q => l _ _ v F q e3) (.cons (fun v F q => m _ _ v F q e4) .nil)))) v F hh
theorem c_o4 {f : α → Option α'} {g : β → Option β'} {i : γ → Option γ'} {j : δ → Option δ'} (h : Cst A A' f) (k : Cst B B' g) (l : Cst C C' i) (m : Cst D D' j) : Cst (o4 A B C D) (o4 A' B' C' D') (fun x => pr4 f g i j x) := fun x y v F hh e => by
  obtain ⟨e1, e2, e3, e4⟩ := pr4_some e
  exact oT_cl (.cons (fun v F q => h _ _ v F q e1) (.cons (fun v F q => k _ _ v F q e2) (.cons (fun v F q => l _ _ v F q e3) (.cons (fun v F q => m _ _ v F q e4) .nil)))) v F hh
end
def frm : PyData → Nat
  | .none => 0
  | .bool _ => 1
  | .int _ => 1
  | .str _ => 2
  | .list _ => 3
  | .dict _ => 4
  | .tuple xs => 5 + xs.length
theorem eqvAll_len : ∀ {xs ys : List PyData}, PyData.eqvAll xs ys = true → xs.length = ys.length
  | [], [], _ => rfl
  | [], _ :: _, h => by simp [PyData.eqvAll] at h
  | _ :: _, [], h => by simp [PyData.eqvAll] at h
  | x :: xs, y :: ys, h => by
    rw [PyData.eqvAll, Bool.and_eq_true] at h
    rw [List.length_cons, List.length_cons, eqvAll_len h.2]
theorem eqv_tup {xs ys : List PyData} (h : xs.length ≠ ys.length) : PyData.eqv (.tuple xs) (.tuple ys) = false := by
  cases q : PyData.eqv (.tuple xs) (.tuple ys) with
  | false => rfl
  | true =>
    rw [show PyData.eqv (.tuple xs) (.tuple ys) = PyData.eqvAll xs ys by rw [PyData.eqv]] at q
    exact absurd (eqvAll_len q) h
theorem eqv_frm (d e : PyData) (h : frm d ≠ frm e) : PyData.eqv d e = false := by
  cases d <;> cases e <;> first
    | exact absurd rfl h
    | exact eqv_tup fun z => h (by show 5 + _ = 5 + _; rw [z])
    | simp [PyData.eqv]
class NeN (a b : Nat) : Prop where
  ne : a ≠ b
instance {n : Nat} : NeN 0 (n + 1) := ⟨by omega⟩
instance {n : Nat} : NeN (n + 1) 0 := ⟨by omega⟩
instance {a b : Nat} [h : NeN a b] : NeN (a + 1) (b + 1) := ⟨by have := h.ne; omega⟩
class Dsj (n m : List Nat) : Prop where
  dj : ∀ k, k ∈ n → k ∉ m
class Off (a : Nat) (m : List Nat) : Prop where
  off : a ∉ m
instance {a : Nat} : Off a [] := ⟨by simp⟩
instance {a b : Nat} {m : List Nat} [h : NeN a b] [k : Off a m] : Off a (b :: m) := ⟨by have := h.ne; have := k.off; simp; exact ⟨‹_›, ‹_›⟩⟩
instance {a : Nat} {n m : List Nat} [h : Off a n] [k : Off a m] : Off a (n ++ m) := ⟨by have := h.off; have := k.off; simp; exact ⟨‹_›, ‹_›⟩⟩
instance {k n m : List Nat} [h : Dsj n k] [l : Dsj m k] : Dsj (n ++ m) k := ⟨fun x mx => by
  rcases List.mem_append.mp mx with mx | mx
  · exact h.dj x mx
  · exact l.dj x mx⟩
instance {m : List Nat} : Dsj [] m := ⟨by simp⟩
instance {a : Nat} {n m : List Nat} [h : Off a m] [k : Dsj n m] : Dsj (a :: n) m := ⟨fun x mx => by
  rcases List.mem_cons.mp mx with rfl | mx
  · exact h.off
  · exact k.dj x mx⟩
section
variable {α β γ δ : Type}
instance (priority := 50) instDatOL {K : PySem.W.Frag} [DecidableEq α] {L : List α → Asn} {A : α → Asn} [l : LsD L A] [d : DatO K A] : DatO K L where
  dat xs := .list (xs.map d.dat)
  dep := d.dep + 1
  ok xs := xs.all d.ok
  is := fun xs v F h H p lf lh => by
    obtain ⟨a, vs, h', rfl, sq, l', sp⟩ := (l.rd K).rd xs v F h p
    have : ∀ {xs : List α} {vs : List V} {h : Hp}, Sep (xs.map A) vs F h → Le h H → DpAll K H vs (xs.map d.dat) := fun {xs} => by
      induction xs with
      | nil => intro vs h s _; cases vs with
        | nil => exact .nil
        | cons => cases s
      | cons x xs ih => intro vs h s lh; cases vs with
        | nil => cases s
        | cons v vs =>
          obtain ⟨h1, h2, t, p, r⟩ := s
          exact .cons (d.is x v F h1 H p lf ((t.le (by simp)).tr lh)) (ih r ((t.le (by simp)).tr lh))
    exact .lst (sq H lf lh) (this sp (l'.tr lh))
  lay := fun xs h => by
    show (PyData.list (xs.map d.dat)).canLay0 = true
    unfold PyData.canLay0
    induction xs with
    | nil => rfl
    | cons x xs ih =>
      rw [List.all_cons, Bool.and_eq_true] at h
      simp [PyData.canLayAll0, d.lay x h.1, ih h.2]
  low := fun xs => by
    show (PyData.list (xs.map d.dat)).depth ≤ d.dep + 1
    have : ∀ xs : List α, PyData.depthAll (xs.map d.dat) ≤ d.dep := fun xs => by
      induction xs with
      | nil => simp [PyData.depthAll]
      | cons x xs ih => have := d.low x; simp [PyData.depthAll]; omega
    have := this xs
    simp [PyData.depth]; omega
  eq := fun xs ys => by
    show PyData.eqv (.list (xs.map d.dat)) (.list (ys.map d.dat)) = _
    rw [PyData.eqv]
    induction xs generalizing ys with
    | nil => cases ys <;> simp [PyData.eqvAll]
    | cons x xs ih => cases ys with
      | nil => simp [PyData.eqvAll]
      | cons y ys =>
        rw [List.map_cons, List.map_cons, PyData.eqvAll, d.eq, ih ys]
        by_cases h1 : x = y <;> by_cases h2 : xs = ys <;> simp [h1, h2]
instance (priority := 50) {K : PySem.W.Frag} [DecidableEq α] [DecidableEq β] [DecidableEq γ] {A : α → Asn} {C : β → Asn} {E : γ → Asn} [d : DatO K A] [d' : DatO K C] [d2 : DatO K E] : DatO K (t3 A C E) :=
  ⟨fun x => .tuple [d.dat x.1, d'.dat x.2.1, d2.dat x.2.2], max d.dep (max d'.dep d2.dep) + 1, fun x => d.ok x.1 && (d'.ok x.2.1 && d2.ok x.2.2), fun x v F h H p lf lh => by
    obtain ⟨a, vs, h', rfl, sq, l', sp⟩ := (inferInstance : RdT (t3 A C E) (fun x => [A x.1, C x.2.1, E x.2.2])).rd x v F h p
    obtain ⟨v1, v2, v3, h1, h2, h3, rfl, m1, m2, m3, p1, p2, p3⟩ : ∃ v1 v2 v3 h1 h2 h3, vs = [v1, v2, v3] ∧ Le h1 h' ∧ Le h2 h' ∧ Le h3 h' ∧ (A x.1).p v1 F h1 ∧ (C x.2.1).p v2 F h2 ∧ (E x.2.2).p v3 F h3 := by
      match vs, sp with
      | [v1, v2, v3], ⟨h1, g1, t1, p1, h2, g2, t2, p2, h3, g3, t3, p3, _⟩ =>
        exact ⟨v1, v2, v3, h1, h2, h3, rfl, t1.le (by simp), (t2.le (by simp)).tr (t1.le (by simp)), (t3.le (by simp)).tr ((t2.le (by simp)).tr (t1.le (by simp))), p1, p2, p3⟩
    exact .tup (SqT.of (sq H lf lh)) (.cons (d.is _ _ _ _ _ p1 lf (m1.tr (l'.tr lh))) (.cons (d'.is _ _ _ _ _ p2 lf (m2.tr (l'.tr lh))) (.cons (d2.is _ _ _ _ _ p3 lf (m3.tr (l'.tr lh))) .nil))),
   fun x h => by
    rw [Bool.and_eq_true, Bool.and_eq_true] at h
    simp [PyData.canLay0, PyData.canLayAll0, d.lay _ h.1, d'.lay _ h.2.1, d2.lay _ h.2.2], fun x => by have := d.low x.1; have := d'.low x.2.1; have := d2.low x.2.2; simp [PyData.depth, PyData.depthAll]; omega, fun x y => by
    simp only [PyData.eqv, PyData.eqvAll, d.eq, d'.eq, d2.eq]
    obtain ⟨x1, x2, x3⟩ := x
    obtain ⟨y1, y2, y3⟩ := y
    by_cases h1 : x1 = y1 <;> by_cases h2 : x2 = y2 <;> by_cases h3 : x3 = y3 <;> simp [h1, h2, h3]⟩
instance (priority := 50) {K : PySem.W.Frag} [DecidableEq α] [DecidableEq β] [DecidableEq γ] [DecidableEq δ] {A : α → Asn} {C : β → Asn} {E : γ → Asn} {G : δ → Asn} [d : DatO K A] [d' : DatO K C] [d2 : DatO K E] [d3 : DatO K G] : DatO K (t4 A C E G) :=
  ⟨fun x => .tuple [d.dat x.1, d'.dat x.2.1, d2.dat x.2.2.1, d3.dat x.2.2.2], max d.dep (max d'.dep (max d2.dep d3.dep)) + 1, fun x => d.ok x.1 && (d'.ok x.2.1 && (d2.ok x.2.2.1 && d3.ok x.2.2.2)), fun x v F h H p lf lh => by
    obtain ⟨a, vs, h', rfl, sq, l', sp⟩ := (inferInstance : RdT (t4 A C E G) (fun x => [A x.1, C x.2.1, E x.2.2.1, G x.2.2.2])).rd x v F h p
    obtain ⟨v1, v2, v3, v4, h1, h2, h3, h4, rfl, m1, m2, m3, m4, p1, p2, p3, p4⟩ : ∃ v1 v2 v3 v4 h1 h2 h3 h4, vs = [v1, v2, v3, v4] ∧ Le h1 h' ∧ Le h2 h' ∧ Le h3 h' ∧ Le h4 h' ∧ (A x.1).p v1 F h1 ∧ (C x.2.1).p v2 F h2 ∧ (E x.2.2.1).p v3 F h3 ∧ (G x.2.2.2).p v4 F h4 := by
      match vs, sp with
      | [v1, v2, v3, v4], ⟨h1, g1, t1, p1, h2, g2, t2, p2, h3, g3, t3, p3, h4, g4, t4, p4, _⟩ =>
        have k2 := (t2.le (by simp) : Le g2 g1).tr (t1.le (by simp) : Le g1 h')
        exact ⟨v1, v2, v3, v4, h1, h2, h3, h4, rfl, t1.le (by simp), (t2.le (by simp)).tr (t1.le (by simp)), (t3.le (by simp)).tr k2, (t4.le (by simp)).tr ((t3.le (by simp) : Le g3 g2).tr k2), p1, p2, p3, p4⟩
    exact .tup (SqT.of (sq H lf lh)) (.cons (d.is _ _ _ _ _ p1 lf (m1.tr (l'.tr lh))) (.cons (d'.is _ _ _ _ _ p2 lf (m2.tr (l'.tr lh))) (.cons (d2.is _ _ _ _ _ p3 lf (m3.tr (l'.tr lh))) (.cons (d3.is _ _ _ _ _ p4 lf (m4.tr (l'.tr lh))) .nil)))),
   fun x h => by
    rw [Bool.and_eq_true, Bool.and_eq_true, Bool.and_eq_true] at h
    simp [PyData.canLay0, PyData.canLayAll0, d.lay _ h.1, d'.lay _ h.2.1, d2.lay _ h.2.2.1, d3.lay _ h.2.2.2], fun x => by have := d.low x.1; have := d'.low x.2.1; have := d2.low x.2.2.1; have := d3.low x.2.2.2; simp [PyData.depth, PyData.depthAll]; omega, fun x y => by
    simp only [PyData.eqv, PyData.eqvAll, d.eq, d'.eq, d2.eq, d3.eq]
    obtain ⟨x1, x2, x3, x4⟩ := x
    obtain ⟨y1, y2, y3, y4⟩ := y
    by_cases h1 : x1 = y1 <;> by_cases h2 : x2 = y2 <;> by_cases h3 : x3 = y3 <;> by_cases h4 : x4 = y4 <;> simp [h1, h2, h3, h4]⟩
/-- the form of its data -/
class FmD (K : PySem.W.Frag) {α : Type} (A : α → Asn) [DecidableEq α] [d : DatO K A] (n : outParam (List Nat)) : Prop where
  fm : ∀ x, frm (d.dat x) ∈ n
instance {K : PySem.W.Frag} : FmD K aI [1] := ⟨fun _ => by show 1 ∈ [1]; simp⟩
instance {K : PySem.W.Frag} : FmD K aB [1] := ⟨fun _ => by show 1 ∈ [1]; simp⟩
instance {K : PySem.W.Frag} : FmD K aS [2] := ⟨fun _ => by show 2 ∈ [2]; simp⟩
instance {K : PySem.W.Frag} [DecidableEq α] {A : α → Asn} [d : DatF K A] : FmD K (lA A) [3] := ⟨fun _ => by show 3 ∈ [3]; simp⟩
instance {K : PySem.W.Frag} [DecidableEq α] {A : α → Asn} [d : DatO K A] : FmD K (lA A) (d := instDatOL) [3] := ⟨fun _ => by show 3 ∈ [3]; simp⟩
section
variable {K : PySem.W.Frag} [DecidableEq α] [DecidableEq β] [DecidableEq γ] [DecidableEq δ] {A : α → Asn} {C : β → Asn} {E : γ → Asn} {G : δ → Asn}
instance [d : DatF K A] [d' : DatF K C] : FmD K (t2 A C) (d := instDatOOfDatF) [7] := ⟨fun _ => by show 7 ∈ [7]; simp⟩
instance [d : DatO K A] [d' : DatO K C] : FmD K (t2 A C) [7] := ⟨fun _ => by show 7 ∈ [7]; simp⟩
instance [d : DatF K A] [d' : DatF K C] [d2 : DatF K E] : FmD K (t3 A C E) (d := instDatOOfDatF) [8] := ⟨fun _ => by show 8 ∈ [8]; simp⟩
instance [d : DatO K A] [d' : DatO K C] [d2 : DatO K E] : FmD K (t3 A C E) [8] := ⟨fun _ => by show 8 ∈ [8]; simp⟩
instance [d : DatO K A] [d' : DatO K C] [d2 : DatO K E] [d3 : DatO K G] : FmD K (t4 A C E G) [9] := ⟨fun _ => by show 9 ∈ [9]; simp⟩
instance (priority := 50) instDatOE {n m : List Nat} [d : DatO K A] [d' : DatO K C] [f : FmD K A n] [g : FmD K C m] [j : Dsj n m] : DatO K (aE A C) where
  dat x := Sum.elim d.dat d'.dat x
  dep := max d.dep d'.dep
  ok x := Sum.elim d.ok d'.ok x
  is := fun x => by cases x; exact d.is _; exact d'.is _
  lay := fun x => by cases x; exact d.lay _; exact d'.lay _
  low := fun x => by
    cases x with
    | inl a => exact Nat.le_trans (d.low a) (Nat.le_max_left _ _)
    | inr a => exact Nat.le_trans (d'.low a) (Nat.le_max_right _ _)
  eq := fun x y => by
    cases x with
    | inl a => cases y with
      | inl b => show PyData.eqv (d.dat a) (d.dat b) = _; rw [d.eq]; simp
      | inr b =>
        show PyData.eqv (d.dat a) (d'.dat b) = _
        rw [eqv_frm (d.dat a) (d'.dat b) fun z => j.dj _ (f.fm a) (by rw [z]; exact g.fm b)]; simp
    | inr a => cases y with
      | inr b => show PyData.eqv (d'.dat a) (d'.dat b) = _; rw [d'.eq]; simp
      | inl b =>
        show PyData.eqv (d'.dat a) (d.dat b) = _
        rw [eqv_frm (d'.dat a) (d.dat b) fun z => j.dj _ (f.fm b) (by rw [← z]; exact g.fm a)]; simp
instance {n m : List Nat} [d : DatO K A] [d' : DatO K C] [f : FmD K A n] [g : FmD K C m] [j : Dsj n m] : FmD K (aE A C) (d := instDatOE) (n ++ m) := ⟨fun x => by
  cases x with
  | inl a => exact List.mem_append_left _ (f.fm a)
  | inr a => exact List.mem_append_right _ (g.fm a)⟩
example : DatO K (t2 aS (lA (aE (lA aI) aI))) := inferInstance
example : DatO K (aE (t2 aI aS) (aE (t3 aI aS (lA aI)) aI)) := inferInstance
example : DatO K (aE (t2 aI aI) aI) := inferInstance
end
end
section
variable {α β γ δ ι τ ρ B T S' : Type} {X : Cx} {W : WX} {cl : String → Addr} {Γ Γe Γt : Ctx} {tg e a b c : Expr} {es : List Expr} {pos p : Pos} {ta tb : TE} {k : Nat} {A : α → Asn} {C : β → Asn}
theorem jn_tcst {m : Rs α} {g : α → β} (h : JN X W cl Γ e ta m A) (c : TCst A C g) : JN X W cl Γ e ta (m.b fun x => .ok (g x)) C := JN.map g h c
theorem jn_cst {m : Rs α} {f : α → Option β} (h : JN X W cl Γ e ta m A) (c : Cst A C f) : JN X W cl Γ e ta (m.b fun x => opt (f x)) C :=
  JN.cast (fun x => opt (f x)) h (fun a b v F hh e p => by
    cases ef : f a with
    | none => rw [ef] at e; cases e
    | some y => rw [ef] at e; cases e; exact c a b v F hh ef p) fun a c e => by
    cases ef : f a with
    | none => rw [ef] at e; cases e
    | some y => rw [ef] at e; cases e
theorem jp_cst {S : δ → Asn} {d0 : δ} {i : Nat} {w : Option V} {m : Rs ι} {get : ι → α} {put : ι → α → δ} (f : α → Option β) (g : β → α) (h : JP X W cl Γ i w S d0 e ta m A get put) (c : Cst A C f) (c' : TCst C A g) :
    JP X W cl Γ i w S d0 e ta (m.b fun x => (opt (f (get x))).b fun y => .ok (x, y)) C (fun x => x.2) (fun x y => put x.1 (g y)) := by
  obtain ⟨pa, hl, ka⟩ := h
  refine ⟨pa, hl, fun σ F O H R Q u s v0 h0 O' e0 t p q => ka σ F O H R _ u s v0 h0 O' e0 t p (q.bind.mono (fun x _ q v F1 H1 l1 u1 ln => ?_) fun c q => q)⟩
  obtain ⟨y, ey, q⟩ := opt_out q.bind
  obtain ⟨hp, hc, tt, pp, kk⟩ := ln
  exact q v F1 H1 l1 u1 ⟨hp, hc, tt, c _ y v F1 hp ey pp, fun z F2 h2 h3 l2 pz t3 => kk (g z) F2 h2 h3 l2 (c' z v F2 h2 pz) t3⟩
theorem je_tcst {m : Rs α} {g : α → β} {Γ2 : Ctx} (h : JE X W cl Γ e ta m (fun _ => Γ2) A Γe) (c : TCst A C g) : JE X W cl Γ e ta (m.b fun x => .ok (g x)) (fun _ => Γ2) C Γe := by
  obtain ⟨p, r⟩ := h
  exact ⟨p, fun σ F O H R Q u s q => r σ F O H R Q u s (q.bind.mono (fun a _ q v F' O' h H' le u s' p => q v F' O' h H' le u s' (c a v F' h p)) fun c q => q)⟩
theorem je_cst {m : Rs α} {f : α → Option β} {Γ2 : Ctx} (h : JE X W cl Γ e ta m (fun _ => Γ2) A Γe) (c : Cst A C f) : JE X W cl Γ e ta (m.b fun x => opt (f x)) (fun _ => Γ2) C Γe := by
  obtain ⟨p, r⟩ := h
  refine ⟨p, fun σ F O H R Q u s q => r σ F O H R Q u s (q.bind.mono (fun a _ q v F' O' h H' le u s' p => ?_) fun c q => q)⟩
  obtain ⟨y, ey, q⟩ := opt_out q
  exact q v F' O' h H' le u s' (c a y v F' h ey p)
theorem jb_cst (i : Nat) [ne : Nonempty β] {sts : List Stmt} {t : TS} {x : α} {f : α → Option β} {m : β → Fl B T S'} {Γn : S' → Ctx} {Γb : B → Ctx} {RA : RAs T} (c : Cst A C f) (h : ∀ y, JB X W cl (Γ.set i (some (C y))) sts t (m y) Γn Γb RA Γe) (hl : Γ[i]? = some (some (A x)) := by rfl) :
    JB X W cl Γ sts t ((opt (f x)).f fun y => m y) Γn Γb RA Γe := by
  refine ⟨(h (Classical.choice ne)).pe, fun σ F O H R D u s q => ?_⟩
  obtain ⟨y, ey, q⟩ := opt_out q.bindR
  refine (h y).run σ F O H R D u ?_ q
  obtain ⟨v, g, O', e', t, ⟨w, rfl, p⟩, s'⟩ := s.take hl
  have := s'.put' (set_none_at hl) e' (c x y w F g ey p) t
  rwa [set_set] at this
/-- isinstance, one type, where it depends -/
theorem jn_isiD {K0 : PySem.W.Frag} {T : Str} {n : String} {ty : α → String} (r : α → Bool) {A : α → Asn} [tf : TyD K0 A ty] {m : Rs α} {p2} (hm : X.mg "isinstance" = none) (h : JN X W cl Γ e ta m A) (hmT : X.mg T = none) (hb : bootBuiltins T = some (.type n)) (hk : ∀ x, kitB (ty x) n = some (r x)) (hg : Gl X "isinstance" := by rfl) (hgT : Gl X T := by rfl) (hn : T ≠ "__name__" := by decide) (hd : (T == ("__debug__" : Str)) = false := by decide)
    (hs : starEach [e, .Name T p2] X.env = (false, eval e X.env) :: starEach [.Name T p2] X.env := by rfl) (hs2 : starEach [.Name T p2] X.env = (false, eval (.Name T p2) X.env) :: starEach [] X.env := by rfl) (hpl : (backTo pos (starEach [.Name T p2] X.env)).any (·.1) = false := by rfl) (hK : X.K = K0 := by rfl) :
    JN X W cl Γ (.Call (.Name "isinstance" p) [e, .Name T p2] [] pos) (tCB (rIsi K0) (tCons ta (tCons (tC (.ty n)) tNil))) (m.b fun x => .ok (r x)) aB := by
  subst hK
  have h2 : JN X W cl Γ (.Name T p2) (tC (.ty n)) (.ok ()) (fun _ => aV (.ty n)) := jn_c (pe_bltn hgT hmT hb rfl hn hd) fun F => ⟨rfl, rfl⟩
  have e1 : (m.b fun x => (.ok (r x) : Rs Bool)) = ((m.b fun x => (Rs.ok ()).b fun y => .ok (x, y)).b fun q => opt (some (r q.1))) := by cases m <;> rfl
  rw [e1]
  exact JN.args (f := fun q : α × Unit => some (r q.1)) (jns_cons h (jns_one h2 hs2) hs) (fun q => pe_callB call_isi hg hm PyProof.Rows.boot_isinstance q (he := hs) (hpl := hpl)) fun q vs F h H R Q c e u sp k => by
    obtain ⟨v, w, h1, h2, rfl, t, p1, ⟨rfl, e2⟩⟩ := sep2 sp
    obtain ⟨l1, l2⟩ := le_part u
    refine ⟨v, .ty n, .type (ty q.1), .type n, r q.1, rfl, .ty n, tf.is _ _ _ _ H p1 l1 ((t.le (by simp)).tr l2), kit_ty (hk q.1), ?_⟩
    cases e
    exact kt_val k u fun F' _ _ => ⟨rfl, rfl⟩
end
end Br
namespace Br
open PySem PySem.Spec L2
variable [tgi : Tbs]
section
variable {α β γ δ ε ζ ι τ ρ B T S' : Type} {X : Cx} {W : WX} {cl : String → Addr} {Γ Γe Γt : Ctx} {tg e a b c : Expr} {es : List Expr} {pos p : Pos} {ta tb : TE} {k : Nat}
theorem sepq3 {A B C : Asn} {vs : List V} {F h : Hp} (sp : Sep [A, B, C] vs F h) : ∃ u v w h1 h2 h3, vs = [u, v, w] ∧ Pt [h1, h2, h3] h ∧ A.p u F h1 ∧ B.p v F h2 ∧ C.p w F h3 := by
  match vs, sp with
  | [u, v, w], ⟨h1, g1, t1, p1, h2, g2, t2, p2, h3, g3, t3, p3, e⟩ =>
    have e : g3 = emp := e
    subst e
    have := t3.emp_r
    subst this
    exact ⟨u, v, w, h1, h2, g2, rfl, (t1.swap.unfold t2).perm (List.perm_append_comm (l₁ := [h2, g2]) (l₂ := [h1])), p1, p2, p3⟩
theorem jl_three {K0 : PySem.W.Frag} (i j l : Nat) {x y z' : Str} {px py pz : Pos} {kk} {Tp : α → Asn} (A : δ → Asn) (C : ε → Asn) (D : ζ → Asn) (g1 : α → δ) (g2 : α → ε) (g3 : α → ζ) [rd : RdT Tp (fun z => [A (g1 z), C (g2 z), D (g3 z)])] {m : Rs α} {Γ' : α → Ctx} (G : Gd X W k) (he : JE X W cl Γ e ta m Γ' Tp Γe) (hl : ∀ a, Nat.blt i (Γ' a).length = true := by intro _; rfl) (hl2 : ∀ a, Nat.blt j (Γ' a).length = true := by intro _; rfl) (hl3 : ∀ a, Nat.blt l (Γ' a).length = true := by intro _; rfl)
    (hi : X.N[i]? = some x := by rfl) (hx : Loc X.env.scope x := by first | exact Or.inl rfl | exact Or.inr rfl) (hj : X.N[j]? = some y := by rfl) (hy : Loc X.env.scope y := by first | exact Or.inl rfl | exact Or.inr rfl) (hk : X.N[l]? = some z' := by rfl) (hz : Loc X.env.scope z' := by first | exact Or.inl rfl | exact Or.inr rfl)
    (hf : X.fn x = true ∨ X.env.scope.names.lookup x = some .local := by first | exact .inl rfl | exact .inr rfl) (hf2 : X.fn y = true ∨ X.env.scope.names.lookup y = some .local := by first | exact .inl rfl | exact .inr rfl) (hf3 : X.fn z' = true ∨ X.env.scope.names.lookup z' = some .local := by first | exact .inl rfl | exact .inr rfl)
    (hs1 : (assignEach [.Name x px, .Name y py, .Name z' pz] X.env).map (·.2) = assign (.Name x px) X.env :: (assignEach [.Name y py, .Name z' pz] X.env).map (·.2) := by rfl) (hs2 : (assignEach [.Name y py, .Name z' pz] X.env).map (·.2) = assign (.Name y py) X.env :: (assignEach [.Name z' pz] X.env).map (·.2) := by rfl) (hs3 : (assignEach [.Name z' pz] X.env).map (·.2) = assign (.Name z' pz) X.env :: (assignEach [] X.env).map (·.2) := by rfl)
    (hn : (assignEach [.Name x px, .Name y py, .Name z' pz] X.env).length = 3 := by rfl) (hst : (assignEach [.Name x px, .Name y py, .Name z' pz] X.env).findIdx? (·.1) = none := by rfl)
    (hsw : swapsWithSole [.Tuple [.Name x px, .Name y py, .Name z' pz] kk p] e pos.line X.env = pure false := by rfl) (hw : swappedStores [.Tuple [.Name x px, .Name y py, .Name z' pz] kk p] e X.env = pure none := by rfl)
    (ha : (assignEach [.Tuple [.Name x px, .Name y py, .Name z' pz] kk p] X.env).map (·.2) = [assign (.Tuple [.Name x px, .Name y py, .Name z' pz] kk p) X.env] := by rfl) (hK : X.K = K0 := by rfl) :
    JL X W cl Γ (.Assign [.Tuple [.Name x px, .Name y py, .Name z' pz] kk p] e pos) (tAsg ta (gTup K0 3 (gCons (gName i) (gCons (gName j) (gCons (gName l) gNil))))) m (fun z => (((Γ' z).set i (some (A (g1 z)))).set j (some (C (g2 z)))).set l (some (D (g3 z)))) Γe := by
  subst hK
  obtain ⟨pe, ke⟩ := he
  refine ⟨ps_asg pe (pg_tup G.calm (pgs_cons (pg_name G.nd hi hx hf) (pgs_cons (pg_name G.nd hj hy hf2) (pgs_cons (pg_name G.nd hk hz hf3) pgs_nil hs3) hs2) hs1) hn hst) hsw hw ha, fun σ F O H R D' u s q => ke σ F O H R _ u s (q.mono (fun z _ q v F1 O1 h H1 l1 u1 s1 p1 => ?_) fun c q F' O' H' => q σ F' O' H')⟩
  obtain ⟨a, vs, h', rfl, sq, lh, sp⟩ := rd.rd _ _ _ _ p1
  obtain ⟨v1, v2, v3, h1, h2, h3, rfl, t, p1, p2, p3⟩ := sepq3 sp
  have sH := SqT.of (K := X.K) (sq H1 (u1.le (by simp)) (u1.le (by simp)))
  refine ⟨a, [v1, v2, v3], rfl, sH, rfl, v1, [v2, v3], rfl, v2, [v3], rfl, v3, [], rfl, rfl, ?_⟩
  have dj : Dj emp h' := fun _ => .inl rfl
  obtain ⟨h0, _, ph⟩ := sub_part (F1 := emp) (F2 := h) (h := h') (Sep.cl sp) lh dj emp_le
  have w1 : Pt (h0 :: h' :: F1 :: O1 :: R) H1 := (u1.perm (l' := h :: F1 :: O1 :: R) (.trans (.cons _ (.swap _ _ _)) (.swap _ _ _))).split2 ph
  have w2 : Pt (F1 :: h0 :: h' :: O1 :: R) H1 := w1.perm (List.Perm.trans (.cons _ (.swap _ _ _)) (.swap _ _ _))
  obtain ⟨F2, l2, _, w3⟩ := w2.leak
  have w4 : Pt (h1 :: h2 :: h3 :: F2 :: O1 :: R) H1 := (w3.swap).unfold t
  have w5 : Pt (F2 :: O1 :: h1 :: h2 :: h3 :: R) H1 := w4.perm ((List.perm_append_comm (l₁ := [h1, h2, h3]) (l₂ := [F2, O1])).append_right R)
  obtain ⟨F3, O3, l3, w6, s3⟩ := put_at (s1.mono l2) (Nat.blt_eq.mp (hl z)) ((A (g1 z)).mono l2 p1) w5
  obtain ⟨F4, O4, l4, w7, s4⟩ := put_at s3 (i := j) (A := C (g2 z)) (v := v2) (by rw [List.length_set]; exact Nat.blt_eq.mp (hl2 z)) ((C (g2 z)).mono (l2.tr l3) p2) w6
  obtain ⟨F5, O5, l5, w8, s5⟩ := put_at s4 (i := l) (A := D (g3 z)) (v := v3) (by rw [List.length_set, List.length_set]; exact Nat.blt_eq.mp (hl3 z)) ((D (g3 z)).mono (l2.tr (l3.tr l4)) p3) w7
  exact q _ F5 O5 H1 (l1.tr (l2.tr (l3.tr (l4.tr l5)))) w8 s5
/-- a, b = x, y -/
theorem jl_par (i j : Nat) {x y : Str} {e1 e2 : Expr} {px py pt pt2 : Pos} {kt k2} {t : TA} (A : δ → Asn) (C : ε → Asn) {m : Rs (δ × ε)} (G : Gd X W k) (we : Wk Γ Γe) (h : JNs X W cl Γ [e1, e2] t m (fun z => [A z.1, C z.2])) (hl : Nat.blt i Γ.length = true := by rfl) (hl2 : Nat.blt j Γ.length = true := by rfl)
    (hij : i ≠ j := by decide) (hi : X.N[i]? = some x := by rfl) (hj : X.N[j]? = some y := by rfl) (hx : X.env.scope.names.lookup x = some .local := by rfl) (hy : X.env.scope.names.lookup y = some .local := by rfl)
    (hw : swappedStores [.Tuple [.Name x px, .Name y py] kt pt] (.Tuple [e1, e2] k2 pt2) X.env = pure (some [x, y]) := by rfl) (hs : swapsWithSole [.Tuple [.Name x px, .Name y py] kt pt] (.Tuple [e1, e2] k2 pt2) pos.line X.env = pure false := by rfl) :
    JL X W cl Γ (.Assign [.Tuple [.Name x px, .Name y py] kt pt] (.Tuple [e1, e2] k2 pt2) pos) (tPar i j t) m (fun z => (Γ.set i (some (A z.1))).set j (some (C z.2))) Γe := by
  obtain ⟨pe, ke⟩ := h
  refine ⟨ps_par G.calm G.nd hi hj hij hx hy pe hw hs, fun σ F O H R D u s q => ke σ F O H R _ u s (q.mono (fun z _ q vs F1 h H1 l1 u1 sp => ?_) fun c q F' H' l' u' => ?_)⟩
  · obtain ⟨v1, v2, h1, h2, rfl, t, p1, p2⟩ := sep2 sp
    refine ⟨v1, v2, rfl, ?_⟩
    have w4 : Pt (h1 :: h2 :: F1 :: O :: R) H1 := (u1.perm (l' := h :: F1 :: O :: R) (.trans (.cons _ (.swap _ _ _)) (.swap _ _ _))).split2 t
    have w5 : Pt (F1 :: O :: h1 :: h2 :: R) H1 := w4.perm ((List.perm_append_comm (l₁ := [h1, h2]) (l₂ := [F1, O])).append_right R)
    obtain ⟨F3, O3, l3, w6, s3⟩ := put_at (s.mono l1) (Nat.blt_eq.mp hl) p1 w5
    obtain ⟨F4, O4, l4, w7, s4⟩ := put_at s3 (i := j) (A := C z.2) (v := v2) (by rw [List.length_set]; exact Nat.blt_eq.mp hl2) ((C z.2).mono l3 p2) w6
    exact q _ F4 O4 H1 (l1.tr (l3.tr l4)) w7 s4
  · obtain ⟨F2, O2, l2, u2, s2⟩ := we.slots (s.mono l') u'
    exact q σ F2 O2 H' (l'.tr l2) u2 s2
/-- a frozen part of one's own tuple -/
theorem jn_oprt {K0 : PySem.W.Frag} (i : Nat) (w : Option V) (k : Nat) {x : Str} {l : List Asn} {Bf : γ → Asn} [pf : PerF Bf] (g : γ) {px q1 pos : Pos} {j} (hl : Γ[i]? = some (some (ow w (oT l))) := by rfl) (hk : l[k]? = some (Bf g) := by rfl) (hN : X.N[i]? = some x := by rfl)
    (hv : Vis X.env.scope x := by first | exact Or.inl rfl | exact Or.inr (Or.inl rfl) | exact Or.inr (Or.inr rfl)) (hd : (x == ("__debug__" : Str)) = false := by decide) (hcd : (x == ("__classdict__" : Str)) = false := by decide) (hK : X.K = K0 := by rfl) :
    JN X W cl Γ (.Subscript (.Name x px) (.Constant (.int (k : Int)) j q1) pos) (tOp (rIxT K0) (tVar i) (tC (.int (k : Int)))) (.ok g) Bf := by
  subst hK
  refine ⟨pe_ix ix_tup (pe_var hN hv hd hcd) pe_int (fun _ _ => rfl), fun σ F O H R Q u s q => ?_⟩
  obtain ⟨x', h, O', e', t, ⟨v0, rfl, p0⟩, s'⟩ := s.take hl
  obtain ⟨ad, vs, rfl, t2, sp⟩ := ow_of p0
  obtain ⟨v, fp, fc, ev, tf, pv, kf⟩ := sp.focusL hk
  have eg := pf.per _ _ _ _ pv
  subst eg
  exact ⟨.ref ad, e', ad, vs, k, v, rfl, rfl, SqT.of ((u.le (by simp) : Le F H) _ _ t2), atI_nat ev, q v F emp H .rfl (pt_addE u) pv⟩
end
end Br
namespace Br
open PySem PySem.Spec L2
variable [tgi : Tbs]
theorem get_listP {X : Cx} : PGet X (rIxL X.K) := by
  intro pins s σ H x y v u Q I rx ry h
  obtain ⟨p, xs, i, z, rfl, rfl, hq, he, q⟩ := h
  cases rx
  obtain ⟨t, rfl⟩ := ry
  obtain ⟨its, r, pl, hz⟩ := I.list hq
  obtain ⟨j, h1, h2, h3, h4, h5⟩ := atI_get he
  obtain ⟨w, ew, rw'⟩ := r.get h2
  have hl := r.length
  have hn := line63
  have fin : EP X pins σ Q w s := ⟨z, H, I, rw', q⟩
  by_cases h0 : 0 ≤ i
  · have hj : i.toNat = j := by
      rw [seqIndex_of h0 h5] at h1
      exact Option.some.inj h1
    exact wpAny_getItem_list pl.isList h0 (by omega) (by rw [hj]; simpa using ew) fin
  · have hj : (i + (its.toArray.size : Int)).toNat = j := by
      rw [seqIndex_neg (by omega) h4] at h1
      rw [List.size_toArray, ← hl]
      exact Option.some.inj h1
    exact wpAny_getItem_list_neg pl.isList (by omega) (by rw [List.size_toArray] <;> omega) (by omega) (by rw [hj]; simpa using ew) fin
section
variable {α β γ δ ι τ ρ B T S' : Type} {X : Cx} {W : WX} {cl : String → Addr} {Γ Γe Γt : Ctx} {tg e a b c : Expr} {es : List Expr} {pos p : Pos} {ta tb : TE} {k : Nat} {S : δ → Asn} {d0 : δ} {i : Nat} {w : Option V} {sts sa : List Stmt}
/-- a[i] op= e, whole numbers -/
theorem jl_augS {m : Rs ι} {n o : Rs Int} {get : ι → List Int} {put : ι → List Int → δ} {apos : Pos} {ie : Expr} {tc : TE} {op : Operator} {f : Int → Int → Int} (hop : PIp X op (ipI f)) (we : Wk Γ Γe) (h : JP X W cl Γ i w S d0 a ta m (oA aI) get put) (h2 : JN X W cl Γ ie tc o aI) (hv : JN X W cl Γ e tb n aI)
    (ha : ∀ ov iv new, augStore ie ov iv new = (do holding [new, ov, iv] (setItem ov iv new); release [new, ov, iv] []; pure .next) := by intros; rfl) :
    JL X W cl Γ (.AugAssign (.Subscript a ie apos) op e pos) (tAugS ta tc tb (rIxL X.K) (ipI f) rSetL) (m.b fun x => o.b fun j => (opt (atI (get x) j)).b fun old => n.b fun y => (setM (get x) j (f old y)).b fun zs => .ok (put x zs)) (fun d => Γ.set i (some (ow w (S d)))) Γe := by
  have hl := h.hl
  refine ⟨ps_augS h.pe h2.pe get_listP hv.pe hop set_list ha, fun σ F O H R D u s q => ?_⟩
  refine jp_place h u s (q.bind.mono (fun x _ q v v0 h0 O' F2 H2 l2 u2 e0 t0 s2 ln => ?_) fun c q F' H' l' u' => ?_)
  · refine h2.run σ F2 O H2 R _ u2 (s.mono l2) (q.bind.mono (fun j _ q jv F3 g3 H3 l3 u3 p3 => ?_) fun c q F' H' l' u' => ?_)
    · obtain ⟨rfl, rfl⟩ := p3
      have u3' := pt_skip u3 rfl
      obtain ⟨old, eo, q⟩ := opt_out q.bind
      obtain ⟨ad, vs, h', hc, rfl, sp, el, w2, back⟩ := plc_list hl e0 t0 (s2.mono l3) (ln.mono l3) u3'
      obtain ⟨ov, eov, pv⟩ := sp.idx eo
      obtain ⟨rfl, _⟩ := pv
      refine ⟨ad, vs, j, _, rfl, rfl, SqL.of w2.at1, eov, ?_⟩
      refine hv.run σ F3 O H3 R _ u3' (s.mono (l2.tr l3)) (q.bind.mono (fun y _ q z F4 g4 H4 l4 u4 p4 => ?_) fun c q F' H' l' u' => ?_)
      · obtain ⟨rfl, rfl⟩ := p4
        refine ⟨old, y, rfl, rfl, ?_⟩
        replace q := q.bind
        unfold setM at q
        obtain ⟨ad2, vs2, h2', hc2, e2, sp2, el2, w3, back2⟩ := plc_list hl e0 t0 (s2.mono (l3.tr l4)) (ln.mono (l3.tr l4)) (pt_skip u4 rfl)
        cases e2
        cases ej : ixN (get x).length j with
        | none => rw [ej] at q; exact q.elim
        | some nn =>
          rw [ej] at q
          refine ⟨ad, vs2, j, nn, rfl, rfl, w3.at1, by rw [← el2]; exact ej, ?_⟩
          have eh := sp2.empE
          subst eh
          obtain ⟨O3, w6, s3⟩ := back2 ((get x).set nn (f old y)) (vs2.set nn (.int (f old y))) F4 emp R _ .rfl (Sep.setE (H := emp) sp2 ⟨rfl, rfl⟩) w3.write
          exact q σ F4 O3 _ (l2.tr (l3.tr l4)) w6 s3
      · obtain ⟨F5, O5, l5, u5, s5⟩ := we.slots (s.mono (l2.tr (l3.tr l'))) u'
        exact q σ F5 O5 H' (l2.tr (l3.tr (l'.tr l5))) u5 s5
    · obtain ⟨F5, O5, l5, u5, s5⟩ := we.slots (s.mono (l2.tr l')) u'
      exact q σ F5 O5 H' (l2.tr (l'.tr l5)) u5 s5
  · obtain ⟨F5, O5, l5, u5, s5⟩ := we.slots (s.mono l') u'
    exact q σ F5 O5 H' (l'.tr l5) u5 s5
/-- a op b op c, whole numbers -/
theorem jn_chn {op op' : CmpOp} {c1 c2 : Int → Int → Bool} {c : Expr} {tc : TE} {m n o : Rs Int} (o1 : OpR X (compareOp op) (rI0 fun i j => .bl (c1 i j))) (o2 : OpR X (compareOp op') (rI0 fun i j => .bl (c2 i j))) (h1 : JN X W cl Γ a ta m aI) (h2 : JN X W cl Γ b tb n aI) (h3 : JN X W cl Γ c tc o aI)
    (hm : lastMarks [op, op'] [b, c] = false := by with_unfolding_all rfl) :
    JN X W cl Γ (.Compare a [op, op'] [b, c] pos) (tChain (rI0 fun i j => .bl (c1 i j)) (rI0 fun i j => .bl (c2 i j)) ta tb tc) (m.b fun x => n.b fun y => if c1 x y = true then o.b fun z => .ok (c2 y z) else .ok false) aB := by
  refine ⟨pe_chain o1 o2 h1.pe h2.pe h3.pe hm, fun σ F O H R Q u s q => h1.run σ F O H R _ u s (q.bind.mono (fun x _ q v F1 g1 H1 l1 u1 p1 => ?_) fun c q => q)⟩
  obtain ⟨rfl, rfl⟩ := p1
  have u1 := pt_skip u1 rfl
  refine h2.run σ F1 O H1 R _ u1 (s.mono l1) (q.bind.mono (fun y _ q w F2 g2 H2 l2 u2 p2 => ?_) fun c q F' H' l' u' => q F' H' (l1.tr l') u')
  obtain ⟨rfl, rfl⟩ := p2
  have u2 := pt_skip u2 rfl
  refine ⟨x, y, rfl, rfl, c1 x y, rfl, ?_⟩
  cases hc : c1 x y with
  | true =>
    rw [hc, if_pos rfl] at q
    rw [if_pos rfl]
    refine h3.run σ F2 O H2 R _ u2 (s.mono (l1.tr l2)) (q.bind.mono (fun z _ q w F3 g3 H3 l3 u3 p3 => ?_) fun c q F' H' l' u' => q F' H' (l1.tr (l2.tr l')) u')
    obtain ⟨rfl, rfl⟩ := p3
    exact ⟨y, z, rfl, rfl, q _ F3 emp H3 (l1.tr (l2.tr l3)) u3 ⟨rfl, rfl⟩⟩
  | false =>
    rw [hc, if_neg Bool.false_ne_true] at q
    rw [if_neg Bool.false_ne_true]
    exact q _ F2 emp H2 (l1.tr l2) (pt_addE u2) ⟨rfl, rfl⟩
theorem jt_chn {op op' : CmpOp} {c1 c2 : Int → Int → Bool} {c : Expr} {tc : TE} {m n o : Rs Int} (o1 : OpR X (compareOp op) (rI0 fun i j => .bl (c1 i j))) (o2 : OpR X (compareOp op') (rI0 fun i j => .bl (c2 i j))) (h1 : JN X W cl Γ a ta m aI) (h2 : JN X W cl Γ b tb n aI) (h3 : JN X W cl Γ c tc o aI)
    (hm : lastMarks [op, op'] [b, c] = false := by with_unfolding_all rfl) :
    JT X W cl Γ (.Compare a [op, op'] [b, c] pos) (tTest (tChain (rI0 fun i j => .bl (c1 i j)) (rI0 fun i j => .bl (c2 i j)) ta tb tc)) (m.b fun x => n.b fun y => if c1 x y = true then o.b fun z => .ok (c2 y z) else .ok false) :=
  jt_c (jn_chn o1 o2 h1 h2 h3 hm) (pt_chain o1 o2 h1.pe h2.pe h3.pe hm)
/-- what is never run -/
theorem jb_no {Γn : S' → Ctx} {Γb : B → Ctx} {RA : RAs T} : JB X W cl Γ sts (fun _ _ _ => False) (.no : Fl B T S') Γn Γb RA Γe := ⟨⟨fun _ _ _ _ _ _ h => h.elim⟩, fun _ _ _ _ _ _ _ _ q => q.elim⟩
/-- one part of one's own tuple taken out; the others are given up -/
theorem je_mvprt {K0 : PySem.W.Frag} (i : Nat) (k : Nat) {x : Str} {l : List Asn} {Bf : γ → Asn} (g : γ) {px q1 pos : Pos} {j} (hl : Γ[i]? = some (some (oT l)) := by rfl) (hk : l[k]? = some (Bf g) := by rfl) (hN : X.N[i]? = some x := by rfl)
    (hv : Vis X.env.scope x := by first | exact Or.inl rfl | exact Or.inr (Or.inl rfl) | exact Or.inr (Or.inr rfl)) (hd : (x == ("__debug__" : Str)) = false := by decide) (hcd : (x == ("__classdict__" : Str)) = false := by decide) (hK : X.K = K0 := by rfl) :
    JE X W cl Γ (.Subscript (.Name x px) (.Constant (.int (k : Int)) j q1) pos) (tOp (rIxT K0) (tVar i) (tC (.int (k : Int)))) (.ok g) (fun _ => Γ.set i none) Bf Γe := by
  subst hK
  refine ⟨pe_ix ix_tup (pe_var hN hv hd hcd) pe_int (fun _ _ => rfl), fun σ F O H R Q u s q => ?_⟩
  obtain ⟨x', h, O', e', t, ⟨v0, rfl, p0⟩, s'⟩ := s.take hl
  obtain ⟨ad, vs, rfl, t2, sp⟩ := p0
  obtain ⟨v, fp, fc, ev, tf, pv, kf⟩ := sp.focusL hk
  have w1 : Pt (h :: O' :: F :: R) H := (u.swap).split2 t
  have w2 : Pt (fp :: fc :: O' :: F :: R) H := w1.split2 tf
  have w3 : Pt (F :: fc :: O' :: fp :: R) H := w2.perm (((List.perm_append_comm (l₁ := [fp]) (l₂ := [fc, O', F])).trans ((List.perm_append_comm (l₁ := [fc, O']) (l₂ := [F])).append_right [fp])).append_right R)
  obtain ⟨F2, l1, l2, w4⟩ := w3.leak
  exact ⟨.ref ad, e', ad, vs, k, v, rfl, rfl, SqT.of ((u.le (by simp) : Le F H) _ _ t2), atI_nat ev, q v F2 O' fp H l1 w4 (s'.mono l1) ((Bf g).mono l1 pv)⟩
end
end Br
namespace Br
open PySem PySem.Spec L2 PyProof.Rows
variable [tgi : Tbs]
def tr3 (x : Int × Int × Int) : PyData := .tuple [.int x.1, .int x.2.1, .int x.2.2]
theorem tr3_eqv (x y : Int × Int × Int) : PyData.eqv (tr3 x) (tr3 y) = decide (x = y) := by
  obtain ⟨a, b, c⟩ := x
  obtain ⟨d, e, f⟩ := y
  simp [tr3, PyData.eqv, PyData.eqvAll]
  by_cases h1 : a = d <;> by_cases h2 : b = e <;> by_cases h3 : c = f <;> simp [h1, h2, h3]
theorem tr3_plain : ∀ xs : List (Int × Int × Int), PyData.plainAll (xs.map tr3) = true
  | [] => by simp [PyData.plainAll]
  | x :: xs => by
    have := tr3_plain xs
    simp [PyData.plainAll, PyData.plain, tr3, this]
def rRem3 (K : PySem.W.Frag) : V → List V → Hp → VK → Prop := fun x xs H Q => ∃ (l : Addr) (vs : List V) (ns : List (Int × Int × Int)) (y : V) (k : Int × Int × Int) (j : Nat), x = .ref l ∧ xs = [y] ∧ H l = some (.lst vs) ∧ DpAll K H vs (ns.map tr3) ∧ Dp K H y (tr3 k) ∧ ns[j]? = some k ∧ (∀ m : Nat, m < j → ns[m]? ≠ some k) ∧ Q .non (upd H l (.lst (vs.eraseIdx j)))
theorem mt_rem3 {X : Cx} (hu : X.A.units + 64 < cLine) : L2.MtR X "list.remove" (rRem3 X.K) := by
  intro pins s σ H x xs v us Q I rx rxs h
  obtain ⟨l, vs, ns, y, k, j, rfl, rfl, hH, hd, hy, hj, hno, q⟩ := h
  cases rx
  obtain ⟨u, rfl, ru⟩ := rxs.one
  obtain ⟨z, its, n, r, hl, e⟩ := I.lstM hH
  obtain ⟨as, ra⟩ := Dp.readsAll I _ vs its hd r
  obtain ⟨bs, rb⟩ := Dp.reads I _ y u hy ru
  have hjn : j < ns.length := (List.getElem?_eq_some_iff.mp hj).1
  have hp : SeqAt.dataPlace (ns.map tr3) (tr3 k) = some j := by
    unfold SeqAt.dataPlace
    refine List.findIdx?_eq_some_iff_getElem.mpr ⟨by rw [List.length_map]; exact hjn, ?_, fun m hm => ?_⟩
    · rw [List.getElem_map, tr3_eqv]
      have := (List.getElem?_eq_some_iff.mp hj).2
      simpa using this
    · rw [List.getElem_map, tr3_eqv]
      have := hno m hm
      rw [List.getElem?_eq_getElem (by omega)] at this
      simpa using fun w => this (congrArg some w)
  have dep : (tr3 k).depth ≤ 3 := by simp [tr3, PyData.depth, PyData.depthAll]
  refine SeqAt.remove_list_data (j := j) (vs := its.toArray) ⟨_, e, rfl, n, rfl⟩ (by simpa using ra) rb (tr3_plain ns) (by simp [tr3, PyData.plain, PyData.plainAll]) (by omega) hp (by rw [List.size_toArray]; omega) ?_
  have rr := r.eraseIdx j
  refine ⟨.non, _, I.lset (its' := its.eraseIdx j) (t' := s.toks) hH e ?_ rr ?_, rfl, q⟩
  · show its.toArray.eraseIdxIfInBounds j = (its.eraseIdx j).toArray
    rw [List.eraseIdxIfInBounds_toArray]
  · have z2 := List.length_eraseIdx_le vs j
    omega
def remA {α : Type} [DecidableEq α] (xs : List α) (k : α) : Option (Unit × List α) := if k ∈ xs then some ((), xs.erase k) else none
theorem erase_ix {α : Type} [DecidableEq α] : ∀ (xs : List α) (k : α), k ∈ xs → ∃ j, xs[j]? = some k ∧ (∀ m : Nat, m < j → xs[m]? ≠ some k) ∧ xs.erase k = xs.eraseIdx j
  | x :: xs, k, h => by
    by_cases e : x = k
    · exact ⟨0, by simp [e], fun m hm => absurd hm (Nat.not_lt_zero _), by rw [e]; simp⟩
    · obtain ⟨j, h1, h2, h3⟩ := erase_ix xs k ((List.mem_cons.mp h).resolve_left fun z => e z.symm)
      refine ⟨j + 1, by simpa using h1, fun m hm => ?_, ?_⟩
      · cases m with
        | zero => simp [e]
        | succ m => simpa using h2 m (by omega)
      · rw [List.erase_cons, if_neg (by simpa using e), h3]; rfl
theorem sep_dp {K : PySem.W.Frag} {F H : Hp} (lF : Le F H) : ∀ {xs : List (Int × Int × Int)} {vs : List V} {h : Hp}, Sep (xs.map (t3 aI aI aI)) vs F h → DpAll K H vs (xs.map tr3)
  | [], [], _, _ => .nil
  | x :: xs, v :: vs, h, ⟨h1, h2, t, p, r⟩ => by
    refine .cons ?_ (sep_dp lF r)
    obtain ⟨e, a, ws, rfl, ta, sp⟩ := p
    match ws, sp with
    | [w1, w2, w3], ⟨_, _, _, ⟨e1, _⟩, _, _, _, ⟨e2, _⟩, _, _, _, ⟨e3, _⟩, _⟩ =>
      subst e1 e2 e3
      exact .tup (SqT.of (lF _ _ ta)) (.cons (.int _) (.cons (.int _) (.cons (.int _) .nil)))
theorem map_erIdx {α β : Type} (f : α → β) : ∀ (xs : List α) (j : Nat), (xs.eraseIdx j).map f = (xs.map f).eraseIdx j
  | [], j => by simp
  | x :: xs, 0 => by simp
  | x :: xs, j + 1 => by simp [map_erIdx f xs j]
theorem sep_erIdx {F : Hp} : ∀ {As : List Asn} {vs : List V}, Sep As vs F emp → ∀ j : Nat, Sep (As.eraseIdx j) (vs.eraseIdx j) F emp
  | [], [], s, j => by simpa using s
  | A :: As, v :: vs, ⟨h1, h2, t, p, r⟩, 0 => by
    obtain ⟨rfl, rfl⟩ := t.of_emp
    exact r
  | A :: As, v :: vs, ⟨h1, h2, t, p, r⟩, j + 1 => by
    obtain ⟨rfl, rfl⟩ := t.of_emp
    exact ⟨emp, emp, .r_emp, p, sep_erIdx r j⟩
theorem op_rem3 {K0 : PySem.W.Frag} : OpM (rRem3 K0) (t3 aI aI aI) (fun k : Int × Int × Int => [t3 aI aI aI k]) aU remA := by
  intro xs y z ad vs ws F h' g R H Q e w sp sg kk
  have eh := sp.empE
  subst eh
  obtain ⟨v0, rfl, p0⟩ := sep1 sg
  have eg := aT_per _ _ _ p0
  subst eg
  unfold remA at e
  by_cases hk : y ∈ xs
  case neg => rw [if_neg hk] at e; cases e
  rw [if_pos hk] at e; cases e
  obtain ⟨j, h1, h2, h3⟩ := erase_ix xs y hk
  have lF : Le F H := w.le (by simp)
  refine ⟨ad, vs, xs, v0, y, j, rfl, rfl, w.at1, sep_dp lF sp, ?_, h1, h2, ?_⟩
  · have := sep_dp (K := K0) lF (xs := [y]) (Sep.sing p0)
    cases this with
    | cons a _ => exact a
  · refine kk .non _ F emp emp _ .rfl ?_ ⟨rfl, rfl⟩ w.write
    rw [h3, map_erIdx]
    exact sep_erIdx sp j
section
variable {α β γ : Type} {K : PySem.W.Frag} [DecidableEq α] [LtO α] [DecidableEq β] [LtO β] [DecidableEq γ] [LtO γ] {A : α → Asn} {C : β → Asn} {E : γ → Asn} [d : DatF K A] [o : OrF K A] [d' : DatF K C] [o' : OrF K C] [d2 : DatF K E] [o2 : OrF K E]
theorem or3_lt (p q : α × β × γ) : PySem.W.dataLt (.tuple [d.dat p.1, d'.dat p.2.1, d2.dat p.2.2]) (.tuple [d.dat q.1, d'.dat q.2.1, d2.dat q.2.2]) = LtO.lt p q := by
  refine (PySem.W.dataLt_tuple _ _).trans ?_
  show _ = if p.1 = q.1 then (if p.2.1 = q.2.1 then LtO.lt p.2.2 q.2.2 else LtO.lt p.2.1 q.2.1) else LtO.lt p.1 q.1
  by_cases h : p.1 = q.1
  · rw [if_pos h, PySem.W.dataLt_all_yes (o.alike p.1 q.1) (by rw [d.eq, decide_eq_true_eq]; exact h)]
    by_cases h2 : p.2.1 = q.2.1
    · rw [if_pos h2, PySem.W.dataLt_all_yes (o'.alike p.2.1 q.2.1) (by rw [d'.eq, decide_eq_true_eq]; exact h2)]
      by_cases h3 : p.2.2 = q.2.2
      · rw [PySem.W.dataLt_all_yes (o2.alike p.2.2 q.2.2) (by rw [d2.eq, decide_eq_true_eq]; exact h3), lex_irrefl, h3]
        exact ((PySem.W.dataLt_self _).symm.trans (o2.lt q.2.2 q.2.2))
      · rw [PySem.W.dataLt_all_no (o2.alike p.2.2 q.2.2) (by rw [d2.eq, decide_eq_false_iff_not]; exact h3)]
        exact o2.lt p.2.2 q.2.2
    · rw [if_neg h2, PySem.W.dataLt_all_no (o'.alike p.2.1 q.2.1) (by rw [d'.eq, decide_eq_false_iff_not]; exact h2)]
      exact o'.lt p.2.1 q.2.1
  · rw [if_neg h, PySem.W.dataLt_all_no (o.alike p.1 q.1) (by rw [d.eq, decide_eq_false_iff_not]; exact h)]
    exact o.lt p.1 q.1
theorem or3_alike (p q : α × β × γ) : PySem.W.alike (.tuple [d.dat p.1, d'.dat p.2.1, d2.dat p.2.2]) (.tuple [d.dat q.1, d'.dat q.2.1, d2.dat q.2.2]) = true := by
  simp only [PySem.W.alike, PySem.W.alikeAll, o.alike, o'.alike, o2.alike, Bool.and_self]
instance : OrF K (t3 A C E) := ⟨or3_lt, or3_alike, .inl fun _ => ⟨_, _, rfl⟩⟩
end
section
variable {α β γ δ ι τ ρ B T S' : Type} {X : Cx} {W : WX} {cl : String → Addr} {Γ Γe Γt : Ctx}
/-- slot i's own value, given on whole: the hole's value -/
theorem jn_hall (i : Nat) (w : Option V) {x : Str} {vp : V} {px : Pos} (hl : Γ[i]? = some (some (ow w (aV vp))) := by rfl) (hN : X.N[i]? = some x := by rfl)
    (hv : Vis X.env.scope x := by first | exact Or.inl rfl | exact Or.inr (Or.inl rfl) | exact Or.inr (Or.inr rfl)) (hd : (x == ("__debug__" : Str)) = false := by decide) (hcd : (x == ("__classdict__" : Str)) = false := by decide) :
    JN X W cl Γ (.Name x px) (tVar i) (.ok ()) (fun _ : Unit => aV vp) := by
  refine ⟨pe_var hN hv hd hcd, fun σ F O H R Q u s q => ?_⟩
  obtain ⟨x', h, O', e', t, ⟨v0, rfl, p0⟩, s'⟩ := s.take hl
  obtain ⟨rfl, _⟩ := ow_of p0
  exact ⟨_, e', q _ F emp H .rfl (pt_addE u) ⟨rfl, rfl⟩⟩
end
end Br
namespace Br
open PySem PySem.Spec L2 PyProof.Rows
section
variable {prog : Program} {w : World} {A : Around} {E : Value → Shared → Prop} {s : Shared}
/-- the lambda called: its body told -/
theorem lam_call {f c' : Addr} {qual x : Str} {params : Arguments} {body : Expr} {scope : Scope} {cl : List (Str × Addr)} {pm ctv v : Value} {kd : PyData}
    (hdp : A.depth < recursionLimit) (hf : s.heap.get? f = some (PySem.W.kla_obj "<lambda>" qual params body scope cl pm c' ctv)) (hc : ∃ (oc : Obj) (vs : Array Value) (t : Tok), s.heap.get? c' = some oc ∧ oc.data = .fields vs ∧ vs[1]? = some (.str qual t)) (NL : s.heap.NoLimit)
    (sk : scope.kind = .function) (co : scope.isCoroutine = false) (gn : scope.isGenerator = false) (hb : bindArgs (PySem.W.kla_fn "<lambda>" qual params body scope cl pm (.ref c') ctv) ⟨[v], []⟩ = pure [(x, v)])
    (hx : scope.names.lookup x = some .local) (hnc : ∀ y ∈ scope.names, y.2 ≠ .cell)
    (hbody : ∀ (h₁ : Heap) (tk : Nat), h₁.Ns s.heap.objs.size (fun y => [(x, v)].lookup y) → (∀ b o, s.heap.get? b = some o → h₁.get? b = some o) →
      wpAny (model prog w) (A.deeper (PySem.W.envX qual scope s.heap.objs.size f (.ref c') cl)) (eval body (PySem.W.envX qual scope s.heap.objs.size f (.ref c') cl)) (PySem.W.KeyPure kd { s with heap := h₁, toks := tk }) (fun _ _ => False) { s with heap := h₁, toks := tk }) :
    wpAny (model prog w) A (call (.ref f) [v]) (PySem.W.KeyPure kd s) (fun _ _ => False) s := by
  obtain ⟨oc, vs, t, hoc, hdc, hvc⟩ := hc
  have rc : codeAny (model prog w) A (.call (.ref f) ⟨[v], []⟩) (fun r s' => ∃ u, r = .ok (.ret u) ∧ PySem.W.KeyPure kd s u s') s := by
    refine PySem.W.kla_callFunE hdp hf rfl co gn rfl ⟨c', oc, vs, t, rfl, hoc, hdc, hvc⟩ ?_
    rw [hb]
    refine wpAny_pure (wpAny_newFunctionEnv hnc (fun y hy => by rw [List.mem_singleton.mp hy]; exact hx) (fun h₁ hns hsb => ⟨NL.fresh _ hsb, ?_⟩) sk)
    have kp : ∀ b o, s.heap.get? b = some o → h₁.get? b = some o := fun b o e => hsb.extBut b o (Nat.ne_of_lt (Heap.lt_size e)) (Heap.get?_push_of_some _ e)
    refine PySem.W.kla_codeExpr (wpAny_mono (hbody h₁ _ hns kp) (fun u s' ⟨h', tk, e1, k, r⟩ => ⟨u, rfl, h', tk, by rw [e1], fun b o e => k b o (kp b o e), r⟩) fun e s' z => z.elim)
  refine wpAny_call (codeAny_mono rc fun r s' hq => ?_)
  obtain ⟨u, rfl, q⟩ := hq
  exact q
/-- ws[x], in the lambda -/
theorem lam_ix {env : Env} {x y : Str} {c pw : Addr} {m : Str → Option Value} {its : Array Value} {n : Nat} {wi : Int} {t t' : Tok} {p1 p2 p3 : Pos} {Q : Value → Shared → Prop} (sk : env.scope.kind = .function) (hx : env.kindOf x = some .local) (hy : env.kindOf y = some .free)
    (hns : s.heap.Ns env.locals m) (hm : m x = some (.int (n : Int) t)) (hc : env.cells.lookup y = some c) (hcell : s.heap.IsCell c (some (.ref pw))) (hl : s.heap.IsList pw its) (hi : its[n]? = some (.int wi t')) (hn : (n : Int) < 2 ^ 63)
    (q : Q (.int wi t') s) (dx : (x == ("__debug__" : Str)) = false) (dy : (y == ("__debug__" : Str)) = false) (cy : (y == ("__classdict__" : Str)) = false) : wpAny (model prog w) A (eval (.Subscript (.Name y p1) (.Name x p2) p3) env) Q E s := by
  refine Subscript_ (wpAny_Name (wpAny_loadName_free sk hy hc hcell ?_ cy) dy)
  refine wpAny_Name (wpAny_loadName_local sk hx hns hm ?_) dx
  exact item_listR hl (Int.natCast_nonneg n) hn (by rw [Int.toNat_natCast]; exact hi) q (by rfl)
/-- a pair of whole numbers -/
theorem key_pair {env : Env} {e : Expr} {x : Str} {m : Str → Option Value} {i k : Int} {t : Tok} {p1 p2 : Pos} {kk} (sk : env.scope.kind = .function) (hx : env.kindOf x = some .local) (hns : s.heap.Ns env.locals m) (hm : m x = some (.int i t)) (dx : (x == ("__debug__" : Str)) = false)
    (he : wpAny (model prog w) A (eval e env) (fun u s' => ∃ tk t', u = .int k t' ∧ s' = { s with toks := tk }) (fun _ _ => False) s)
    (hs : starEach [e, .Name x p1] env = (false, eval e env) :: starEach [.Name x p1] env) (hs2 : starEach [.Name x p1] env = (false, eval (.Name x p1) env) :: starEach [] env) :
    wpAny (model prog w) A (eval (.Tuple [e, .Name x p1] kk p2) env) (PySem.W.KeyPure (.tuple [.int k, .int i]) s) (fun _ _ => False) s := by
  refine wpAny_Tuple_spliced ?_
  rw [hs]
  show wpAny _ _ (spliced ((false, eval e env) :: backTo p2 (starEach [.Name x p1] env))) _ _ s
  refine Calls.spliced_cons (thn he fun u s1 ⟨tk, t', e1, e2⟩ => ?_)
  subst e1 e2
  rw [hs2]
  show wpAny _ _ (spliced ((false, eval (.Name x p1) env) :: backTo p2 (starEach [] env))) _ _ _
  refine Calls.spliced_cons (wpAny_Name (wpAny_loadName_local sk hx (s := { s with toks := tk }) hns hm ?_) dx)
  refine Calls.spliced_nil ⟨by show 2 ≤ sizeLine; decide, ?_⟩
  refine ⟨_, tk, rfl, fun b o q => Heap.get?_push_of_some _ q, ?_⟩
  exact .tuple (as := []) (Heap.get?_push_size _ rfl) rfl rfl (.cons (as := []) (.int k t') (.cons (as := []) (.int i t) .nil))
theorem lam_lo {env : Env} {x y : Str} {c pw : Addr} {m : Str → Option Value} {its : Array Value} {n : Nat} {wi : Int} {t t' : Tok} {p1 p2 p3 p4 p5 : Pos} {kk} (sk : env.scope.kind = .function) (hx : env.kindOf x = some .local) (hy : env.kindOf y = some .free)
    (hns : s.heap.Ns env.locals m) (hm : m x = some (.int (n : Int) t)) (hc : env.cells.lookup y = some c) (hcell : s.heap.IsCell c (some (.ref pw))) (hl : s.heap.IsList pw its) (hi : its[n]? = some (.int wi t')) (hn : (n : Int) < 2 ^ 63)
    (dx : (x == ("__debug__" : Str)) = false) (dy : (y == ("__debug__" : Str)) = false) (cy : (y == ("__classdict__" : Str)) = false) :
    wpAny (model prog w) A (eval (.Tuple [.Subscript (.Name y p1) (.Name x p2) p3, .Name x p4] kk p5) env) (PySem.W.KeyPure (.tuple [.int wi, .int (n : Int)]) s) (fun _ _ => False) s :=
  key_pair sk hx hns hm dx (lam_ix sk hx hy hns hm hc hcell hl hi hn ⟨s.toks, t', rfl, rfl⟩ dx dy cy) rfl rfl
theorem lam_up {env : Env} {x y : Str} {c pw : Addr} {m : Str → Option Value} {its : Array Value} {n : Nat} {wi : Int} {t t' : Tok} {p1 p2 p3 p4 p5 p6 : Pos} {kk} (sk : env.scope.kind = .function) (hx : env.kindOf x = some .local) (hy : env.kindOf y = some .free)
    (hns : s.heap.Ns env.locals m) (hm : m x = some (.int (n : Int) t)) (hc : env.cells.lookup y = some c) (hcell : s.heap.IsCell c (some (.ref pw))) (hl : s.heap.IsList pw its) (hi : its[n]? = some (.int wi t')) (hn : (n : Int) < 2 ^ 63)
    (dx : (x == ("__debug__" : Str)) = false) (dy : (y == ("__debug__" : Str)) = false) (cy : (y == ("__classdict__" : Str)) = false) :
    wpAny (model prog w) A (eval (.Tuple [.UnaryOp .USub (.Subscript (.Name y p1) (.Name x p2) p3) p6, .Name x p4] kk p5) env) (PySem.W.KeyPure (.tuple [.int (-wi), .int (n : Int)]) s) (fun _ _ => False) s :=
  key_pair sk hx hns hm dx (UnaryOp_ (lam_ix sk hx hy hns hm hc hcell hl hi hn (neg_int ⟨s.toks + 1, s.toks, rfl, rfl⟩) dx dy cy)) rfl rfl
open PySem.W in
theorem each_range {n : Nat} {acc : Array Value} (h : ItemsOf (fun i v => ∃ t, v = .int (0 + i * 1) t) acc n) : EachIs (fun (v : Value) (x : Nat) => ∃ t, v = .int (x : Int) t) acc.toList (List.range n) := by
  refine EachIs.of_zip (by rw [Array.length_toList, h.1, List.length_range]) fun p hp => ?_
  obtain ⟨i, hi⟩ := List.mem_iff_getElem?.mp hp
  rw [List.getElem?_zip_eq_some] at hi
  obtain ⟨h1, h2⟩ := hi
  obtain ⟨t, e⟩ := h.2 i p.1 (by rw [← Array.getElem?_toList]; exact h1)
  have h3 := (List.getElem?_eq_some_iff.mp h2)
  obtain ⟨h4, h5⟩ := h3
  rw [List.getElem_range] at h5
  refine ⟨t, ?_⟩
  rw [e, ← h5]
  congr 1
  omega
open PySem.W in
/-- sorted(range(n), key=f) -/
theorem sorted_range_key {r q : Addr} {n : Nat} {t u v : Tok} {Q : Value → Shared → Prop} (k : Nat → PyData) (hh : A.handled = none) (hr : IsRange s.heap r 0 (n : Int) 1 t u v) (hn : n ≤ 2 ^ 24) (hal : AllAlike ((List.range n).map k)) (hk : Sortable ((List.range n).map k))
    (hu : ∀ x, x < n → A.units + 2 + (k x).depth < cLine)
    (turn : ∀ (v : Value) (x : Nat), (∃ t, v = .int (x : Int) t) → x < n → ∀ (h : Heap) (tk : Nat), (∀ b o, s.heap.get? b = some o → h.get? b = some o) →
      wpAny (model prog w) A.in1.in1 (call (.ref q) [v]) (KeyPure (k x) { s with heap := h, toks := tk }) (fun _ _ => False) { s with heap := h, toks := tk })
    (h : ∀ (h1 : Heap) (out : List Value) (c : Nat) (h' : Heap) (tk : Nat), (∀ b o, s.heap.get? b = some o → h1.get? b = some o) → (∀ b o, h1.get? b = some o → h'.get? b = some o) → h'.get? h1.objs.size = some (seqObj "list" (List.toArray out) c) → EachIs (fun (v : Value) (x : Nat) => ∃ t, v = .int (x : Int) t) out ((List.range n).mergeSort (dataLe false k)) →
      Q (.ref h1.objs.size) { s with heap := h', toks := tk }) :
    wpAny (model prog w) A (call (.builtin "sorted") [.ref r] [(Str.ofString "key", .ref q)]) Q E s := by
  refine call_function_entry_kw kind_sorted plain_sorted entry_sorted (ksk_s1 _ _) ?_
  unfold Builtin.«sorted»
  refine wpAny_bind (m := checkCount "sorted" 1 1 _) (wpAny_pure ?_)
  refine wpAny_bind (collect_range (A := A.in1) (n := n) hh hr (small_one (by decide) (by decide) (by omega) (by omega)) (by have := rangeSize_nat 0 (n : Int); simpa using this) hn fun h1 tk1 acc hk1 hi => ?_)
  have hz : acc.toList.length ≤ sizeLine := by rw [Array.length_toList, hi.1, sizeLine_eq]; omega
  refine wpAny_bind (wpAny_newList ?_ hz)
  have e := each_range hi
  have ho : (h1.push (seqObj "list" acc.toList.toArray 0)).get? h1.objs.size = some (seqObj "list" acc.toList.toArray 0) := Heap.get?_push_size _ rfl
  have up : ∀ b o, s.heap.get? b = some o → (h1.push (seqObj "list" acc.toList.toArray 0)).get? b = some o := fun b o q => Heap.get?_push_of_some _ (hk1 b o q)
  have fresh : ∀ b o, s.heap.get? b = some o → b ≠ h1.objs.size := fun b o q z => Nat.lt_irrefl _ (z ▸ Heap.lt_size (hk1 b o q))
  have up2 : ∀ {g : Heap}, KeepsBut h1.objs.size (h1.push (seqObj "list" acc.toList.toArray 0)) g → ∀ b o, s.heap.get? b = some o → g.get? b = some o := fun {g} kp b o q => kp b o (fresh b o q) (up b o q)
  refine wpAny_bind (wpAny_holding (wpAny_call_entry_kw slot_list_sort ⟨_, ho, rfl⟩ entry_list_sort ?body (ksk_l1 _ _)))
  case body =>
    show wpAny (model prog w) A.in1.in1 (Builtin.«list.sort» ⟨[.ref h1.objs.size], [(Str.ofString "key", .ref q)]⟩) _ _ _
    rw [ksk_t1]
    refine keyH_tree (kz := (List.range n).map k) (vs := acc.toList) ho (by rw [List.length_map]; exact e.length.symm) hz hal hk (fun d hd => ?_) (keyH_turns e fun v x hR hx hp tk kp => ?_) fun h' tk out c kp hD ko => ?_
    · obtain ⟨x, hx, rfl⟩ := List.mem_map.mp hd
      exact hu x (List.mem_range.mp hx)
    · exact turn v x hR (List.mem_range.mp hx) hp tk (up2 kp)
    · exact ⟨_, rfl, wpAny_pure ⟨_, rfl, h h1 out c h' tk hk1 (fun b o q => kp b o (Nat.ne_of_lt (Heap.lt_size q)) (Heap.get?_push_of_some _ q)) hD (keyedOut_each k ko e)⟩⟩
end
end Br

namespace Br
open PySem PySem.Spec L2 PyProof.Rows LamX
variable [tgi : Tbs]
/-- the heap with one code object more, told by its table -/
def Grow (P : Addr) (q : Str) (H H1 : Hp) : Prop := H1 = H ∨ ∃ ps ps' c', H P = some (.tbl ps) ∧ H c' = none ∧ H1 = upd (upd H P (.tbl ps')) c' (CodeO c' q) ∧ TriplesOk ps'.toList ∧ ∀ pos cv, codeAmong pos ps'.toList = some cv → codeAmong pos ps.toList = some cv ∨ cv = .ref c'
theorem Pt.writeF {F H : Hp} {l : List Hp} {p : Addr} {o o' : HO} (t : Pt (F :: l) H) (e : F p = some o) : Pt (upd F p o' :: l) (upd H p o') := by
  obtain ⟨d, r⟩ := List.pairwise_cons.mp t.1
  have np : ∀ h ∈ l, h p = none := fun h m => by
    rcases d h m p with q | q
    · rw [e] at q; cases q
    · exact q
  refine ⟨List.pairwise_cons.mpr ⟨fun h m x => ?_, r⟩, fun x u => ⟨fun q => ?_, fun ⟨h, m, q⟩ => ?_⟩⟩
  · by_cases z : x = p
    · exact .inr (by rw [z]; exact np h m)
    · rw [upd_ne z]; exact d h m x
  · by_cases z : x = p
    · exact ⟨_, List.mem_cons_self, by rw [z, upd_same]; rw [z, upd_same] at q; exact q⟩
    · rw [upd_ne z] at q
      obtain ⟨h, m, q⟩ := (t.2 x u).mp q
      rcases List.mem_cons.mp m with z2 | m
      · exact ⟨_, List.mem_cons_self, by rw [upd_ne z, ← z2]; exact q⟩
      · exact ⟨h, List.mem_cons_of_mem _ m, q⟩
  · rcases List.mem_cons.mp m with z2 | m
    · rw [z2] at q
      by_cases z : x = p
      · rw [z, upd_same] at q ⊢; exact q
      · rw [upd_ne z] at q ⊢; exact t.lp List.mem_cons_self x u q
    · have z : x ≠ p := fun z => by
        have := np h m
        rw [← z, q] at this; cases this
      rw [upd_ne z]
      exact t.lp (List.mem_cons_of_mem _ m) x u q
theorem Pt.newF {F H : Hp} {l : List Hp} {p : Addr} {o : HO} (t : Pt (F :: l) H) (e : H p = none) : Pt (upd F p o :: l) (upd H p o) := by
  obtain ⟨d, r⟩ := List.pairwise_cons.mp t.1
  refine ⟨List.pairwise_cons.mpr ⟨fun h m x => ?_, r⟩, fun x u => ⟨fun q => ?_, fun ⟨h, m, q⟩ => ?_⟩⟩
  · by_cases z : x = p
    · exact .inr (by rw [z]; exact t.free e (List.mem_cons_of_mem _ m))
    · rw [upd_ne z]; exact d h m x
  · by_cases z : x = p
    · exact ⟨_, List.mem_cons_self, by rw [z, upd_same]; rw [z, upd_same] at q; exact q⟩
    · rw [upd_ne z] at q
      obtain ⟨h, m, q⟩ := (t.2 x u).mp q
      rcases List.mem_cons.mp m with z2 | m
      · exact ⟨_, List.mem_cons_self, by rw [upd_ne z, ← z2]; exact q⟩
      · exact ⟨h, List.mem_cons_of_mem _ m, q⟩
  · rcases List.mem_cons.mp m with z2 | m
    · rw [z2] at q
      by_cases z : x = p
      · rw [z, upd_same] at q ⊢; exact q
      · rw [upd_ne z] at q ⊢; exact t.lp List.mem_cons_self x u q
    · have z : x ≠ p := fun z => by
        have := t.free e (List.mem_cons_of_mem _ m)
        rw [← z, q] at this; cases this
      rw [upd_ne z]
      exact t.lp (List.mem_cons_of_mem _ m) x u q
theorem grow_pt {P : Addr} {q : Str} {H H1 F : Hp} {l : List Hp} (g : Grow P q H H1) (t : Pt (F :: l) H) (m : (P, q) ∈ tgi.T) (k : TgOk F) : ∃ F', Le F F' ∧ Pt (F' :: l) H1 := by
  rcases g with rfl | ⟨ps, ps', c', hP, hc, rfl, tk, tb⟩
  · exact ⟨F, .rfl, t⟩
  obtain ⟨ps0, f1, f2, f3⟩ := k _ m
  have f1 : F P = some (.tbl ps0) := f1
  have e0 : ps0 = ps := by
    have := t.lp List.mem_cons_self _ _ f1
    rw [hP] at this; cases this; rfl
  subst e0
  have nP : P ≠ c' := fun z => by rw [z, hc] at hP; cases hP
  have t2 : Pt (upd F P (.tbl ps') :: l) (upd H P (.tbl ps')) := t.writeF f1
  have t3 := t2.newF (p := c') (o := CodeO c' q) (by rw [upd_ne (Ne.symm nP)]; exact hc)
  have fc : F c' = none := t.free hc List.mem_cons_self
  have nb : ∀ b o, F b = some o → Nb o → upd (upd F P (.tbl ps')) c' (CodeO c' q) b = some o := fun b o e n => by
    rw [upd_ne (fun z => by rw [z, fc] at e; cases e), upd_ne (fun z => by rw [z, f1] at e; cases e; exact n _ rfl)]
    exact e
  refine ⟨_, ⟨nb, fun p mp tp => ?_⟩, t3⟩
  by_cases z : p.1 = P
  · have z2 : p.2 = q := tgi.fn p mp _ m z
    refine ⟨ps', by rw [z, upd_ne nP, upd_same], tk, fun pos cv hcv => ?_⟩
    rw [z2]
    rcases tb pos cv hcv with y | y
    · obtain ⟨c, e1, e2⟩ := f3 pos cv y
      exact ⟨c, e1, nb _ _ e2 fun _ y => by cases y⟩
    · exact ⟨c', y, upd_same⟩
  · obtain ⟨ps2, g1, g2, g3⟩ := tp
    refine ⟨ps2, by rw [upd_ne (fun y => by rw [y, fc] at g1; cases g1), upd_ne z]; exact g1, g2, fun pos cv hcv => ?_⟩
    obtain ⟨c, e1, e2⟩ := g3 pos cv hcv
    exact ⟨c, e1, nb _ _ e2 fun _ y => by cases y⟩
section
variable {X : Cx} {pins : List (Addr × Obj)} {σ : L2.St} {H : Hp} {s : Shared}
/-- the lambda is made -/
theorem lam_mk {c P : Addr} {params : Arguments} {body : Expr} {scope : Scope} {pos : Pos} {E : Value → Shared → Prop} {Q : Value → Shared → Prop} (I : Inv X pins σ H s) (TB : TabB X.base X.mg c P) (hcode : X.env.code = .ref c) (hT : TabS H P (X.env.qual ++ "<lambda>"))
    (hdef : defaultsOf params X.env = ([], [])) (hfree : ∀ y ∈ scope.names, y.2 = .free → ∃ c, X.env.cells.lookup y.1 = some c)
    (h : ∀ (f c' : Addr) (pm ctv : Value) (H1 : Hp) (s' : Shared), Inv X pins σ H1 s' → Grow P (X.env.qual ++ "<lambda>") H H1 → (∀ b o, b ≠ P → s.heap.get? b = some o → s'.heap.get? b = some o) →
      s'.heap.get? f = some (PySem.W.kla_obj "<lambda>" (X.env.qual ++ "<lambda>") params body scope (cloFrom X.env.cells scope.names []) pm c' ctv) → H1 c' = some (CodeO c' (X.env.qual ++ "<lambda>")) → Q (.ref f) s') :
    wpAny (model X.prog X.w) X.A (eval (.Lambda params body scope pos) X.env) Q E s := by
  obtain ⟨ps, hP, ht, ha⟩ := hT
  refine PySem.W.kla_eval hdef ?_
  have bP : s.heap.BuiltinsAt X.mg P := TB.bm.keeps I.bk
  have oP : s.heap.get? P = some { cls := .none, data := .fields ps } := I.hok P _ hP
  cases hc : codeAmong pos ps.toList with
  | none =>
    refine PySem.W.kla_makeFunction (mg := X.mg) (c := c) (P := P) (ps := ps) (closure_ok hfree) I.ok.glob (I.mod.glob.keeps I.bk) hcode (TB.code.keeps I.bk) oP ht hc TB.gP bP fun c' ctv h' tk hx hge hlt hrec htb => ?_
    obtain ⟨c2, oc, vs, t, e2, hoc, hd, hv⟩ := hrec
    cases e2
    have nC : H c' = none := I.hok.fresh hge
    have I1 := inv_table (t' := tk) (more := #[rawInt pos.line, rawInt pos.col, .ref c']) (h' := h'.push (PySem.W.kla_obj "<lambda>" (X.env.qual ++ "<lambda>") params body scope (cloFrom X.env.cells scope.names []) ((X.mg "__name__").getD .none) c' ctv)) I hP
      (fun b o hb e => Heap.get?_push_of_some _ (hx b o hb e)) (Heap.get?_push_of_some _ htb) hge ⟨oc, vs, t, Heap.get?_push_of_some _ hoc, hd, hv⟩
    refine h h'.objs.size c' ((X.mg "__name__").getD .none) ctv _ _ I1 (.inr ⟨ps, _, c', hP, nC, rfl, ?_, fun p' cv hcv => ?_⟩) (fun b o hb e => Heap.get?_push_of_some _ (hx b o hb e)) (Heap.get?_push_size _ rfl) upd_same
    · rw [Array.toList_append]; exact PySem.TriplesOk_snoc _ _ _ _ ht
    · rw [Array.toList_append] at hcv
      exact among_app _ ht hcv
  | some cv =>
    obtain ⟨c', e, hco⟩ := ha pos cv hc
    subst e
    refine PySem.W.kla_makeFunctionHit (mg := X.mg) (c := c) (P := P) (ps := ps) (closure_ok hfree) I.ok.glob (I.mod.glob.keeps I.bk) hcode (TB.code.keeps I.bk) oP ht hc bP fun ctv h' tk hx hsz => ?_
    exact h h'.objs.size c' ((X.mg "__name__").getD .none) ctv H _ (I.kept fun b o e => Heap.get?_push_of_some _ (hx b o e)) (.inl rfl) (fun b o _ e => Heap.get?_push_of_some _ (hx b o e)) (Heap.get?_push_size _ rfl) hco
end
end Br
namespace Br
open PySem PySem.Spec L2 PyProof.Rows LamX
variable [tgi : Tbs]
/-- the key's text: upper first, or lower -/
inductive KBody : Bool → Expr → Str → Str → Prop
  | lo {x y p1 p2 p3 p4 p5 kk} : KBody false (.Tuple [.Subscript (.Name y p1) (.Name x p2) p3, .Name x p4] kk p5) x y
  | up {x y p1 p2 p3 p4 p5 p6 kk} : KBody true (.Tuple [.UnaryOp .USub (.Subscript (.Name y p1) (.Name x p2) p3) p6, .Name x p4] kk p5) x y
def kyO (up : Bool) (ws : List Int) (x : Nat) : Int := cond up (-(ws.getD x 0)) (ws.getD x 0)
/-- the places in the order of their wages -/
def ordN (up : Bool) (ws : List Int) : List Nat := (List.range ws.length).mergeSort fun p q => decide (kyO up ws p < kyO up ws q ∨ (kyO up ws p = kyO up ws q ∧ (p : Int) ≤ (q : Int)))
def ordO (up : Bool) (ws : List Int) : List Int := (ordN up ws).map fun x : Nat => (x : Int)
def tSrt (K : PySem.W.Frag) (P : Addr) (q : Str) (iw : Nat) (up : Bool) (ta : TE) : TE := fun σ H Q => tRg1 ta σ H fun a b H1 => ∃ (ws : List Int) (pw : Addr), a = 0 ∧ b = ws.length ∧ ws.length ≤ 1000000 ∧ σ[iw]? = some (some (.ref pw)) ∧ SqL K H1 pw (ws.map V.int) ∧ TabS H1 P q ∧
  ∀ H2, Grow P q H1 H2 → ∀ p, H2 p = none → Q (.ref p) (upd H2 p (.lst ((ordO up ws).map V.int)))
theorem vals_ord {out : List Value} {xs : List Nat} (h : PySem.W.EachIs (fun (v : Value) (x : Nat) => ∃ t, v = .int (x : Int) t) out xs) : Vals ((xs.map fun x : Nat => (x : Int)).map V.int) out := by
  induction h with
  | nil => exact .nil
  | cons r _ ih =>
    obtain ⟨t, rfl⟩ := r
    exact .cons ⟨t, rfl⟩ ih
theorem grow_at {P : Addr} {q : Str} {H H1 : Hp} (g : Grow P q H H1) {b : Addr} {o : HO} (e : H b = some o) (n : Nb o) : H1 b = some o := by
  rcases g with rfl | ⟨ps, ps', c', hP, hc, rfl, _, _⟩
  · exact e
  · rw [upd_ne (fun z => by rw [z, hc] at e; cases e), upd_ne (fun z => by rw [z, hP] at e; cases e; exact n _ rfl)]
    exact e
section
variable {X : Cx} {pins : List (Addr × Obj)} {σ : L2.St} {H : Hp} {s : Shared}
open PySem.W in
theorem pe_srt {c P : Addr} {params : Arguments} {body : Expr} {scope : Scope} {x0 y : Str} {up : Bool} {iw k : Nat} {p p2 p3 kp pos lpos : Pos} {a : Expr} {ta : TE} (kb : KBody up body x0 y) (hcl : X.calm = true) (hr : Room k X.A) (TB : TabB X.base X.mg c P) (hcode : X.env.code = .ref c)
    (ha : PE X a ta) (hg : Gl X "sorted") (hm : X.mg "sorted" = none) (hg2 : Gl X "range") (hm2 : X.mg "range" = none) (na : starEach [a] X.env = (false, eval a X.env) :: starEach [] X.env)
    (hN : X.N[iw]? = some y) (hy : X.env.scope.names.lookup y = some .cell) (hdef : defaultsOf params X.env = ([], [])) (sk : scope.kind = .function) (co : scope.isCoroutine = false) (gn : scope.isGenerator = false) (hx : scope.names.lookup x0 = some .local) (hyl : scope.names.lookup y = some .free)
    (hnc : ∀ z ∈ scope.names, z.2 ≠ .cell) (hfr : ∀ z ∈ scope.names, z.2 = .free → X.env.scope.names.lookup z.1 = some .cell)
    (hb : ∀ (q : Str) (cl : List (Str × Addr)) (pm cv ctv v : Value), bindArgs (PySem.W.kla_fn "<lambda>" q params body scope cl pm cv ctv) ⟨[v], []⟩ = pure [(x0, v)])
    (dx : (x0 == ("__debug__" : Str)) = false) (dy : (y == ("__debug__" : Str)) = false) (cy : (y == ("__classdict__" : Str)) = false)
    (hpl : (backTo pos (starEach [.Call (.Name "range" p2) [a] [] p3] X.env)).any (·.1) = false) (he : starEach [.Call (.Name "range" p2) [a] [] p3] X.env = (false, eval (.Call (.Name "range" p2) [a] [] p3) X.env) :: starEach [] X.env) :
    PE X (.Call (.Name "sorted" p) [.Call (.Name "range" p2) [a] [] p3] [⟨some "key", .Lambda params body scope lpos, kp⟩] pos) (tSrt X.K P (X.env.qual ++ "<lambda>") iw up ta) := by
  refine ⟨fun pins s σ H Q I h => ?_⟩
  have hfree : ∀ z ∈ scope.names, z.2 = .free → ∃ c, X.env.cells.lookup z.1 = some c := fun z hz e => I.ok.has _ (.inl (hfr z hz e))
  refine wpAny_Call_Name_kw (ld_blt (u := .builtin "sorted") I hg hm (by decide +kernel) ?_ (by decide) (by decide))
  refine PyProof.Rows.callWith_kw ?_ (by rw [he]; rfl) hpl rfl rfl
  refine args_cons (thn (prg_1 hg2 hm2 ha na pins s σ H _ I h) fun v s1 ⟨r, a1, b1, t, u, v1, H1, ev, hrg, I1, q1⟩ => args_nil ?_) he
  obtain ⟨ws, pw, rfl, rfl, e2, e3, e4, e5, q⟩ := q1
  subst ev
  show wpAny _ _ (evalAll ((do let v ← eval (.Lambda params body scope lpos) X.env; standAt pos; pure v) :: [])) _ _ s1
  refine wpAny_evalAll_cons (wpAny_bind (lam_mk I1 TB hcode e5 hdef hfree fun f c' pm ctv H2 s2 I2 gr kp hf hco => wpAny_bind (wpAny_standAt (wpAny_pure (wpAny_evalAll_nil ?_)))))
  -- what is known at s2
  obtain ⟨ps, hP, _, _⟩ := e5
  have oP : s1.heap.get? P = some { cls := .none, data := .fields ps } := I1.hok P _ hP
  have nr : r ≠ P := fun z => by
    obtain ⟨o, e, hc, _⟩ := (⟨_, hrg, rfl, trivial⟩ : ∃ o, s1.heap.get? r = some o ∧ o.cls = .type "range" ∧ True)
    rw [z, oP] at e
    cases e
    cases hc
  have hrg2 : IsRange s2.heap r 0 (ws.length : Int) 1 t u v1 := kp _ _ nr hrg
  obtain ⟨its, rv, pl, hz⟩ := I2.list (show SqL X.K H2 pw (ws.map V.int) from by
    rcases e4 with (e4 | ⟨o, e4⟩) | e4
    · exact .inl (.inl (grow_at gr e4 fun _ z => by cases z))
    · exact .inl (.inr ⟨o, grow_at gr e4 fun _ z => by cases z⟩)
    · exact .inr e4)
  obtain ⟨⟨oc, vs, tq, hoc, hdc, hvc⟩, _, _⟩ := I2.hok c' _ hco
  -- the cell
  obtain ⟨m, hn, hlk⟩ := I2.loc
  obtain ⟨w', rw', look⟩ := hlk iw y (.ref pw) hN e3 (.inr (.inl hy))
  obtain rfl : w' = Value.ref pw := rw'
  obtain ⟨cc, hcc, hcell⟩ : ∃ cc, X.env.cells.lookup y = some cc ∧ s2.heap.IsCell cc (some (.ref pw)) := by
    rcases look with ⟨kk, _⟩ | ⟨_, c3, e', z⟩
    · have kk : X.env.scope.names.lookup y = some .local := kk
      rw [hy] at kk; cases kk
    · exact ⟨c3, e', z⟩
  obtain ⟨c2, hc2⟩ : ∃ c2, (cloFrom X.env.cells scope.names []).lookup y = some c2 := mem_lookup (cloFrom_has (cells := X.env.cells) (acc := []) (PySem.mem_of_lookup hyl))
  have ec : c2 = cc := by
    rcases cloFrom_mem (PySem.mem_of_lookup hc2) with hm | ⟨h1, h2⟩
    · cases hm
    · rw [hcc] at h2
      rw [h2] <;> rfl
  subst ec
  refine sorted_range_key (k := fun x => .tuple [.int (kyO up ws x), .int (x : Int)]) (I2.ok.hd hcl) hrg2 (by omega) (AllAlike.of fun _ _ => by simp [alike, alikeAll]) (Sortable.tuples fun _ => ⟨_, _, rfl⟩) (fun x _ => ?_) (fun v x hv hxn hp tk kp2 => ?_) fun h1 out c4 h' tk k1 k2 hD eo => ?_
  · have hd : (PyData.tuple [.int (kyO up ws x), .int (x : Int)]).depth = 1 := by simp [PyData.depth, PyData.depthAll]
    rw [hd]
    have := hr.units
    omega
  · obtain ⟨t1, rfl⟩ := hv
    refine lam_call (s := { s2 with heap := hp, toks := tk }) (x := x0) hr.depth (kp2 _ _ hf) ⟨oc, vs, tq, kp2 _ _ hoc, hdc, hvc⟩ (I2.nolimit.keeps kp2) sk co gn (hb _ _ _ _ _ _) hx hnc fun h₁ tk2 hns kp3 => ?_
    have hwx : ws[x]? = some (ws.getD x 0) := by rw [List.getD_eq_getElem?_getD, List.getElem?_eq_getElem hxn]; rfl
    obtain ⟨u2, hu2, ru2⟩ := rv.get (i := x) (x := .int (ws.getD x 0)) (by rw [List.getElem?_map, hwx]; rfl)
    obtain ⟨t2, rfl⟩ := ru2
    obtain ⟨nl, hl, hl1, hl3⟩ := pl.isList
    obtain ⟨oce, hoce, hdce⟩ := hcell
    have hl2 : h₁.IsList pw its.toArray := ⟨nl, kp3 _ _ (kp2 _ _ hl), hl1, hl3⟩
    have hcell2 : h₁.IsCell c2 (some (.ref pw)) := ⟨oce, kp3 _ _ (kp2 _ _ hoce), hdce⟩
    have hm0 : (fun y => [(x0, Value.int (x : Int) t1)].lookup y) x0 = some (.int (x : Int) t1) := by
      show List.lookup x0 [(x0, Value.int (x : Int) t1)] = _
      rw [List.lookup_cons, beq_self_eq_true]
    have hx63 : (x : Int) < 2 ^ 63 := by omega
    cases kb with
    | lo => exact lam_lo (wi := ws.getD x 0) (s := { s2 with heap := h₁, toks := tk2 }) sk hx hyl hns hm0 hc2 hcell2 hl2 (by rw [List.getElem?_toArray]; exact hu2) hx63 dx dy cy
    | up => exact lam_up (wi := ws.getD x 0) (s := { s2 with heap := h₁, toks := tk2 }) sk hx hyl hns hm0 hc2 hcell2 hl2 (by rw [List.getElem?_toArray]; exact hu2) hx63 dx dy cy
  · have I3 : L2.Inv X pins σ H2 { s2 with heap := h1, toks := s2.toks } := I2.kept k1
    rw [dataLe_ii (β := Nat) (fun x => kyO up ws x) (fun x => (x : Int))] at eo
    refine ⟨.ref h1.objs.size, upd H2 h1.objs.size (.lst ((ordO up ws).map V.int)), I3.laid (t' := tk) k2 (Nat.le_refl _) ⟨?_, out, c4, vals_ord eo, hD⟩, rfl, q H2 gr _ (I3.hok.fresh (Nat.le_refl _))⟩
    unfold ordO ordN
    rw [List.length_map, List.length_map, List.length_mergeSort, List.length_range, sizeLine_eq]
    omega
end
end Br
namespace Br
open PySem PySem.Spec L2 PyProof.Rows LamX
variable [tgi : Tbs]
def ordM (up : Bool) (ws : List Int) (n : Int) : Rs (List Int) := if n = (ws.length : Int) ∧ ws.length ≤ 1000000 then .ok (ordO up ws) else .no
section
variable {α β : Type} {X : Cx} {W : WX} {cl : String → Addr} {Γ : Ctx}
theorem jn_srt (iw : Nat) {K0 : PySem.W.Frag} {L : List Int → Asn} {ws : List Int} [rd : RdL K0 L aI] [pr : PerF L] {c P : Addr} {params : Arguments} {body : Expr} {scope : Scope} {x0 y : Str} {up : Bool} {k : Nat} {p p2 p3 kp pos lpos : Pos} {a : Expr} {ta : TE} {m : Rs Int} (kb : KBody up body x0 y) (G : Gd X W k) (TB : TabB X.base X.mg c P) (hcode : X.env.code = .ref c) (hT : (P, X.env.qual ++ "<lambda>") ∈ tgi.T)
    (h1 : JN X W cl Γ a ta m aI) (hm : X.mg "sorted" = none) (hm2 : X.mg "range" = none) (hl : Γ[iw]? = some (some (L ws)) := by rfl) (hg : Gl X "sorted" := by rfl) (hg2 : Gl X "range" := by rfl) (na : starEach [a] X.env = (false, eval a X.env) :: starEach [] X.env := by rfl)
    (hN : X.N[iw]? = some y := by rfl) (hy : X.env.scope.names.lookup y = some .cell := by rfl) (hdef : defaultsOf params X.env = ([], []) := by rfl) (sk : scope.kind = .function := by rfl) (co : scope.isCoroutine = false := by rfl) (gn : scope.isGenerator = false := by rfl) (hx : scope.names.lookup x0 = some .local := by rfl) (hyl : scope.names.lookup y = some .free := by rfl)
    (hnc : ∀ z ∈ scope.names, z.2 ≠ .cell := by decide) (hfr0 : (scope.names.all fun z => !decide (z.2 = .free) || decide (X.env.scope.names.lookup z.1 = some .cell)) = true := by rfl)
    (hb : ∀ (q : Str) (cl : List (Str × Addr)) (pm cv ctv v : Value), bindArgs (PySem.W.kla_fn "<lambda>" q params body scope cl pm cv ctv) ⟨[v], []⟩ = pure [(x0, v)] := by intro _ _ _ _ _ _; rfl)
    (dx : (x0 == ("__debug__" : Str)) = false := by decide) (dy : (y == ("__debug__" : Str)) = false := by decide) (cy : (y == ("__classdict__" : Str)) = false := by decide)
    (hpl : (backTo pos (starEach [.Call (.Name "range" p2) [a] [] p3] X.env)).any (·.1) = false := by rfl) (he : starEach [.Call (.Name "range" p2) [a] [] p3] X.env = (false, eval (.Call (.Name "range" p2) [a] [] p3) X.env) :: starEach [] X.env := by rfl) (hK : X.K = K0 := by rfl) :
    JN X W cl Γ (.Call (.Name "sorted" p) [.Call (.Name "range" p2) [a] [] p3] [⟨some "key", .Lambda params body scope lpos, kp⟩] pos) (tSrt X.K P (X.env.qual ++ "<lambda>") iw up ta) (m.b fun n => ordM up ws n) (oA aI) := by
  subst hK
  have hfr : ∀ z ∈ scope.names, z.2 = .free → X.env.scope.names.lookup z.1 = some .cell := fun z hz e => by
    have := List.all_eq_true.mp hfr0 z hz
    simp only [Bool.or_eq_true, Bool.not_eq_true', decide_eq_false_iff_not, decide_eq_true_eq] at this
    rcases this with q | q
    · exact absurd e q
    · exact q
  obtain ⟨pe, ke⟩ := h1
  refine ⟨pe_srt kb G.calm G.room TB hcode pe hg hm hg2 hm2 na hN hy hdef sk co gn hx hyl hnc hfr hb dx dy cy hpl he, fun σ F O H R Q u s q => ke σ F O H R _ u s (q.bind.mono (fun n _ q v F1 h1 H1 l1 u1 p1 => ?_) fun c q => q)⟩
  obtain ⟨rfl, rfl⟩ := p1
  unfold ordM at q
  by_cases hn : n = (ws.length : Int) ∧ ws.length ≤ 1000000
  case neg => rw [if_neg hn] at q; exact q.elim
  rw [if_pos hn] at q
  obtain ⟨v0, e0, p0⟩ := s.per hl (pr.per ws)
  obtain ⟨a0, vs, h', rfl, sq, lh, sp⟩ := rd.rd _ _ _ _ ((L ws).mono l1 p0)
  have eh := sp.empE
  subst eh
  have ew := sep_ints sp
  have u2 := pt_skip u1 rfl
  have tg1 := s.tgo.mono l1
  refine ⟨n, rfl, ws, a0, rfl, hn.1, hn.2, e0, by rw [← ew]; exact sq H1 (u2.le (by simp)) emp_le, (tg1 _ hT).ext (u2.lp (by simp)), fun H2 gr p hp => ?_⟩
  obtain ⟨F2, l2, u3⟩ := grow_pt gr u2 hT tg1
  refine q (.ref p) F2 (one p (.lst ((ordO up ws).map V.int))) _ (l1.tr l2) ?_ ⟨p, _, emp, rfl, .r_emp, sep_intsI⟩
  exact (u3.alloc hp).perm (List.Perm.trans (.swap _ _ _) (.cons _ (.swap _ _ _)))
end
section
variable {P : Program} {w : World} {K : PySem.W.Frag} {mg : Str → Option Value} {base : Heap} {cl : String → Addr} {ι ρ S B : Type}
/-- THE RULE for a def that makes lambdas: its code object is told -/
theorem fn_okL {x qual : Str} {st : Stmt} {f : Addr} {fd : FuncData} {N ps : List Str} {k : Nat} {As : ι → List Asn} {m : ι → Fl B ρ S} {C : ρ → Asn} {d : S → ρ} {Γn : S → Ctx} {Γb : B → Ctx} (F : FnP K x qual st f fd) (S : FnScope N ps (defScope st))
    (len : ∀ i, (As i).length = ps.length) (hd : ∀ s F, (C (d s)).p .non F emp)
    (hb : ∀ (cdv : Value) (A : Around) (outer : List Env) (s : Shared) (H : Hp) (E : XK), fd.code = cdv → Gd (cxOf (L2.CX P w) P w K mg base N qual (defScope st) f cdv A outer s H E) (fun cls dd _ H' => E cls dd H') k → ∀ i,
      ∃ t, JB (cxOf (L2.CX P w) P w K mg base N qual (defScope st) f cdv A outer s H E) (fun cls dd _ H' => E cls dd H') cl ((As i).map some ++ List.replicate (N.length - ps.length) none) (defBody st) t (m i) Γn Γb (fun r v F h => (C r).p v F h) (List.replicate N.length none)) :
    FnR P w K mg base cl (k + 1) f fd ps As (fun i => (m i).fn d) C := by
  obtain ⟨oc, od, dV, kV, doc, pm, an, cdv, ct, osl, hfd, lk, hcd, hdv, hkw⟩ := F.ex
  subst hfd
  have hlen : ∀ vs H Q E, Fsp cl As (fun i => (m i).fn d) C vs H Q E → vs.length = ps.length := fun vs H Q E ⟨i, F, h, R, _, _, s, _⟩ => s.len.symm.trans (len i)
  refine fn_of lk hcd S hlen fun A outer s H vs Q E hr hsp => ?_
  have hv := hlen _ _ _ _ hsp
  obtain ⟨i, F0, h, R, tg0, u, sp, q⟩ := hsp
  have G : Gd (cxOf (L2.CX P w) P w K mg base N qual (defScope st) f cdv A outer s H E) (fun cls dd _ H' => E cls dd H') k := ⟨takes_of rfl rfl rfl rfl, passes_of rfl, rfl, S.nd, hr⟩
  obtain ⟨t, p, r⟩ := hb cdv A outer s H E rfl G i
  refine ⟨t, p, ?_⟩
  have e : L2.start N vs = vs.map some ++ List.replicate (N.length - ps.length) none := by unfold L2.start; rw [hv]
  rw [e]
  refine r _ F0 h H R _ u (sp.slots tg0 _) ?_
  replace q : Out ((m i).fn d) _ _ := q
  cases em : m i with
  | nx s => 
    rw [em] at q
    intro σ' F' O' H' l u' s'
    obtain ⟨F2, l1, _, u2⟩ := u'.leak
    exact q .non F2 emp H' (l.tr l1) (Pt.swap u2.addE) (hd s F2)
  | rt r => rw [em] at q; exact q
  | er c =>
    rw [em] at q
    intro σ' F' O' H' l u' s'
    obtain ⟨F2, l1, _, u2⟩ := u'.leak
    exact q F2 H' (l.tr l1) u2
  | bk b => rw [em] at q; exact q.elim
  | ct b => rw [em] at q; exact q.elim
  | no => rw [em] at q; exact q.elim
end
end Br
namespace Br
open PySem PySem.Spec L2 PyProof.Rows LamX
theorem exB_fbk {fb : List FB} {K : PySem.W.Frag} (c : (fb.all fun f => f K) = true) (i : Nat) {f : FB} (h : fb[i]? = some f) : f K = true := List.all_eq_true.mp c f (List.mem_of_getElem? h)
/-- two defs' tables are two -/
def tabNe (a b : He.Defn) : FB := fun K => decide ((He.cT K a).2 ≠ (He.cT K b).2)
theorem tabNe_ok {a b : He.Defn} {K : PySem.W.Frag} (h : tabNe a b K = true) : (He.cT K a).2 ≠ (He.cT K b).2 := of_decide_eq_true h
theorem defL {K : PySem.W.Frag} {mg : Str → Option Value} {base : Heap} {x : Str} {st : Stmt} {fd : FuncData} {tf : List He.Defn} (F : FnP K x x st (He.fAd K (x, none)) fd) (TB : ∀ p ∈ tf.map (He.cT K), TabB base mg p.1 p.2) (hm : (x, none) ∈ tf) :
    ∃ c P, fd.code = .ref c ∧ TabB base mg c P ∧ P = (He.cT K (x, none)).2 := by
  obtain ⟨oc, od, dV, kV, doc, pm, an, cdv, ct, osl, hfd, lk, hcd, _, _⟩ := F.ex
  obtain ⟨c, rfl⟩ := He.codeIn_ref hcd
  have e : fd.code = .ref c := by rw [hfd]
  have e2 := He.codeOf_eq lk e
  refine ⟨c, _, e, ?_, rfl⟩
  have := TB (He.cT K (x, none)) (List.mem_map.mpr ⟨_, hm, rfl⟩)
  have e3 : (He.cT K (x, none)).1 = c := e2
  rw [← e3]
  exact this
end Br
namespace Br
open PySem PySem.Spec L2 PyProof.Rows
variable [tgi : Tbs]
section
variable {α β : Type} {X : Cx} {W : WX} {cl : String → Addr} {Γ : Ctx} {a : Expr} {ta : TE} {pos p : Pos} {k : Nat}
theorem jn_tlenV {K0 : PySem.W.Frag} {T : α → Asn} {Es : α → List Asn} [rd : RdT T Es] {m : Rs α} (f : α → Int) (hm : X.mg "len" = none) (h1 : JN X W cl Γ a ta m T) (hn : ∀ x, ((Es x).length : Int) = f x) (hg : Gl X "len" := by rfl) (hs : starEach [a] X.env = (false, eval a X.env) :: starEach [] X.env := by rfl) (hK : X.K = K0 := by rfl) :
    JN X W cl Γ (.Call (.Name "len" p) [a] [] pos) (tCB (fun xs H Q => ∃ p ys, xs = [.ref p] ∧ (SqL K0 H p ys ∨ SqT K0 H p ys) ∧ Q (.int ys.length) H) (tCons ta tNil)) (m.b fun x => .ok (f x)) aI := by
  subst hK
  exact (JN.args (C := aI) (jns_one h1 hs) (fun q => pe_callB call_len_seq hg hm boot_len q (he := hs)) (f := fun x => some (f x)) fun x vs F h H R Q c e u sp k => by
    cases e
    obtain ⟨v, rfl, p1⟩ := sep1 sp
    obtain ⟨a, ws, h', rfl, sq, lh, sp⟩ := rd.rd _ _ _ _ p1
    obtain ⟨l1, l2⟩ := le_part u
    exact ⟨a, ws, rfl, .inr (SqT.of (sq H l1 l2)), kt_val k u fun F' _ _ => ⟨by rw [← sp.len, hn], rfl⟩⟩)
end
end Br
namespace Br
open PySem PySem.Spec L2 PyProof.Rows
variable [tgi : Tbs]
theorem sep_dropE {F : Hp} : ∀ (k : Nat) (As : List Asn) (vs : List V) (h : Hp), Sep As vs F h → (∀ A ∈ As.drop k, Per A) → Sep (As.drop k) (vs.drop k) F emp
  | 0, As, vs, h, s, p => by
    have e := s.per p
    subst e
    exact s
  | k + 1, [], [], h, s, p => rfl
  | k + 1, [], _ :: _, h, s, p => nomatch (s.len : 0 = _ + 1)
  | k + 1, _ :: _, [], h, s, p => nomatch (s.len : _ + 1 = 0)
  | k + 1, A :: As, v :: vs, h, s, p => by
    obtain ⟨h1, h2, r, q, t⟩ := s
    exact sep_dropE k As vs h2 t p
theorem pall_nil : ∀ A ∈ ([] : List Asn), Per A := fun _ m => nomatch m
theorem pall_cons {A : Asn} {As : List Asn} (h : Per A) (t : ∀ B ∈ As, Per B) : ∀ B ∈ A :: As, Per B := fun B m => by
  rcases List.mem_cons.mp m with rfl | m
  · exact h
  · exact t B m
section
variable {α β δ : Type} {X : Cx} {W : WX} {cl : String → Addr} {Γ : Ctx} {e a : Expr} {ta : TE} {pos p : Pos}
theorem jn_tslice {K0 : PySem.W.Frag} {T : α → Asn} {Es : α → List Asn} [rd : RdT T Es] {D : δ → Asn} (k : Nat) (g : α → δ) {m : Rs α} {j q1 p2} (h1 : JN X W cl Γ e ta m T) (hk : 0 < k) (hp : ∀ x, ∀ A ∈ (Es x).drop k, Per A) (hl : ∀ x, Nat.blt k (Es x).length = true := by intro _; rfl) (hi : ∀ x, D (g x) = aT ((Es x).drop k) := by intro _; rfl) (hK : X.K = K0 := by rfl) :
    JN X W cl Γ (.Subscript e (.Slice (some (.Constant (.int (k : Int)) j q1)) none none p2) pos) (tSl (rSlT K0) ta (tPart (tC (.int (k : Int)))) tNoPart) (m.b fun x => .ok (g x)) D := by
  subst hK
  obtain ⟨pe, ke⟩ := h1
  refine ⟨pe_slice sl_tup pe (po_some pe_int) po_none, fun σ F O H R Q u s q => ke σ F O H R _ u s (q.bind.mono (fun x _ q v F1 h1 H1 l1 u1 p1 => ?_) fun c q => q)⟩
  obtain ⟨ad, vs, h', rfl, sq, lh, sp⟩ := rd.rd _ _ _ _ p1
  have ln : k < vs.length := by rw [← sp.len]; exact Nat.blt_eq.mp (hl x)
  have dr := sep_dropE k _ _ _ sp (hp x)
  obtain ⟨F2, a1, a2, u2⟩ := pt_leak3 u1
  have hq := sq H1 (a1.tr (u2.le (by simp))) (a2.tr (u2.le (by simp)))
  have cv : cutV vs (some (k : Int)) none = vs.drop k := by
    unfold cutV
    rw [HT.sIx_nat, HT.sIx_none, Nat.min_eq_left (by omega)]
    exact List.take_of_length_le (by rw [List.length_drop]; exact Nat.le_refl _)
  refine ⟨_, rfl, ad, vs, rfl, SqT.of hq, fun z => ?_, fun b hb => ?_⟩
  · rw [HT.sIx_nat, Nat.min_eq_left (by omega)] at z
    omega
  · rw [cv]
    obtain ⟨c, jn, u3⟩ := (u2.alloc hb).join2
    refine q _ c emp _ (l1.tr (a1.tr (jn.le (by simp)))) (pt_addE u3) ?_
    rw [hi]
    exact ⟨rfl, b, vs.drop k, rfl, jn.at1, dr.mono (a1.tr (jn.le (by simp)))⟩
end
end Br
namespace Br
open PySem PySem.Spec L2 PyProof.Rows
variable [tgi : Tbs]
section
variable {α β γ δ ι ρ B T S S' S1 : Type} {X : Cx} {W : WX} {cl : String → Addr} {Γ Γe : Ctx} {tg e a b c : Expr} {es : List Expr} {pos p : Pos} {ta tb : TE} {k : Nat} {st : Stmt} {sts : List Stmt} {Γb : B → Ctx} {RA : RAs T} {Sx : δ → Asn} {d0 : δ}
theorem je_cal {x : Str} {t : TA} {j : Nat} {ps : List Str} {As : ι → List Asn} {fm : ι → Rs ρ} {C : ρ → Asn} {m : Rs ι} {Γ' : ι → Ctx} {Γ2 : Ctx} (G : Gd X W k) (cc : CalR X.prog X.w X.K X.mg X.base cl j x ps As fm C) (h : JEs X W cl Γ (e :: es) t m Γ' As Γe) (we : Wk Γ2 Γe) (hΓ : ∀ i, Γ' i = Γ2 := by intro _; rfl) (hj : j ≤ k := by decide) (hg : Gl X x := by rfl) (hdb : (x == ("__debug__" : Str)) = false := by decide)
    (he : starEach (e :: es) X.env = (false, eval e X.env) :: starEach es X.env := by rfl) (hpl : (backTo pos (starEach es X.env)).any (·.1) = false := by rfl) :
    JE X W cl Γ (.Call (.Name x p) (e :: es) [] pos) (tCallS (Fsp cl As fm C) (WE W) t) (m.b fm) (fun _ => Γ2) C Γe := by
  obtain ⟨f, fd, F, hm, kp, hb⟩ := cc.ex
  obtain ⟨pp, kk⟩ := h
  refine ⟨pe_callS F (G.room.mono hj) hg hm kp hb (passAt G.tk) pp hdb he hpl, fun σ F0 O H R Q u s q => kk σ F0 O H R _ u s (q.bind.mono (fun i _ q vs F' O' h H' l u' s' p' => ?_) fun c q => q)⟩
  rw [hΓ] at s'
  refine ⟨i, F', h, O' :: R, s'.tgo, u'.swap1, p', q.mono (fun r _ q v F2 h2 H2 l2 u2 p2 => q v F2 O' h2 H2 (l.tr l2) u2.swap1 (s'.mono l2) p2) fun c q F2 H2 l2 u2 => ?_⟩
  obtain ⟨F3, O3, l3, u3, s3⟩ := we.slots (s'.mono l2) u2
  exact q F3 O3 H2 (l.tr (l2.tr l3)) u3 s3
theorem je_calG {x : Str} {t : TA} {j : Nat} {ps : List Str} {As : ι → List Asn} {As' : α → List Asn} {fm : ι → Rs ρ} {C : ρ → Asn} {m : Rs α} {Γ' : α → Ctx} {Γ2 : Ctx} (g : α → ι) (G : Gd X W k) (cc : CalR X.prog X.w X.K X.mg X.base cl j x ps As fm C) (h : JEs X W cl Γ (e :: es) t m Γ' As' Γe) (we : Wk Γ2 Γe) (hA : ∀ a, As' a = As (g a) := by intro _; rfl) (hΓ : ∀ i, Γ' i = Γ2 := by intro _; rfl) (hj : j ≤ k := by decide) (hg : Gl X x := by rfl) (hdb : (x == ("__debug__" : Str)) = false := by decide)
    (he : starEach (e :: es) X.env = (false, eval e X.env) :: starEach es X.env := by rfl) (hpl : (backTo pos (starEach es X.env)).any (·.1) = false := by rfl) :
    JE X W cl Γ (.Call (.Name x p) (e :: es) [] pos) (tCallS (Fsp cl As fm C) (WE W) t) (m.b fun a => fm (g a)) (fun _ => Γ2) C Γe := by
  have h2 : JEs X W cl Γ (e :: es) t (m.b fun a => .ok (g a)) (fun _ => Γ2) As Γe := by
    obtain ⟨p, kk⟩ := h
    refine ⟨p, fun σ F O H R Q u s q => kk σ F O H R Q u s (q.bind.mono (fun a _ q vs F' O' h H' l u' s' p' => ?_) fun c q => q)⟩
    exact q vs F' O' h H' l u' (hΓ a ▸ s') (hA a ▸ p')
  have := je_cal (p := p) G cc h2 we (fun _ => rfl) hj hg hdb he hpl
  have e : (m.b fun a => Rs.ok (g a)).b fm = m.b fun a => fm (g a) := by cases m <;> rfl
  rwa [e] at this
/-- an own part of one's own tuple, given away; the others stay -/
theorem je_mvprt2 {K0 : PySem.W.Frag} (i : Nat) (k : Nat) {x : Str} {l l' : List Asn} {Bf : γ → Asn} (g : γ) {px q1 pos : Pos} {j} (hl : Γ[i]? = some (some (oT l)) := by rfl) (hk : l[k]? = some (Bf g) := by rfl) (hl2 : l.set k (aAny ()) = l' := by rfl) (hN : X.N[i]? = some x := by rfl)
    (hv : Vis X.env.scope x := by first | exact Or.inl rfl | exact Or.inr (Or.inl rfl) | exact Or.inr (Or.inr rfl)) (hd : (x == ("__debug__" : Str)) = false := by decide) (hcd : (x == ("__classdict__" : Str)) = false := by decide) (hK : X.K = K0 := by rfl) :
    JE X W cl Γ (.Subscript (.Name x px) (.Constant (.int (k : Int)) j q1) pos) (tOp (rIxT K0) (tVar i) (tC (.int (k : Int)))) (.ok g) (fun _ => Γ.set i (some (oT l'))) Bf Γe := by
  subst hK
  refine ⟨pe_ix ix_tup (pe_var hN hv hd hcd) pe_int (fun _ _ => rfl), fun σ F O H R Q u s q => ?_⟩
  obtain ⟨x', h, O', e', t, ⟨v0, rfl, p0⟩, s'⟩ := s.take hl
  obtain ⟨ad, vs, rfl, t2, sp⟩ := p0
  obtain ⟨v, fp, fc, ev, tf, pv, kf⟩ := sp.focusL hk
  have w1 : Pt (h :: O' :: F :: R) H := (u.swap).split2 t
  have w2 : Pt (fp :: fc :: O' :: F :: R) H := w1.split2 tf
  have sp2 : Sep l' vs F fc := hl2 ▸ kf (aAny ()) F emp fc .rfl rfl .l_emp
  obtain ⟨O2, jn, w3⟩ := (w2.perm (l' := fc :: O' :: fp :: F :: R) ((List.perm_append_comm (l₁ := [fp]) (l₂ := [fc, O'])).append_right (F :: R))).join2
  have s2 := s'.put' (set_none_at hl) e' (A := oT l') ⟨ad, vs, rfl, t2, sp2⟩ jn
  rw [set_set] at s2
  exact ⟨.ref ad, e', ad, vs, k, v, rfl, rfl, SqT.of ((u.le (by simp) : Le F H) _ _ t2), atI_nat ev, q v F O2 fp H .rfl (w3.perm ((List.perm_append_comm (l₁ := [O2, fp]) (l₂ := [F])).append_right R |>.trans (.refl _))) s2 pv⟩
theorem noBk_rt {r : T} : NoBk (.rt r : Fl B T S') := fun b => ⟨fun e => (nomatch e), fun e => (nomatch e)⟩
theorem noBk_er {c : String} : NoBk (.er c : Fl B T S') := fun b => ⟨fun e => (nomatch e), fun e => (nomatch e)⟩
theorem noBk_ite {c : Prop} [Decidable c] {m n : Fl B T S'} (h1 : NoBk m) (h2 : NoBk n) : NoBk (if c then m else n) := by split <;> assumption
theorem noBk_v {m : Fl B T Empty} (h : NoBk m) : NoBk (m.v : Fl B T S') := fun b => by
  have := h b
  cases m with
  | nx s => exact s.elim
  | rt r => exact ⟨fun e => (nomatch e), fun e => (nomatch e)⟩
  | bk x => exact ⟨fun e => (by cases e; exact this.1 rfl), fun e => (nomatch e)⟩
  | ct x => exact ⟨fun e => (nomatch e), fun e => (by cases e; exact this.2 rfl)⟩
  | er c => exact ⟨fun e => (nomatch e), fun e => (nomatch e)⟩
  | no => exact ⟨fun e => (nomatch e), fun e => (nomatch e)⟩
theorem noBk_b {m : Fl B T S1} {f : S1 → Fl B T S'} (h1 : NoBk m) (h2 : ∀ s, NoBk (f s)) : NoBk (m.b f) := fun b => by
  have h := h1 b
  cases m with
  | nx s => exact h2 s b
  | rt r => exact ⟨fun e => (nomatch e), fun e => (nomatch e)⟩
  | bk x => exact ⟨fun e => (by cases e; exact h.1 rfl), fun e => (nomatch e)⟩
  | ct x => exact ⟨fun e => (nomatch e), fun e => (by cases e; exact h.2 rfl)⟩
  | er c => exact ⟨fun e => (nomatch e), fun e => (nomatch e)⟩
  | no => exact ⟨fun e => (nomatch e), fun e => (nomatch e)⟩
theorem jb_alias (i j : Nat) {x : Str} {pos' : Pos} {t : TE} {t2 : TS} {m : Rs ι} {A : α → Asn} {get : ι → α} {put : ι → α → δ} {kk : ι → Fl B T S1} {Γ1 : ι → V → V → S1 → Ctx} {Γn : S' → Ctx} {Γ0 : B → Ctx} [ne : Nonempty ι] (nd : X.N.Nodup) (h : JP X W cl Γ i none Sx d0 e t m A get put) (we : Wk Γ Γe) {ya : ι → S1 → α} {gg : ι → S1 → S'}
    (hb : ∀ z v0 vp, JB X W cl ((Γ.set i (some (aV v0))).set j (some (atv vp (A (get z))))) sts t2 (kk z) (Γ1 z v0 vp) Γ0 RA Γe) (nb : ∀ z, NoBk (kk z)) (hRA : ∀ r v F F' h, Le F F' → RA r v F h → RA r v F' h) (h3 : ∀ z v0 vp s, Wk (((Γ1 z v0 vp s).set j none).set i (some (Sx (put z (ya z s))))) (Γn (gg z s)))
    (h1 : ∀ z v0 vp s, (Γ1 z v0 vp s)[i]? = some (some (aV v0)) := by intro _ _ _ _; rfl) (h2 : ∀ z v0 vp s, (Γ1 z v0 vp s)[j]? = some (some (atv vp (A (ya z s)))) := by intro _ _ _ _; rfl)
    (hij : i ≠ j := by decide) (hjl : Nat.blt j Γ.length = true := by rfl)
    (hi : X.N[j]? = some x := by rfl) (hx : Loc X.env.scope x := by first | exact Or.inl rfl | exact Or.inr rfl)
    (hs : swapsWith e (some (.Name x pos')) pos.line X.env = pure false := by rfl) (hf : X.fn x = true ∨ X.env.scope.names.lookup x = some .local := by first | exact .inl rfl | exact .inr rfl) :
    JB X W cl Γ (.Assign [.Name x pos'] e pos :: sts) (tSeq (tAsg t (gName j)) t2) (m.f fun z => (kk z).b fun s => .nx (gg z s)) Γn Γb RA Γe := by
  have hl := h.hl
  refine ⟨ne.elim fun z => pss_cons (ps_set nd hi hx h.pe hs hf) (hb z .non .non).pe, fun σ F O H R D u s q => ?_⟩
  obtain ⟨x0, h0, O', e', t0, ⟨v0, rfl, p0⟩, s'⟩ := s.take hl
  refine h.run σ F O H R _ u s v0 h0 O' e' t0 p0 (q.bindR.mono (fun z _ q v F' H' l u' lens => ?_) fun c q F' H' l u' => ?_)
  · obtain ⟨hp, hc, tt, pA, back⟩ := lens
    have w1 : Pt (h0 :: O' :: F' :: R) H' := (u'.swap).split2 t0
    have w2 : Pt (hp :: hc :: O' :: F' :: R) H' := w1.split2 tt
    have sA := (s'.mono l).put' (set_none_at hl) e' (A := aV v0) ⟨rfl, rfl⟩ .l_emp
    rw [set_set] at sA
    have w3 : Pt (F' :: O' :: hp :: hc :: R) H' := w2.perm (((List.perm_append_comm (l₁ := [hp, hc]) (l₂ := [O', F'])).trans ((List.Perm.swap _ _ _))).append_right R)
    obtain ⟨F2, O2, l2, w4, sB⟩ := put_at (A := atv v (A (get z))) sA (by rw [List.length_set]; exact Nat.blt_eq.mp hjl) ⟨rfl, pA⟩ w3
    refine (hb z v0 v).run _ F2 O2 H' (hc :: R) D (w4) sB ?_
    have q2 := wants_le (l.tr l2) q
    cases ek : kk z with
    | nx s1 =>
      rw [ek] at q2
      intro σ3 F3 O3 H3 l3 u3 s3
      obtain ⟨x4, h4, O4, e4, t4, ⟨v4, rfl, ev4, pA4⟩, s4⟩ := s3.take (h2 z v0 v s1)
      have hi4 : ((Γ1 z v0 v s1).set j none)[i]? = some (some (aV v0)) := by rw [List.getElem?_set_ne (Ne.symm hij)]; exact h1 z v0 v s1
      obtain ⟨x5, h5, O5, e5, t5, ⟨v5, rfl, ev5, p5⟩, s5⟩ := s4.take hi4
      subst p5
      have eo := t5.emp_l
      subst eo
      have ev5 : v5 = v0 := ev5
      have ev4 : v4 = v := ev4
      subst ev5 ev4
      have u4 : Pt (h4 :: hc :: F3 :: O4 :: R) H3 := ((u3.swap).split2 t4).perm (.cons _ ((List.perm_append_comm (l₁ := [O4, F3]) (l₂ := [hc])).append_right R |>.trans (.cons _ (.swap _ _ _))))
      obtain ⟨g, jg, u5⟩ := u4.join2
      have pS := back (ya z s1) F3 h4 g (l2.tr l3) pA4 jg
      obtain ⟨O6, j6, u6⟩ := (u5.perm (l' := g :: O4 :: F3 :: R) (.cons _ (.swap _ _ _))).join2
      have s6 := s5.put' (by rw [List.getElem?_set_self (by have := (List.getElem?_eq_some_iff.mp hi4).1; exact this)]) e5 (A := Sx (put z (ya z s1))) pS j6
      rw [set_set] at s6
      obtain ⟨F7, O7, l7, u7, s7⟩ := (h3 z v5 v4 s1).slots s6 u6.swap
      exact q2 σ3 F7 O7 H3 (l3.tr l7) u7 s7
    | rt r =>
      rw [ek] at q2
      intro v3 F3 h3' H3 l3 u3 pr
      obtain ⟨F4, l4, l5, u4⟩ := (u3.perm (l' := F3 :: hc :: h3' :: R) (.cons _ (.swap _ _ _))).leak
      exact q2 v3 F4 h3' H3 (l3.tr l4) u4 (hRA _ _ _ _ _ l4 pr)
    | er c =>
      rw [ek] at q2
      intro σ3 F3 O3 H3 l3 u3 s3
      obtain ⟨F4, l4, l5, u4⟩ := (u3.perm (l' := F3 :: hc :: O3 :: R) (.cons _ (.swap _ _ _))).leak
      exact q2 σ3 F4 O3 H3 (l3.tr l4) u4 (s3.mono l4)
    | bk b => exact absurd ek (nb z b).1
    | ct b => exact absurd ek (nb z b).2
    | no => rw [ek] at q2; exact q2
  · obtain ⟨F2, O2, l2, u2, s2⟩ := we.slots (s.mono l) u'
    exact q σ F2 O2 H' (l.tr l2) u2 s2
def mapR (f : α → Rs α) : List α → Rs (List α)
  | [] => .ok []
  | x :: xs => (f x).b fun y => (mapR f xs).b fun ys => .ok (y :: ys)
theorem jl_forown {w : Option V} (i j : Nat) {K0 : PySem.W.Frag} {x : Str} {px : Pos} {iter : Expr} {tI : TE} {tb : TS} {mi : Rs ι} {E : α → Asn} {get : ι → List α} {put : ι → List α → δ} {f : α → Rs α} [ne : Nonempty α] (G : Gd X W k) (h : JP X W cl Γ i w Sx d0 iter tI mi (oA E) get put) (we : Wk Γ Γe)
    (hb : ∀ v0 vp y, JL X W cl ((Γ.set i (some (aV v0))).set j (some (atv vp (E y)))) st tb (f y) (fun y' => (Γ.set i (some (aV v0))).set j (some (atv vp (E y')))) Γe) (hij : i ≠ j := by decide) (hjl : Nat.blt j Γ.length = true := by rfl) (hjn : Γ[j]? = some none := by rfl)
    (hi : X.N[j]? = some x := by rfl) (hx : Loc X.env.scope x := by first | exact Or.inl rfl | exact Or.inr rfl) (hf : X.fn x = true ∨ X.env.scope.names.lookup x = some .local := by first | exact .inl rfl | exact .inr rfl) (hs : ∀ x, foldedSetIterable iter X.env x = pure x := by intro _; rfl) (hK : X.K = K0 := by rfl) :
    JL X W cl Γ (.For (.Name x px) iter [st] [] pos) (tFor (iList K0 tI) (gName j) tb) (mi.b fun z => (mapR f (get z)).b fun ys => .ok (put z ys)) (fun d => Γ.set i (some (ow w (Sx d)))) Γe := by
  subst hK
  have hl := h.hl
  refine ⟨ps_for G.po G.calm (pi_list h.pe) (pg_name G.nd hi hx hf) (ne.elim fun y => pss_one (hb .non .non y).pe) hs, fun σ F O H R D u s q => ?_⟩
  obtain ⟨x0, h0, O', e', t0, ⟨v0, rfl, p0⟩, s'⟩ := s.take hl
  refine h.run σ F O H R _ u s v0 h0 O' e' t0 p0 (q.bind.mono (fun z _ q v F' H' l u' lens => ?_) fun c q F' H' l u' => ?_)
  · obtain ⟨hp, hc, tt, pA, back⟩ := lens
    obtain ⟨a, vs, hi0, rfl, tl, sp⟩ := pA
    have w1 : Pt (h0 :: O' :: F' :: R) H' := (u'.swap).split2 t0
    have w2 : Pt (hp :: hc :: O' :: F' :: R) H' := w1.split2 tt
    have w3 : Pt (one a (.lst vs) :: hi0 :: hc :: O' :: F' :: R) H' := w2.split2 tl
    have sA := (s'.mono l).put' (set_none_at hl) e' (A := aV v0) ⟨rfl, rfl⟩ .l_emp
    rw [set_set] at sA
    have hj0 : (Γ.set i (some (aV v0)))[j]? = some none := by rw [List.getElem?_set_ne hij]; exact hjn
    have w4 : Pt (F' :: O' :: one a (.lst vs) :: hi0 :: hc :: R) H' := w3.perm (((List.perm_append_comm (l₁ := [one a (.lst vs), hi0, hc]) (l₂ := [O', F'])).trans (.swap _ _ _)).append_right R)
    generalize hxs : get z = xs at *
    have lxs : xs.length = vs.length := by have := sp.len; rwa [List.length_map] at this
    have sq : ∀ {H}, Le (one a (.lst vs)) H → SqL X.K H a vs := fun l => SqL.of (l _ _ one_same)
    refine ⟨a, rfl, ⟨vs, sq (w4.le (by simp))⟩, fun n m σ H => m = xs.length - n ∧ n ≤ xs.length ∧ ∃ ys F2 O2 hi2, ys.length = n ∧ Le F' F2 ∧ Pt (F2 :: O2 :: one a (.lst vs) :: hi2 :: hc :: R) H ∧ Slots (Γ.set i (some (aV v0))) σ F2 O2 ∧ Sep ((ys ++ xs.drop n).map E) vs F2 hi2 ∧
      Out (mapR f (xs.drop n)) (fun zs => ∀ σ' F3 O3 H3, Le F2 F3 → Pt (F3 :: O3 :: R) H3 → Slots (Γ.set i (some (ow w (Sx (put z (ys ++ zs)))))) σ' F3 O3 → D.nx σ' H3) (fun c => ∀ σ' F3 O3 H3, Le F2 F3 → Pt (F3 :: O3 :: R) H3 → Slots Γe σ' F3 O3 → W (.ref (cl c)) none σ' H3),
      ⟨xs.length, by simp, Nat.zero_le _, [], F', O', hi0, rfl, .rfl, w4, sA, by rw [List.drop_zero]; exact sp, by rw [List.drop_zero]; exact q.bind.mono (fun zs _ q σ' F3 O3 H3 l3 => q σ' F3 O3 H3 (l.tr l3)) fun c q σ' F3 O3 H3 l3 => q σ' F3 O3 H3 (l.tr l3)⟩, ?_⟩
    rintro n m σ2 H2 ⟨rfl, hle, ys, F2, O2, hi2, yl, l2, u2, s2, sp2, q2⟩
    by_cases hlt : n < xs.length
    · right
      have hn : ((ys ++ xs.drop n).map E)[n]? = some (E xs[n]) := by
        rw [List.getElem?_map, List.getElem?_append_right (by omega), yl, Nat.sub_self, List.getElem?_drop, Nat.add_zero, List.getElem?_eq_getElem hlt]
        rfl
      obtain ⟨v, fp, fc, ev, tf, pv, kf⟩ := sp2.focusL hn
      rw [List.drop_eq_getElem_cons hlt] at q2
      have sqn : SqL X.K H2 a vs := sq (u2.le (by simp))
      refine ⟨⟨vs, v, sqn, ev⟩, fun σ' H' => ∃ y F3 O3 hi3, Le F' F3 ∧ Pt (F3 :: O3 :: one a (.lst vs) :: hi3 :: hc :: R) H' ∧ Slots (Γ.set i (some (aV v0))) σ' F3 O3 ∧ Sep (((ys ++ [y]) ++ xs.drop (n + 1)).map E) vs F3 hi3 ∧
        Out (mapR f (xs.drop (n + 1))) (fun zs => ∀ σ' F4 O4 H4, Le F3 F4 → Pt (F4 :: O4 :: R) H4 → Slots (Γ.set i (some (ow w (Sx (put z ((ys ++ [y]) ++ zs)))))) σ' F4 O4 → D.nx σ' H4) (fun c => ∀ σ' F4 O4 H4, Le F3 F4 → Pt (F4 :: O4 :: R) H4 → Slots Γe σ' F4 O4 → W (.ref (cl c)) none σ' H4),
        fun σ' H' ⟨y, F3, O3, hi3, l3, u3, s3, sp3, q3⟩ => ⟨_, by omega, rfl, hlt, ys ++ [y], F3, O3, hi3, by simp [yl], l3, u3, s3, sp3, q3⟩, fun w H3 ⟨e3, hw⟩ => ?_⟩
      subst e3
      have ew := hw vs sqn
      rw [ev] at ew; cases ew
      -- the item goes into its slot
      have u3 : Pt (fp :: fc :: hc :: F2 :: O2 :: one a (.lst vs) :: R) H3 := (u2.perm (l' := hi2 :: hc :: F2 :: O2 :: one a (.lst vs) :: R) ((List.perm_append_comm (l₁ := [F2, O2, one a (.lst vs)]) (l₂ := [hi2, hc])).append_right R)).split2 tf
      obtain ⟨O3, j3, u4⟩ := (u3.perm (l' := fp :: O2 :: F2 :: fc :: one a (.lst vs) :: hc :: R) (.cons _ (by
        have : List.Perm [fc, hc, F2, O2, one a (.lst vs)] [O2, F2, fc, one a (.lst vs), hc] := by
          refine (List.perm_append_comm (l₁ := [fc, hc, F2]) (l₂ := [O2, one a (.lst vs)])).trans (.cons _ ?_)
          refine (List.perm_append_comm (l₁ := [one a (.lst vs), fc, hc]) (l₂ := [F2])).trans (.cons _ ?_)
          exact .swap _ _ _
        exact this.append_right R))).join2
      have s3 := s2.put hj0 (A := atv v (E xs[n])) (v := v) ⟨rfl, pv⟩ j3
      refine (hb v0 v xs[n]).run _ F2 O3 H3 (fc :: one a (.lst vs) :: hc :: R) _ u4.swap s3 (q2.bind.mono (fun y _ q2 σ4 F4 O4 H4 l4 u5 s4 => ?_) fun c q2 σ4 F4 O4 H4 l4 u5 s4 => ?_)
      · obtain ⟨x5, h5, O5, e5, t5, ⟨v5, rfl, ev5, p5⟩, s5⟩ := s4.take (by rw [List.getElem?_set_self (by rw [List.length_set]; exact Nat.blt_eq.mp hjl)])
        have ev5 : v5 = v := ev5
        subst ev5
        rw [set_set] at s5
        have sj : (Γ.set i (some (aV v0))).set j none = Γ.set i (some (aV v0)) := by
          apply List.ext_getElem?
          intro n'
          by_cases en : n' = j
          · subst en
            rw [List.getElem?_set_self (by rw [List.length_set]; exact Nat.blt_eq.mp hjl), hj0]
          · rw [List.getElem?_set_ne (Ne.symm en)]
        rw [sj] at s5
        have u6 : Pt (h5 :: O5 :: F4 :: fc :: one a (.lst vs) :: hc :: R) H4 := (u5.swap).split2 t5
        obtain ⟨hi3, j6, u7⟩ := (u6.perm (l' := h5 :: fc :: F4 :: O5 :: one a (.lst vs) :: hc :: R) (.cons _ (by
          have : List.Perm [O5, F4, fc] [fc, F4, O5] := (List.perm_append_comm (l₁ := [O5, F4]) (l₂ := [fc])).trans (.cons _ (.swap _ _ _))
          exact this.append_right (one a (.lst vs) :: hc :: R)))).join2
        have sp4 := kf (E y) F4 h5 hi3 l4 p5 j6
        refine ⟨y, F4, O5, hi3, l2.tr l4, u7.perm (by
          have : List.Perm [hi3, F4, O5, one a (.lst vs)] [F4, O5, one a (.lst vs), hi3] := List.perm_append_comm (l₁ := [hi3]) (l₂ := [F4, O5, one a (.lst vs)])
          exact this.append_right (hc :: R)), s5, ?_, ?_⟩
        · have em : ((ys ++ xs.drop n).map E).set n (E y) = (((ys ++ [y]) ++ xs.drop (n + 1)).map E) := by
            rw [List.drop_eq_getElem_cons hlt, List.map_append, List.map_cons, List.set_append_right _ _ (by rw [List.length_map, yl]; exact Nat.le_refl _), List.length_map, yl, Nat.sub_self, List.set_cons_zero]
            simp
          rw [← em]
          exact sp4
        · exact q2.bind.mono (fun zs _ q σ' F3 O3 H3 l3 u s => q σ' F3 O3 H3 (l4.tr l3) u (by rw [List.append_assoc] at s; exact s)) fun c q σ' F3 O3 H3 l3 => q σ' F3 O3 H3 (l4.tr l3)
      · obtain ⟨F5, l5, _, u6⟩ := (u5.perm (l' := F4 :: fc :: O4 :: one a (.lst vs) :: hc :: R) (.cons _ (.swap _ _ _))).leak
        obtain ⟨F6, l6, _, u7⟩ := (u6.perm (l' := F5 :: one a (.lst vs) :: O4 :: hc :: R) (.cons _ (.swap _ _ _))).leak
        obtain ⟨F7, l7, _, u8⟩ := (u7.perm (l' := F6 :: hc :: O4 :: R) (.cons _ (.swap _ _ _))).leak
        exact q2 σ4 F7 O4 H4 (l4.tr (l5.tr (l6.tr l7))) u8 (s4.mono (l5.tr (l6.tr l7)))
    · have ee : n = xs.length := by omega
      subst ee
      left
      rw [List.drop_length] at q2 sp2
      refine ⟨⟨vs, sq (u2.le (by simp)), by omega⟩, ?_⟩
      have q2 : ∀ σ' F3 O3 H3, Le F2 F3 → Pt (F3 :: O3 :: R) H3 → Slots (Γ.set i (some (ow w (Sx (put z (ys ++ [])))))) σ' F3 O3 → D.nx σ' H3 := q2
      have u3 : Pt (one a (.lst vs) :: hi2 :: hc :: F2 :: O2 :: R) H2 := u2.perm ((List.perm_append_comm (l₁ := [F2, O2]) (l₂ := [one a (.lst vs), hi2, hc])).append_right R)
      obtain ⟨g1, j1, u4⟩ := u3.join2
      obtain ⟨g2, j2, u5⟩ := u4.join2
      have hi4 : (Γ.set i (some (aV v0)))[i]? = some (some (aV v0)) := by rw [List.getElem?_set_self (by have := (List.getElem?_eq_some_iff.mp hl).1; exact this)]
      obtain ⟨x5, h5, O5, e5, t5, ⟨v5, rfl, ev5, p5⟩, s5⟩ := s2.take hi4
      subst p5
      have eo := t5.emp_l
      subst eo
      have ev5 : v5 = v0 := ev5
      subst ev5
      rw [set_set] at s5
      have pS := back ys F2 g1 g2 l2 ⟨a, vs, hi2, rfl, j1, by rw [List.append_nil] at sp2; exact sp2⟩ j2
      obtain ⟨O6, j6, u6⟩ := (u5.perm (l' := g2 :: O2 :: F2 :: R) (.cons _ (.swap _ _ _))).join2
      have s6 := s5.put' (set_none_at hl) e5 (A := ow w (Sx (put z ys))) pS j6
      rw [set_set] at s6
      exact q2 σ2 F2 O6 H2 .rfl u6.swap (by rw [List.append_nil]; exact s6)
  · obtain ⟨F2, O2, l2, u2, s2⟩ := we.slots (s.mono l) u'
    exact q σ F2 O2 H' (l.tr l2) u2 s2
theorem Sep.focusV {F : Hp} : ∀ {As : List Asn} {vs : List V} {h : Hp} {n : Nat} {A : Asn}, Sep As vs F h → As[n]? = some A → ∃ hp hc, Pt [hp, hc] h ∧ ∀ (B : Asn) z F2 h2 h3, Le F F2 → B.p z F2 h2 → Pt [h2, hc] h3 → Sep (As.set n B) (vs.set n z) F2 h3
  | A0 :: As, v :: vs, _, 0, _, ⟨h1, h2, t, p, r⟩, e => ⟨h1, h2, t, fun B z F2 g g3 l q u => ⟨g, h2, u, q, Sep.mono l r⟩⟩
  | A0 :: As, v :: vs, _, n + 1, _, ⟨h1, h2, t, p, r⟩, e => by
    obtain ⟨hp, hc, t2, k⟩ := Sep.focusV (n := n) r (by simpa using e)
    have w : Pt [hp, hc, h1] _ := (t.swap).unfold t2
    obtain ⟨d, j, z2⟩ := (w.perm (l' := [hc, h1, hp]) (List.perm_append_comm (l₁ := [hp]) (l₂ := [hc, h1]))).join2
    refine ⟨hp, d, z2.swap, fun B z F2 g g3 l q t3 => ?_⟩
    have w2 : Pt [hc, h1, g] g3 := (t3.swap).unfold j
    obtain ⟨m, j2, z3⟩ := (w2.perm (l' := [g, hc, h1]) (List.perm_append_comm (l₁ := [hc, h1]) (l₂ := [g]))).join2
    exact ⟨h1, m, z3.swap, A0.mono l p, k B z F2 g m l q j2⟩
  | [], [], _, _, _, _, e => by simp at e
theorem jl_putO {w : Option V} {i : Nat} {A : α → Asn} {m : Rs ι} {n : Rs α} {o : Rs Int} {get : ι → List α} {put : ι → List α → δ} {apos : Pos} {ie : Expr} {tc : TE} (we : Wk Γ Γe) (hv : JN X W cl Γ e tb n A) (h : JP X W cl Γ i w Sx d0 a ta m (oA A) get put) (h2 : JN X W cl Γ ie tc o aI)
    (ha : ∀ v, assign (.Subscript a ie apos) X.env v = (do
      let ov ← holding [v] (eval a X.env)
      let iv ← holding [v, ov] (eval ie X.env)
      standAt apos
      holding [v, ov, iv] (setItem ov iv v)
      release [v, ov, iv] []) := by intro _; rfl)
    (hs : swapsWithSole [.Subscript a ie apos] e pos.line X.env = pure false := by rfl) (hw : swappedStores [.Subscript a ie apos] e X.env = pure none := by rfl)
    (h1 : (assignEach [.Subscript a ie apos] X.env).map (·.2) = [assign (.Subscript a ie apos) X.env] := by rfl) :
    JL X W cl Γ (.Assign [.Subscript a ie apos] e pos) (tAsg tb (gSub ta tc rSetL)) (n.b fun y => m.b fun x => o.b fun j => (setM (get x) j y).b fun zs => .ok (put x zs)) (fun d => Γ.set i (some (ow w (Sx d)))) Γe := by
  have hl := h.hl
  refine ⟨ps_asg hv.pe (pg_sub h.pe h2.pe set_list ha) hs hw h1, fun σ F O H R D u s q => ?_⟩
  refine hv.run σ F O H R _ u s (q.bind.mono (fun y _ q z F1 g H1 l1 u1 p1 => ?_) fun c q F' H' l' u' => ?_)
  · refine jp_place h u1 (s.mono l1) (q.bind.mono (fun x _ q v v0 h0 O' F2 H2 l2 u2 e0 t0 s2 ln => ?_) fun c q F' H' l' u' => ?_)
    · refine h2.run σ F2 O H2 (g :: R) _ u2 (s.mono (l1.tr l2)) (q.bind.mono (fun j _ q jv F3 g3 H3 l3 u3 p3 => ?_) fun c q F' H' l' u' => ?_)
      · obtain ⟨rfl, rfl⟩ := p3
        replace q := q.bind
        obtain ⟨ad, vs, h', hc, rfl, sp, el, w2, back⟩ := plc_list hl e0 t0 (s2.mono l3) (ln.mono l3) (pt_skip u3 rfl)
        unfold setM at q
        cases ej : ixN (get x).length j with
        | none => rw [ej] at q; exact q.elim
        | some nn =>
          rw [ej] at q
          refine ⟨ad, vs, j, nn, rfl, rfl, w2.at1, by rw [← el]; exact ej, ?_⟩
          have ln : nn < (get x).length := by
            unfold ixN at ej
            split at ej
            · split at ej
              · cases ej; omega
              · cases ej
            · split at ej
              · cases ej; omega
              · cases ej
          obtain ⟨fp, fc, tf, kf⟩ := sp.focusV (map_at (E := A) (List.getElem?_eq_getElem ln))
          have w3 : Pt (one ad (.lst (vs.set nn z)) :: h' :: hc :: O' :: F3 :: g :: R) _ := w2.write
          have w4 : Pt (fp :: fc :: one ad (.lst (vs.set nn z)) :: hc :: O' :: F3 :: g :: R) _ := (w3.swap).split2 tf
          -- the old item is nobody's
          obtain ⟨F4, l4, _, w5⟩ := (w4.perm (l' := F3 :: fp :: fc :: one ad (.lst (vs.set nn z)) :: hc :: O' :: g :: R) ((List.perm_append_comm (l₁ := [fp, fc, one ad (.lst (vs.set nn z)), hc, O']) (l₂ := [F3])).append_right (g :: R))).leak
          obtain ⟨h2', j2, w6⟩ := (w5.perm (l' := g :: fc :: F4 :: one ad (.lst (vs.set nn z)) :: hc :: O' :: R) (by
            have : List.Perm [F4, fc, one ad (.lst (vs.set nn z)), hc, O', g] [g, fc, F4, one ad (.lst (vs.set nn z)), hc, O'] := (List.perm_append_comm (l₁ := [F4, fc, one ad (.lst (vs.set nn z)), hc, O']) (l₂ := [g])).trans (.cons _ (.swap _ _ _))
            exact this.append_right R)).join2
          have sp2 := kf (A y) z F4 g h2' l4 ((A y).mono (l2.tr (l3.tr l4)) p1) j2
          rw [← List.map_set] at sp2
          obtain ⟨O3, w7, s3⟩ := back ((get x).set nn y) (vs.set nn z) F4 h2' R _ l4 sp2 (w6.perm (by
            have : List.Perm [h2', F4, one ad (.lst (vs.set nn z)), hc, O'] [one ad (.lst (vs.set nn z)), h2', hc, O', F4] := by
              refine (List.perm_append_comm (l₁ := [h2', F4]) (l₂ := [one ad (.lst (vs.set nn z)), hc, O'])).trans (.cons _ ?_)
              exact (List.perm_append_comm (l₁ := [hc, O']) (l₂ := [h2', F4])).trans (.cons _ (List.perm_append_comm (l₁ := [F4]) (l₂ := [hc, O'])))
            exact this.append_right R))
          exact q σ F4 O3 _ (l1.tr (l2.tr (l3.tr l4))) w7 s3
      · obtain ⟨F4, l4, _, u4⟩ := (u'.perm (l' := F' :: g :: O :: R) (.cons _ (.swap _ _ _))).leak
        obtain ⟨F2, O2, l5, u5, s5⟩ := we.slots (s.mono (l1.tr (l2.tr (l'.tr l4)))) u4
        exact q σ F2 O2 H' (l1.tr (l2.tr (l'.tr (l4.tr l5)))) u5 s5
    · obtain ⟨F4, l4, _, u4⟩ := (u'.perm (l' := F' :: g :: O :: R) (.cons _ (.swap _ _ _))).leak
      obtain ⟨F2, O2, l5, u5, s5⟩ := we.slots (s.mono (l1.tr (l'.tr l4))) u4
      exact q σ F2 O2 H' (l1.tr (l'.tr (l4.tr l5))) u5 s5
  · obtain ⟨F2, O2, l5, u5, s5⟩ := we.slots (s.mono l') u'
    exact q σ F2 O2 H' (l'.tr l5) u5 s5
end
end Br
namespace Br
open PySem PySem.Spec L2 PyProof.Rows
variable [tgi : Tbs]
section
variable {X : Cx} {W : WX} {cl : String → Addr} {Γ : Ctx} {a : Expr} {ta : TE} {pos : Pos}
theorem op_isBl : OpR X (compareOp .Is) (fun x y H Q => ∃ b c, x = .bl b ∧ y = .bl c ∧ Q (.bl (decide (b = c))) H) := by
  intro pins s σ H x y v u Q I rx ry h
  obtain ⟨b, c, rfl, rfl, q⟩ := h
  cases rx
  cases ry
  show wpAny _ _ ((isSame (Value.bool b) (Value.bool c)) >>= fun z => pure (Value.bool z)) _ _ s
  exact wpAny_bind (wpAny_isSame_plain (by cases b <;> cases c <;> rfl) (wpAny_pure (fin_bl I q (by cases b <;> cases c <;> rfl))))
theorem op_notBl : OpR X (compareOp .IsNot) (fun x y H Q => ∃ b c, x = .bl b ∧ y = .bl c ∧ Q (.bl (!decide (b = c))) H) := by
  intro pins s σ H x y v u Q I rx ry h
  obtain ⟨b, c, rfl, rfl, q⟩ := h
  cases rx
  cases ry
  show wpAny _ _ ((isSame (Value.bool b) (Value.bool c)) >>= fun z => pure (Value.bool (!z))) _ _ s
  exact wpAny_bind (wpAny_isSame_plain (by cases b <;> cases c <;> rfl) (wpAny_pure (fin_bl I q (by cases b <;> cases c <;> rfl))))
theorem jn_isBl {m : Rs Bool} {c : Bool} {j p2} (h1 : JN X W cl Γ a ta m aB) : JN X W cl Γ (.Compare a [.Is] [.Constant (.bool c) j p2] pos) (tOp (fun x y H Q => ∃ b c, x = .bl b ∧ y = .bl c ∧ Q (.bl (decide (b = c))) H) ta (tC (.bl c))) (m.b fun x => .ok (decide (x = c))) aB := by
  obtain ⟨pa, ka⟩ := h1
  refine ⟨pe_cmpR op_isBl pa pe_bl (nomark _), fun σ F O H R Q u s q => ka σ F O H R _ u s (q.bind.mono (fun x _ q v F1 h1 H1 le1 u1 p1 => ?_) fun c q => q)⟩
  exact ⟨x, c, p1.1, rfl, q _ F1 emp H1 le1 (pt_addE (pt_skip u1 p1.2)) ⟨rfl, rfl⟩⟩
theorem jn_notBl {m : Rs Bool} {c : Bool} {j p2} (h1 : JN X W cl Γ a ta m aB) : JN X W cl Γ (.Compare a [.IsNot] [.Constant (.bool c) j p2] pos) (tOp (fun x y H Q => ∃ b c, x = .bl b ∧ y = .bl c ∧ Q (.bl (!decide (b = c))) H) ta (tC (.bl c))) (m.b fun x => .ok (!decide (x = c))) aB := by
  obtain ⟨pa, ka⟩ := h1
  refine ⟨pe_cmpR op_notBl pa pe_bl (nomark _), fun σ F O H R Q u s q => ka σ F O H R _ u s (q.bind.mono (fun x _ q v F1 h1 H1 le1 u1 p1 => ?_) fun c q => q)⟩
  exact ⟨x, c, p1.1, rfl, q _ F1 emp H1 le1 (pt_addE (pt_skip u1 p1.2)) ⟨rfl, rfl⟩⟩
theorem jt_isBl {m : Rs Bool} {c : Bool} {j p2} (h1 : JN X W cl Γ a ta m aB) : JT X W cl Γ (.Compare a [.Is] [.Constant (.bool c) j p2] pos) (tTest (tOp (fun x y H Q => ∃ b c, x = .bl b ∧ y = .bl c ∧ Q (.bl (decide (b = c))) H) ta (tC (.bl c)))) (m.b fun x => .ok (decide (x = c))) := jt_c (jn_isBl h1) (pt_cmpR op_isBl h1.pe pe_bl (nomark _))
theorem jt_notBl {m : Rs Bool} {c : Bool} {j p2} (h1 : JN X W cl Γ a ta m aB) : JT X W cl Γ (.Compare a [.IsNot] [.Constant (.bool c) j p2] pos) (tTest (tOp (fun x y H Q => ∃ b c, x = .bl b ∧ y = .bl c ∧ Q (.bl (!decide (b = c))) H) ta (tC (.bl c)))) (m.b fun x => .ok (!decide (x = c))) := jt_c (jn_notBl h1) (pt_cmpR op_notBl h1.pe pe_bl (nomark _))
end
end Br
namespace Br
open PySem PySem.Spec L2 PyProof.Rows
variable [tgi : Tbs]
theorem set_same {Γ : Ctx} {i : Nat} {g : Option Asn} (h : Γ[i]? = some g) : Γ.set i g = Γ := by
  obtain ⟨l, e⟩ := List.getElem?_eq_some_iff.mp h
  rw [← e]; simp
/-- never raises -/
def NoErF {B R S : Type} (m : Fl B R S) : Prop := ∀ c, m ≠ .er c
section
variable {α β B R S T : Type}
theorem noEr_no : NoEr (.no : Rs α) := fun _ h => nomatch h
theorem noEr_ix {xs : List α} {i : Int} : NoEr (ixR xs i) := by
  unfold ixR
  intro c h
  split at h
  · split at h <;> cases h
  · cases h
theorem noEr_app {xs : List α} {x : α} : NoEr (appM xs x) := by
  unfold appM
  intro c h
  split at h <;> cases h
theorem noErF_f {m : Rs α} {f : α → Fl B R S} (h : NoEr m) (k : ∀ x, NoErF (f x)) : NoErF (m.f f) := by
  cases m with
  | ok x => exact k x
  | er c => exact absurd rfl (h c)
  | no => exact fun _ h => nomatch h
theorem noErF_b {m : Fl B R S} {f : S → Fl B R T} (h : NoErF m) (k : ∀ x, NoErF (f x)) : NoErF (m.b f) := by
  cases m with
  | nx x => exact k x
  | er c => exact absurd rfl (h c)
  | rt _ => exact fun _ h => nomatch h
  | bk _ => exact fun _ h => nomatch h
  | ct _ => exact fun _ h => nomatch h
  | no => exact fun _ h => nomatch h
theorem noErF_nx {s : S} : NoErF (.nx s : Fl B R S) := fun _ h => nomatch h
theorem noErF_rt {s : R} : NoErF (.rt s : Fl B R S) := fun _ h => nomatch h
theorem noErF_no : NoErF (.no : Fl B R S) := fun _ h => nomatch h
theorem noErF_if {p : Prop} [Decidable p] {a b : Fl B R S} (h : NoErF a) (k : NoErF b) : NoErF (if p then a else b) := by
  split <;> assumption
end

section
variable {B T S : Type} {X : Cx} {W : WX} {cl : String → Addr} {Γ Γe : Ctx}
/-- where nothing is raised, any error context will do -/
theorem JB.noer (Γe' : Ctx) {st : List Stmt} {t : TS} {m : Fl B T S} {Γn : S → Ctx} {Γb : B → Ctx} {RA : RAs T} (n : NoErF m) (h : JB X W cl Γ st t m Γn Γb RA Γe') : JB X W cl Γ st t m Γn Γb RA Γe := by
  obtain ⟨p, k⟩ := h
  refine ⟨p, fun σ F O H R D u s q => k σ F O H R D u s ?_⟩
  cases m with
  | er c => exact absurd rfl (n c)
  | nx s => exact q
  | rt s => exact q
  | bk s => exact q
  | ct s => exact q
  | no => exact q
end
/-- what such a def promises, what it was given kept at an error -/
def FspOE {ι ρ : Type} (cl : String → Addr) (io : List Nat) (As : ι → List Asn) (f : ι → Rs ρ) (C : ρ → Asn) (Os : ρ → List Asn) (Oe : ι → List Asn) : Sp := fun vs H Q E =>
  ∃ i F h R, TgOk F ∧ Pt (F :: h :: R) H ∧ Sep (As i) vs F h ∧ Out (f i) (fun r => ∀ v F' h' H', Le F F' → Pt (F' :: h' :: R) H' → Sep (C r :: Os r) (v :: io.map (ats vs)) F' h' → Q v H') (fun c => ∀ F' h' H', Le F F' → Pt (F' :: h' :: R) H' → Sep (Oe i) (io.map (ats vs)) F' h' → E (.ref (cl c)) none H')
theorem FspO.oe {ι ρ : Type} {cl : String → Addr} {io : List Nat} {As : ι → List Asn} {f : ι → Rs ρ} {C : ρ → Asn} {Os : ρ → List Asn} {Oe : ι → List Asn} {vs : List V} {H : Hp} {Q : VK} {E : XK} (h : FspO cl io As f C Os vs H Q E) : FspOE cl io As f C Os Oe vs H Q E := by
  obtain ⟨i, F, h, R, tg, u, s, q⟩ := h
  refine ⟨i, F, h, R, tg, u, s, q.mono (fun _ _ q => q) fun c q F' h' H' l u' s' => ?_⟩
  obtain ⟨F2, l2, _, u2⟩ := u'.leak
  exact q F2 H' (l.tr l2) u2
section
variable {P : Program} {w : World} {K : PySem.W.Frag} {mg : Str → Option Value} {base : Heap} {cl : String → Addr} {ι ρ S B : Type}
abbrev FnROE (P : Program) (w : World) (K : PySem.W.Frag) (mg : Str → Option Value) (base : Heap) (cl : String → Addr) (k : Nat) (f : Addr) (fd : FuncData) (ps : List Str) (io : List Nat) (As : ι → List Asn) (m : ι → Rs ρ) (C : ρ → Asn) (Os : ρ → List Asn) (Oe : ι → List Asn) : Prop :=
  FnOk P w K mg base (L2.CX P w) k f fd ps (FspOE cl io As m C Os Oe)

theorem fn_okOE {x qual : Str} {st : Stmt} {f : Addr} {fd : FuncData} {N ps : List Str} {k : Nat} {io : List Nat} {As : ι → List Asn} {m : ι → Fl B ρ S} {C : ρ → Asn} {Os : ρ → List Asn} {d : S → ρ} {Γn : (Nat → V) → S → Ctx} {Γb : B → Ctx} {Oe : ι → List Asn} {Γe : (Nat → V) → ι → Ctx} (F : FnP K x qual st f fd) (S : FnScope N ps (defScope st))
    (len : ∀ i, (As i).length = ps.length) (hd : ∀ vf s, (∀ F, (C (d s)).p .non F emp) ∧ AtS (Γn vf s) io (io.map vf) (Os (d s)))
    (he : ∀ vf i, AtS (Γe vf i) io (io.map vf) (Oe i))
    (hb : ∀ (cdv : Value) (A : Around) (outer : List Env) (s : Shared) (H : Hp) (E : XK), Gd (cxOf (L2.CX P w) P w K mg base N qual (defScope st) f cdv A outer s H E) (fun cls dd _ H' => E cls dd H') k → ∀ i vf,
      ∃ t, JB (cxOf (L2.CX P w) P w K mg base N qual (defScope st) f cdv A outer s H E) (fun cls dd _ H' => E cls dd H') cl (ctxO io vf 0 (As i) ++ List.replicate (N.length - ps.length) none) (defBody st) t (m i) (Γn vf) Γb (fun r v F h => Sep (C r :: Os r) (v :: io.map vf) F h) (Γe vf i)) :
    FnROE P w K mg base cl (k + 1) f fd ps io As (fun i => (m i).fn d) C Os Oe := by
  have hlen : ∀ vs H Q E, FspOE cl io As (fun i => (m i).fn d) C Os Oe vs H Q E → vs.length = ps.length := fun vs H Q E ⟨i, F, h, R, _, _, s, _⟩ => s.len.symm.trans (len i)
  refine F.ok S hlen fun cdv A outer s H vs Q E hr hsp => ?_
  have hv := hlen _ _ _ _ hsp
  obtain ⟨i, F0, h, R, tg0, u, sp, q⟩ := hsp
  have G : Gd (cxOf (L2.CX P w) P w K mg base N qual (defScope st) f cdv A outer s H E) (fun cls dd _ H' => E cls dd H') k := ⟨takes_of rfl rfl rfl rfl, passes_of rfl, rfl, S.nd, hr⟩
  obtain ⟨t, p, r⟩ := hb cdv A outer s H E G i (ats vs)
  refine ⟨t, p, ?_⟩
  have e : L2.start N vs = vs.map some ++ List.replicate (N.length - ps.length) none := by unfold L2.start; rw [hv]
  rw [e]
  refine r _ F0 h H R _ u (sp.slotsO tg0 _ 0 fun i v e => ?_) ?_
  · unfold ats; rw [List.getD_eq_getElem?_getD, Nat.zero_add, e]; rfl
  replace q : Out ((m i).fn d) _ _ := q
  cases em : m i with
  | nx s =>
    rw [em] at q
    intro σ' F' O' H' l u' s'
    obtain ⟨hc, ha⟩ := hd (ats vs) s
    obtain ⟨g, O2, t2, so⟩ := ha.out s'
    have w1 : Pt (g :: O2 :: F' :: R) H' := (u'.swap).split2 t2
    have w2 : Pt (F' :: O2 :: g :: R) H' := w1.perm (by
      exact List.Perm.trans (List.perm_append_comm (l₁ := [g]) (l₂ := [O2, F']) |>.append_right R) (.swap _ _ _))
    obtain ⟨F2, l1, _, u2⟩ := w2.leak
    exact q .non F2 g H' (l.tr l1) u2 ⟨emp, g, .l_emp, hc F2, so.mono l1⟩
  | rt r => rw [em] at q; exact q
  | er c =>
    rw [em] at q
    intro σ' F' O' H' l u' s'
    obtain ⟨g, O2, t2, so⟩ := (he (ats vs) i).out s'
    have w1 : Pt (g :: O2 :: F' :: R) H' := (u'.swap).split2 t2
    have w2 : Pt (F' :: O2 :: g :: R) H' := w1.perm (by
      exact List.Perm.trans (List.perm_append_comm (l₁ := [g]) (l₂ := [O2, F']) |>.append_right R) (.swap _ _ _))
    obtain ⟨F2, l1, _, u2⟩ := w2.leak
    exact q F2 g H' (l.tr l1) u2 (so.mono l1)
  | bk b => rw [em] at q; exact q.elim
  | ct b => rw [em] at q; exact q.elim
  | no => rw [em] at q; exact q.elim
end

section
variable {α β γ δ ι ρ B T S' : Type} {X : Cx} {W : WX} {cl : String → Addr} {Γ Γe : Ctx} {tg e o a b c : Expr} {es : List Expr} {pos p : Pos} {ta tb : TE} {k j : Nat} {S : δ → Asn} {d0 : δ} {i : Nat} {w : Option V}
/-- a call given holes' contents, given back at an error, too -/
structure JHE {ρ : Type} (X : Cx) (W : WX) (cl : String → Addr) (Γ : Ctx) (Hs : List Asn) (vps : List V) (e : Expr) (t : TE) (m : Rs ρ) (C : ρ → Asn) (Os : ρ → List Asn) : Prop where
  pe : PE X e t
  run : ∀ (σ : L2.St) (F O H hx : Hp) (R : List Hp) (Q : VK), Pt (F :: O :: hx :: R) H → Slots Γ σ F O → Sep Hs vps F hx →
    Out m (fun r => ∀ v F' h H', Le F F' → Pt (F' :: O :: h :: R) H' → Sep (C r :: Os r) (v :: vps) F' h → Q v H') (fun c => ∀ F' h H', Le F F' → Pt (F' :: O :: h :: R) H' → Sep Hs vps F' h → W (.ref (cl c)) none σ H') → t σ H Q
structure CalROE {ι ρ : Type} (P : Program) (w : World) (K : PySem.W.Frag) (mg : Str → Option Value) (base : Heap) (cl : String → Addr) (k : Nat) (x : Str) (ps : List Str) (io : List Nat) (As : ι → List Asn) (m : ι → Rs ρ) (C : ρ → Asn) (Os : ρ → List Asn) (Oe : ι → List Asn) : Prop where
  ex : ∃ f fd, FnROE P w K mg base cl k f fd ps io As m C Os Oe ∧ mg x = some (.ref f) ∧ PySem.W.keepIn K (.ref f) = true ∧ Binds K fd ps []
theorem CalROE.to {P : Program} {w : World} {K : PySem.W.Frag} {mg : Str → Option Value} {base : Heap} {x : Str} {ps : List Str} {io : List Nat} {As : ι → List Asn} {m : ι → Rs ρ} {C : ρ → Asn} {Os : ρ → List Asn} {Oe : ι → List Asn} (c : CalROE P w K mg base cl k x ps io As m C Os Oe) : CalRO P w K mg base cl k x ps io As m C Os := by
  obtain ⟨f, fd, F, r⟩ := c.ex
  exact ⟨f, fd, F.imp fun _ _ _ _ q => q.oe, r⟩
structure MtROE {ι ρ : Type} (P : Program) (w : World) (K : PySem.W.Frag) (mg : Str → Option Value) (base : Heap) (cl : String → Addr) (k : Nat) (C : Addr) (x : Str) (ps : List Str) (As : ι → List Asn) (m : ι → Rs ρ) (Cr : ρ → Asn) (Os : ρ → List Asn) (Oe : ι → List Asn) : Prop where
  ex : ∃ f fd, Meth K C x f ∧ FnROE P w K mg base cl k f fd ps [0] As m Cr Os Oe ∧ Binds K fd ps []
theorem MtROE.to {P : Program} {w : World} {K : PySem.W.Frag} {mg : Str → Option Value} {base : Heap} {C : Addr} {x : Str} {ps : List Str} {As : ι → List Asn} {m : ι → Rs ρ} {Cr : ρ → Asn} {Os : ρ → List Asn} {Oe : ι → List Asn} (c : MtROE P w K mg base cl k C x ps As m Cr Os Oe) : MtRO P w K mg base cl k C x ps As m Cr Os := by
  obtain ⟨f, fd, M, F, r⟩ := c.ex
  exact ⟨f, fd, M, F.imp fun _ _ _ _ q => q.oe, r⟩

theorem jh_meth0E {pl : Sem Bool} {x : Str} {ps : List Str} {l0 : Fds} {C : Addr} {fm : ι → Rs ρ} {Cr : ρ → Asn} {Os : ρ → List Asn} {As Oe : ι → List Asn} {vp : V} {apos : Pos} (i0 : ι) (G : Gd X W k) (cc : Cls X.K C) (c : MtROE X.prog X.w X.K X.mg X.base cl j C x ps As fm Cr Os Oe) (ho : JN X W cl Γ o ta (.ok ()) (fun _ => aV vp)) (hA : As i0 = [oCs C l0] := by rfl) (hE : Oe i0 = [oCs C l0] := by rfl) (hn : l0.lookup x = none := by rfl) (hj : j ≤ k := by decide)
    (ht : eval (.Call (.Attribute o x apos) [] [] pos) X.env = (do
      let ov ← eval o X.env
      standAt apos.atName
      let (f, first) ← holding [ov] (getMethod ov x pl)
      callWith pos f first (backTo pos (starEach [] X.env)) (backToKw pos (keywordEach [] X.env))) := by rfl) :
    JHE X W cl Γ [oCs C l0] [vp] (.Call (.Attribute o x apos) [] [] pos) (tMethS' C x (FspOE cl [0] As fm Cr Os Oe) (WE W) ta tNil) (fm i0) Cr Os := by
  obtain ⟨f, fd, M, F, hb⟩ := c.ex
  obtain ⟨pp, kk⟩ := ho
  refine ⟨pe_methS0' pp cc M F (G.room.mono hj) hb (passAt G.tk) ht, fun σ F0 O H hx R Q u s sh q => kk σ F0 O H (hx :: R) _ u s ?_⟩
  intro v F' h H' l u' ⟨e1, e2⟩
  subst e1 e2
  have u2 := pt_skip u' rfl
  obtain ⟨v', e', pB⟩ := sep1 (sh.mono l)
  cases e'
  obtain ⟨a, dx, vs, h', rfl, t2, sp⟩ := pB
  refine ⟨a, dx, _, rfl, ((u2.le (by simp) : Le hx H') _ _ t2.at1), look_none hn, i0, F', hx, O :: R, s.tgo.mono l, u2.swap1, ?_, q.mono (fun r _ q v F2 h2 H2 l2 u5 p2 => ?_) fun c q F2 h2 H2 l2 u5 s5 => q F2 h2 H2 (l.tr l2) u5.swap1 (by rw [hE] at s5; exact s5)⟩
  · rw [hA]; exact Sep.sing ⟨a, dx, vs, h', rfl, t2, sp⟩
  · exact q v F2 h2 H2 (l.tr l2) u5.swap1 p2
theorem jh_methE {pl : Sem Bool} {x : Str} {ps : List Str} {t : TA} {l0 : Fds} {C : Addr} {fm : ι → Rs ρ} {Cr : ρ → Asn} {Os : ρ → List Asn} {As Oe : ι → List Asn} {As' : α → List Asn} {m : Rs α} {vp : V} {apos : Pos} (g : α → ι) (G : Gd X W k) (cc : Cls X.K C) (c : MtROE X.prog X.w X.K X.mg X.base cl j C x ps As fm Cr Os Oe) (ho : JN X W cl Γ o ta (.ok ()) (fun _ => aV vp)) (h : JNs X W cl Γ (e :: es) t m As') (hA : ∀ a, As (g a) = oCs C l0 :: As' a := by intro _; rfl) (hE : ∀ a, Oe (g a) = [oCs C l0] := by intro _; rfl) (hn : l0.lookup x = none := by rfl) (hj : j ≤ k := by decide)
    (hst : starEach (e :: es) X.env = (false, eval e X.env) :: starEach es X.env := by rfl) (hpl : (backTo pos (starEach es X.env)).any (·.1) = false := by rfl)
    (ht : eval (.Call (.Attribute o x apos) (e :: es) [] pos) X.env = (do
      let ov ← eval o X.env
      standAt apos.atName
      let (f, first) ← holding [ov] (getMethod ov x pl)
      callWith pos f first (backTo pos (starEach (e :: es) X.env)) (backToKw pos (keywordEach [] X.env))) := by rfl) :
    JHE X W cl Γ [oCs C l0] [vp] (.Call (.Attribute o x apos) (e :: es) [] pos) (tMethS' C x (FspOE cl [0] As fm Cr Os Oe) (WE W) ta t) (m.b fun a => fm (g a)) Cr Os := by
  obtain ⟨f, fd, M, F, hb⟩ := c.ex
  obtain ⟨pp, kk⟩ := ho
  refine ⟨pe_methS' pp cc M F (G.room.mono hj) hb (passAt G.tk) h.pe hst hpl ht, fun σ F0 O H hx R Q u s sh q => kk σ F0 O H (hx :: R) _ u s ?_⟩
  intro v F' h0 H' l u' ⟨e1, e2⟩
  subst e1 e2
  have u2 := pt_skip u' rfl
  obtain ⟨v', e', pB⟩ := sep1 (sh.mono l)
  cases e'
  obtain ⟨a, dx, vs, h', rfl, t2, sp⟩ := pB
  refine ⟨a, dx, _, rfl, ((u2.le (by simp) : Le hx H') _ _ t2.at1), look_none hn, ?_⟩
  refine h.run σ F' O H' (hx :: R) _ u2 (s.mono l) (q.bind.mono (fun i _ q ws F2 g2 H2 l2 u3 p2 => ?_) fun c q F2 H2 l2 u3 => ?_)
  · have w1 : Pt (hx :: g2 :: F2 :: O :: R) H2 := u3.perm (by
      refine List.Perm.trans (List.perm_append_comm (l₁ := [F2, O]) (l₂ := [g2, hx]) |>.append_right R) (.swap _ _ _))
    obtain ⟨c1, j1, w2⟩ := w1.join2
    refine ⟨g i, F2, c1, O :: R, s.tgo.mono (l.tr l2), w2.swap, ?_, q.mono (fun r _ q v F3 h3 H3 l3 u5 p3 => ?_) fun c q F3 h3 H3 l3 u5 s5 => q F3 h3 H3 (l.tr (l2.tr l3)) u5.swap1 (by rw [hE] at s5; exact s5)⟩
    · rw [hA]; exact ⟨hx, g2, j1, (oCs C l0).mono l2 ⟨a, dx, vs, h', rfl, t2, sp⟩, p2⟩
    · exact q v F3 h3 H3 (l.tr (l2.tr l3)) u5.swap1 p3
  · exact q F2 hx H2 (l.tr l2) u3 (sh.mono (l.tr l2))

theorem jh_callE {x : Str} {t : TA} {ps : List Str} {io : List Nat} {As Oe : ι → List Asn} {As' : α → List Asn} {fm : ι → Rs ρ} {C : ρ → Asn} {Os : ρ → List Asn} {m : Rs α} {Hs : List Asn} {vps : List V} (g : α → ι) (G : Gd X W k) (c : CalROE X.prog X.w X.K X.mg X.base cl j x ps io As fm C Os Oe) (h : JNs X W cl Γ (e :: es) t m As') (gv : ∀ a, Gives (As' a) (As (g a)) Hs vps io) (hE : ∀ a, Oe (g a) = Hs := by intro _; rfl) (hj : j ≤ k := by decide) (hg : Gl X x := by rfl) (hdb : (x == ("__debug__" : Str)) = false := by decide)
    (he : starEach (e :: es) X.env = (false, eval e X.env) :: starEach es X.env := by rfl) (hpl : (backTo pos (starEach es X.env)).any (·.1) = false := by rfl) :
    JHE X W cl Γ Hs vps (.Call (.Name x p) (e :: es) [] pos) (tCallS (FspOE cl io As fm C Os Oe) (WE W) t) (m.b fun a => fm (g a)) C Os := by
  obtain ⟨f, fd, F, hm, kp, hb⟩ := c.ex
  obtain ⟨pp, kk⟩ := h
  refine ⟨pe_callS F (G.room.mono hj) hg hm kp hb (passAt G.tk) pp hdb he hpl, fun σ F0 O H hx R Q u s sh q => kk σ F0 O H (hx :: R) _ u s (q.bind.mono (fun i _ q vs F' h H' l u' p' => ?_) fun c q F' H' l u' => ?_)⟩
  · have w1 : Pt (h :: hx :: F' :: O :: R) H' := u'.perm (List.perm_append_comm (l₁ := [F', O]) (l₂ := [h, hx]) |>.append_right R)
    obtain ⟨c1, j1, w2⟩ := w1.join2
    obtain ⟨sa, ev⟩ := gv i vs F' h hx c1 j1 p' (sh.mono l)
    refine ⟨g i, F', c1, O :: R, s.tgo.mono l, w2.swap, sa, q.mono (fun r _ q v F2 h2 H2 l2 u2 p2 => ?_) fun c q F2 h2 H2 l2 u2 s2 => q F2 h2 H2 (l.tr l2) u2.swap1 (by rw [ev, hE] at s2; exact s2)⟩
    rw [ev] at p2
    exact q v F2 h2 H2 (l.tr l2) u2.swap1 p2
  · exact q F' hx H' l u' (sh.mono l)

theorem JHE.bor (i : Nat) {t : TE} {δ : Type} {Bo Co : δ → Asn} {y : δ} {m : Rs ρ} {C : ρ → Asn} {Os : ρ → List Asn} {Hs : List Asn} {vps : List V} [f : FrzF Bo Co] [nt : NtF Bo] (n : ∀ r, ∀ A ∈ C r :: Os r, NoT A) (nh : ∀ A ∈ Hs, NoT A) (h : JHE X W cl (Γ.set i (some (Co y))) Hs vps e t m C Os) (hl : Γ[i]? = some (some (Bo y)) := by rfl) : JHE X W cl Γ Hs vps e t m C Os := by
  obtain ⟨p, k⟩ := h
  refine ⟨p, fun σ F O H hx R Q u s sh q => ?_⟩
  obtain ⟨F1, O1, l1, u1, s1, back⟩ := bor_core s hl (f.frz y) u
  refine k σ F1 O1 H hx R Q u1 s1 (sh.mono l1) (q.mono (fun a _ q v F2 h2 H2 le2 u2 p2 => ?_) fun c q F2 h2 H2 le2 u2 p2 => ?_)
  · obtain ⟨F', lf, uf, z⟩ := back F2 (h2 :: R) H2 le2 u2
    exact q v F' h2 H2 lf uf (p2.not (z (nt.nt y)) (n a))
  · obtain ⟨F', lf, uf, z⟩ := back F2 (h2 :: R) H2 le2 u2
    exact q F' h2 H2 lf uf (p2.not (z (nt.nt y)) nh)

theorem je_hole1E (i : Nat) (w : Option V) {t : TE} {m : Rs ρ} {C : ρ → Asn} {A S : α → Asn} {Hl : V → Asn} {y0 : α} (o : ρ → α) (we : Wk Γ Γe) (sp : Spl S Hl A y0) (h : ∀ vp, JHE X W cl (Γ.set i (some (ow w (Hl vp)))) [A y0] [vp] e t m C (fun r => [A (o r)])) (hl : Γ[i]? = some (some (ow w (S y0))) := by rfl) :
    JE X W cl Γ e t m (fun r => Γ.set i (some (ow w (S (o r))))) C Γe := by
  refine ⟨(h .non).pe, fun σ F O H R Q u s q => ?_⟩
  obtain ⟨vp, h2, O', t2, pA, s1, back⟩ := hole_at s hl sp
  have w1 : Pt (F :: O' :: h2 :: R) H := ((u.swap).split2 t2).perm (.trans (.cons _ (.swap _ _ _)) (.trans (.swap _ _ _) (.cons _ (.swap _ _ _))))
  refine (h vp).run σ F O' H h2 R Q w1 s1 (Sep.sing pA) (q.mono (fun r _ q v F2 g H2 l2 u2 p2 => ?_) fun c q F2 g H2 l2 u2 p2 => ?_)
  · obtain ⟨g1, g2, tg, pc, so⟩ := p2
    obtain ⟨g3, g4, t3, pB, e4⟩ := so
    have e4' : g4 = emp := e4
    subst e4'
    have e3 := t3.emp_r
    subst e3
    have w2 : Pt (g1 :: g2 :: F2 :: O' :: R) H2 := (u2.perm (l' := g :: F2 :: O' :: R) (List.perm_append_comm (l₁ := [F2, O']) (l₂ := [g]) |>.append_right R)).split2 tg
    obtain ⟨c, jc, w3⟩ := (w2.perm (l' := g2 :: O' :: F2 :: g1 :: R) (by
      refine List.Perm.trans (List.perm_append_comm (l₁ := [g1]) (l₂ := [g2, F2, O']) |>.append_right R) (.cons _ ?_)
      exact .trans (.swap _ _ _) (.refl _))).join2
    have sl := back _ (o r) F2 g2 O' c (by rw [List.getElem?_set_self (List.getElem?_eq_some_iff.mp hl).1]) (s1.mono l2) pB jc
    rw [set_set] at sl
    exact q v F2 c g1 H2 l2 w3.swap sl pc
  · obtain ⟨g3, g4, t3, pB, e4⟩ := p2
    have e4' : g4 = emp := e4
    subst e4'
    have e3 := t3.emp_r
    subst e3
    obtain ⟨c, jc, w3⟩ := (u2.perm (l' := g :: O' :: F2 :: R) (List.Perm.trans (List.perm_append_comm (l₁ := [F2, O']) (l₂ := [g]) |>.append_right R) (.cons _ (.swap _ _ _)))).join2
    have sl := back _ y0 F2 g O' c (by rw [List.getElem?_set_self (List.getElem?_eq_some_iff.mp hl).1]) (s1.mono l2) pB jc
    rw [set_set, set_same hl] at sl
    obtain ⟨F3, O3, l3, u3, s3⟩ := we.slots sl w3.swap
    exact q F3 O3 H2 (l2.tr l3) u3 s3

end
end Br
namespace Br
open PySem PySem.Spec L2
variable [tgi : Tbs]
theorem all1 {P : Asn → Prop} {A : Asn} (a : P A) : ∀ C ∈ [A], P C := fun C m => by
  cases List.mem_singleton.mp m
  exact a
section
variable {α β γ ρ τ B T S' : Type} {X : Cx} {W : WX} {cl : String → Addr} {Γ Γe : Ctx} {e a b c : Expr} {es : List Expr} {pos p : Pos} {ta tb : TE} {sa sts : List Stmt}
/-- a call that changes things, compared with a number -/
theorem JE.cmp {op : CmpOp} {r : R2} {A : ρ → Asn} {m : Rs ρ} {n : ρ → Rs Int} {Γ' : ρ → Ctx} {f : Int → Int → Bool} (a0 : ρ) (u : ρ → Int) (h1 : JE X W cl Γ a ta m Γ' A Γe) (h2 : ∀ x, JN X W cl (Γ' x) b tb (n x) aI) (we : ∀ x, Wk (Γ' x) Γe)
    (hp : PE X a ta → PE X b tb → PE X (.Compare a [op] [b] pos) (tOp r ta tb)) (hr : Op2 r aI aI (fun i j => some (f i j)) aB) (hA : ∀ x, A x = aI (u x)) :
    JE X W cl Γ (.Compare a [op] [b] pos) (tOp r ta tb) (m.b fun x => (n x).b fun y => .ok (x, f (u x) y)) (fun z => Γ' z.1) (fun z => aB z.2) Γe := by
  obtain ⟨p, k⟩ := h1
  refine ⟨hp p (h2 a0).pe, fun σ F O H R Q u1 s q => k σ F O H R _ u1 s (q.bind.mono (fun x _ q v F' O' h H' l u' s' p' => ?_) fun c q F' O' H' l u' s' => q F' O' H' l u' s')⟩
  have w1 : Pt (F' :: O' :: h :: R) H' := u'
  refine (h2 x).run σ F' O' H' (h :: R) _ w1 s' (q.bind.mono (fun y _ q w F2 h2 H2 l2 u2 p2 => ?_) fun c q F2 H2 l2 u2 => ?_)
  · rw [hA] at p'
    have w2 : Pt (F2 :: h2 :: h :: O' :: R) H2 := u2.perm (.cons _ (List.perm_append_comm (l₁ := [O']) (l₂ := [h2, h]) |>.append_right R))
    refine hr _ _ _ _ _ _ _ _ _ _ _ rfl w2 ((aI (u x)).mono l2 p') p2 fun v2 F3 h3 H3 l3 u3 p3 => ?_
    exact q v2 F3 O' h3 H3 (l.tr (l2.tr l3)) (u3.perm (.cons _ (.swap _ _ _))) (s'.mono (l2.tr l3)) p3
  · obtain ⟨F3, l3, _, u3⟩ := pt_leak3 u2
    obtain ⟨F4, O4, l4, u4, s4⟩ := (we x).slots (s'.mono (l2.tr l3)) u3
    exact q F4 O4 H2 (l.tr (l2.tr (l3.tr l4))) u4 s4
theorem je_eqc {A : ρ → Asn} {m : Rs ρ} {n : ρ → Rs Int} {Γ' : ρ → Ctx} (a0 : ρ) (u : ρ → Int) (h1 : JE X W cl Γ a ta m Γ' A Γe) (h2 : ∀ x, JN X W cl (Γ' x) b tb (n x) aI) (we : ∀ x, Wk (Γ' x) Γe) (hA : ∀ x, A x = aI (u x) := by intro _; rfl) :
    JE X W cl Γ (.Compare a [.Eq] [b] pos) (tOp rEq ta tb) (m.b fun x => (n x).b fun y => .ok (x, decide (u x = y))) (fun z => Γ' z.1) (fun z => aB z.2) Γe :=
  JE.cmp (f := fun x y => decide (x = y)) a0 u h1 h2 we (fun p q => pe_cmpR op_eq p q (nomark _)) (op2_S (A := aI) (f := fun x y => decide (x = y)) (val := V.int) (r := fun x y => decide (x = y)) (ScF.is (A := aI)) (ScF.sc (A := aI)) (ScF.dec (A := aI))) hA
theorem je_nec {A : ρ → Asn} {m : Rs ρ} {n : ρ → Rs Int} {Γ' : ρ → Ctx} (a0 : ρ) (u : ρ → Int) (h1 : JE X W cl Γ a ta m Γ' A Γe) (h2 : ∀ x, JN X W cl (Γ' x) b tb (n x) aI) (we : ∀ x, Wk (Γ' x) Γe) (hA : ∀ x, A x = aI (u x) := by intro _; rfl) :
    JE X W cl Γ (.Compare a [.NotEq] [b] pos) (tOp rNe ta tb) (m.b fun x => (n x).b fun y => .ok (x, !decide (u x = y))) (fun z => Γ' z.1) (fun z => aB z.2) Γe :=
  JE.cmp (f := fun x y => !decide (x = y)) a0 u h1 h2 we (fun p q => pe_cmpR op_ne p q (nomark _)) (op2_S (A := aI) (f := fun x y => !decide (x = y)) (val := V.int) (r := fun x y => !decide (x = y)) (ScF.is (A := aI)) (ScF.sc (A := aI)) fun x y => by rw [show decide (V.int x = V.int y) = decide (x = y) from ScF.dec (A := aI) x y]) hA
/-- a call that answers nothing, `is not None` -/
theorem je_notU {A : ρ → Asn} {m : Rs ρ} {Γ' : ρ → Ctx} {j p2} (h1 : JE X W cl Γ a ta m Γ' A Γe) (hA : ∀ x v F h, (A x).p v F h → v = .non ∧ h = emp := by intro _ _ _ _ q; exact q) :
    JE X W cl Γ (.Compare a [.IsNot] [.Constant .none j p2] pos) (tOp (fun x y H Q => y = .non ∧ Q (.bl (!decide (x = .non))) H) ta (tC .non)) (m.b fun x => .ok (x, false)) (fun z => Γ' z.1) (fun z => aB z.2) Γe := by
  obtain ⟨p, k⟩ := h1
  refine ⟨pe_cmpR op_notN p pe_non (nomark _), fun σ F O H R Q u1 s q => k σ F O H R _ u1 s (q.bind.mono (fun x _ q v F' O' h H' l u' s' p' => ?_) fun c q F' O' H' l u' s' => q F' O' H' l u' s')⟩
  obtain ⟨rfl, e2⟩ := hA _ _ _ _ p'
  subst e2
  exact ⟨rfl, q (.bl false) F' O' emp H' l u' s' ⟨rfl, rfl⟩⟩
/-- a changing value, and pure ones -/
theorem je_and {A : ρ → Asn} {m : Rs ρ} {n : ρ → Rs Bool} {Γ' : ρ → Ctx} {t t2 : TE} {rest : List Expr} (a0 : ρ) (u : ρ → Bool) (h1 : JE X W cl Γ a t m Γ' A Γe) (h2 : ∀ x, JN X W cl (Γ' x) (.BoolOp .And (b :: rest) pos) t2 (n x) aB) (we : ∀ x, Wk (Γ' x) Γe) (hA : ∀ x, A x = aB (u x) := by intro _; rfl) :
    JE X W cl Γ (.BoolOp .And (a :: b :: rest) pos) (tAndV t t2) (m.b fun x => if u x = true then (n x).b fun y => .ok (x, y) else .ok (x, false)) (fun z => Γ' z.1) (fun z => aB z.2) Γe := by
  obtain ⟨p, k⟩ := h1
  refine ⟨pe_and p (h2 a0).pe, fun σ F O H R Q u1 s q => k σ F O H R _ u1 s (q.bind.mono (fun x _ q v F' O' h H' l u' s' p' => ?_) fun c q F' O' H' l u' s' => q F' O' H' l u' s')⟩
  rw [hA] at p'
  obtain ⟨rfl, e2⟩ := p'
  subst e2
  refine ⟨u x, rfl, ?_⟩
  have w1 : Pt (F' :: O' :: R) H' := (u'.perm (l' := emp :: F' :: O' :: R) (List.perm_append_comm (l₁ := [F', O']) (l₂ := [emp]) |>.append_right R)).dropE
  cases hu : u x with
  | true =>
    rw [if_pos rfl]
    rw [if_pos hu] at q
    refine (h2 x).run σ F' O' H' R _ w1 s' (q.bind.mono (fun y _ q w F2 h2 H2 l2 u2 p2 => q w F2 O' h2 H2 (l.tr l2) u2 (s'.mono l2) p2) fun c q F2 H2 l2 u2 => ?_)
    obtain ⟨F4, O4, l4, u4, s4⟩ := (we x).slots (s'.mono l2) u2
    exact q F4 O4 H2 (l.tr (l2.tr l4)) u4 s4
  | false =>
    rw [if_neg (by simp)]
    rw [if_neg (by rw [hu]; simp)] at q
    exact q (.bl false) F' O' emp H' l u' s' ⟨rfl, rfl⟩
/-- return such a value -/
theorem js_retg {t : TE} {m : Rs α} {Γ' : α → Ctx} {A : α → Asn} {C : T → Asn} {S : Type} {Γn : S → Ctx} {Γb : B → Ctx} (g : α → T) (he : JE X W cl Γ e t m Γ' A Γe) (hC : ∀ a, C (g a) = A a := by intro _; rfl) : JS X W cl Γ (.Return (some e) pos) (tRet t) (m.f fun a => .rt (g a) : Fl B T S) Γn Γb (fun r v F h => (C r).p v F h) Γe := by
  obtain ⟨p, k⟩ := he
  refine ⟨ps_ret p, fun σ F O H R D u s q => k σ F O H R _ u s (q.bindR.mono (fun a _ q v F' O' h H' l u' s' p' => ?_) fun c q F' O' H' => q σ F' O' H')⟩
  obtain ⟨F2, l1, _, u2⟩ := u'.leak
  exact q v F2 h H' (l.tr l1) u2 (by show (C (g a)).p v F2 h; rw [hC]; exact (A a).mono l1 p')
structure JQ2 {α τ B T S : Type} (X : Cx) (W : WX) (cl : String → Addr) (Γ : Ctx) (e : Expr) (t : TT) (mm : (τ → Fl B T S) → (α → Fl B T S) → Fl B T S) (Γt : τ → Ctx) (Γf : α → Ctx) (Γe : Ctx) : Prop where
  pe : PT X e t
  run : ∀ (kt : τ → Fl B T S) (kf : α → Fl B T S) (D : FP B T S) (σ : L2.St) (F O H : Hp) (R : List Hp) (Q : Bool → Hp → Prop), Pt (F :: O :: R) H → Slots Γ σ F O → OutF (mm kt kf) D →
    (∀ c, D.er c → ∀ F' O' H', Le F F' → Pt (F' :: O' :: R) H' → Slots Γe σ F' O' → W (.ref (cl c)) none σ H') →
    (∀ x, OutF (kt x) D → ∀ F' O' H', Le F F' → Pt (F' :: O' :: R) H' → Slots (Γt x) σ F' O' → Q true H') →
    (∀ a, OutF (kf a) D → ∀ F' O' H', Le F F' → Pt (F' :: O' :: R) H' → Slots (Γf a) σ F' O' → Q false H') → t σ H Q
structure JQ2W {α τ B T S : Type} (X : Cx) (W : WX) (cl : String → Addr) (Γ : Ctx) (e : Expr) (t : TT) (mm : (τ → Fl B T S) → (α → Fl B T S) → Fl B T S) (Γt : τ → Ctx) (Γf : α → Ctx) (Γe : Ctx) : Prop where
  pe : PW X e t
  run : ∀ (kt : τ → Fl B T S) (kf : α → Fl B T S) (D : FP B T S) (σ : L2.St) (F O H : Hp) (R : List Hp) (Q : Bool → Hp → Prop), Pt (F :: O :: R) H → Slots Γ σ F O → OutF (mm kt kf) D →
    (∀ c, D.er c → ∀ F' O' H', Le F F' → Pt (F' :: O' :: R) H' → Slots Γe σ F' O' → W (.ref (cl c)) none σ H') →
    (∀ x, OutF (kt x) D → ∀ F' O' H', Le F F' → Pt (F' :: O' :: R) H' → Slots (Γt x) σ F' O' → Q true H') →
    (∀ a, OutF (kf a) D → ∀ F' O' H', Le F F' → Pt (F' :: O' :: R) H' → Slots (Γf a) σ F' O' → Q false H') → t σ H Q
variable {Γt : τ → Ctx}
theorem JQ2W.q {mm : (τ → Fl B T S') → (α → Fl B T S') → Fl B T S'} {Γf : α → Ctx} {t : TT} (h : JQ2W X W cl Γ e t mm Γt Γf Γe) : JQ2 X W cl Γ e t mm Γt Γf Γe := ⟨h.pe.pt, h.run⟩
theorem jq2_call {t : TE} {m : Rs ρ} {Γ' : ρ → Ctx} {A : ρ → Asn} (u : ρ → Bool) (g : ρ → τ) (h : JE X W cl Γ e t m Γ' A Γe) (wt : ∀ r, Wk (Γ' r) (Γt (g r))) (hA : ∀ r, A r = aB (u r) := by intro _; rfl) (he : ∀ whole, isTrue e X.env whole = (do let v ← whole; standAt e.pos; holding [v] (truthy v)) := by intro _; rfl) :
    JQ2 (B := B) (T := T) (S := S') X W cl Γ e (tB t) (fun kt kf => m.f fun r => if u r = true then kt (g r) else kf r) Γt Γ' Γe := by
  obtain ⟨p, k⟩ := h
  refine ⟨pt_val p he, fun kt kf D σ F O H R Q u1 s q qe qt qf => k σ F O H R _ u1 s (q.bindR.mono (fun r _ q v F' O' h H' l u' s' p' => ?_) fun c q F' O' H' l u' s' => qe c q F' O' H' l u' s')⟩
  rw [hA] at p'
  refine ⟨u r, p'.1, ?_⟩
  have u2 := pt_skip u' p'.2
  have q : OutF (if u r = true then kt (g r) else kf r) D := q
  cases hr : u r with
  | true =>
    rw [hr, if_pos rfl] at q
    obtain ⟨F2, O2, l2, u3, s3⟩ := (wt r).slots s' u2
    exact qt _ q F2 O2 H' (l.tr l2) u3 s3
  | false =>
    rw [hr, if_neg (by simp)] at q
    exact qf r q F' O' H' l u2 s'
theorem jq2_cmp {t : TE} {m : Rs ρ} {Γ' : ρ → Ctx} {A : ρ → Asn} (u : ρ → Bool) (g : ρ → τ) (h : JE X W cl Γ e t m Γ' A Γe) (pt : PT X e (tTest t)) (wt : ∀ r, Wk (Γ' r) (Γt (g r))) (hA : ∀ r, A r = aB (u r) := by intro _; rfl) :
    JQ2 (B := B) (T := T) (S := S') X W cl Γ e (tTest t) (fun kt kf => m.f fun r => if u r = true then kt (g r) else kf r) Γt Γ' Γe := by
  obtain ⟨p, k⟩ := h
  refine ⟨pt, fun kt kf D σ F O H R Q u1 s q qe qt qf => k σ F O H R _ u1 s (q.bindR.mono (fun r _ q v F' O' h H' l u' s' p' => ?_) fun c q F' O' H' l u' s' => qe c q F' O' H' l u' s')⟩
  rw [hA] at p'
  refine ⟨u r, p'.1, ?_⟩
  have u2 := pt_skip u' p'.2
  have q : OutF (if u r = true then kt (g r) else kf r) D := q
  cases hr : u r with
  | true =>
    rw [hr, if_pos rfl] at q
    obtain ⟨F2, O2, l2, u3, s3⟩ := (wt r).slots s' u2
    exact qt _ q F2 O2 H' (l.tr l2) u3 s3
  | false =>
    rw [hr, if_neg (by simp)] at q
    exact qf r q F' O' H' l u2 s'
theorem jq2_ncall {t : TE} {m : Rs ρ} {Γ' : ρ → Ctx} {A : ρ → Asn} (u : ρ → Bool) (g : ρ → τ) (h : JE X W cl Γ e t m Γ' A Γe) (wt : ∀ r, Wk (Γ' r) (Γt (g r))) (hA : ∀ r, A r = aB (u r) := by intro _; rfl) (he : ∀ whole, isTrue e X.env whole = (do let v ← whole; standAt e.pos; holding [v] (truthy v)) := by intro _; rfl) :
    JQ2 (B := B) (T := T) (S := S') X W cl Γ (.UnaryOp .Not e pos) (tNot (tB t)) (fun kt kf => m.f fun r => if (!u r) = true then kt (g r) else kf r) Γt Γ' Γe := by
  obtain ⟨p, k⟩ := h
  refine ⟨pt_not (pt_val p he), fun kt kf D σ F O H R Q u1 s q qe qt qf => k σ F O H R _ u1 s (q.bindR.mono (fun r _ q v F' O' h H' l u' s' p' => ?_) fun c q F' O' H' l u' s' => qe c q F' O' H' l u' s')⟩
  rw [hA] at p'
  refine ⟨u r, p'.1, ?_⟩
  have u2 := pt_skip u' p'.2
  have q : OutF (if (!u r) = true then kt (g r) else kf r) D := q
  cases hr : u r with
  | false =>
    rw [hr, if_pos (by simp)] at q
    obtain ⟨F2, O2, l2, u3, s3⟩ := (wt r).slots s' u2
    show Q true H'
    exact qt _ q F2 O2 H' (l.tr l2) u3 s3
  | true =>
    rw [hr, if_neg (by simp)] at q
    show Q false H'
    exact qf r q F' O' H' l u2 s'
theorem jq2_nec {A : ρ → Asn} {m : Rs ρ} {n : ρ → Rs Int} {Γ' : ρ → Ctx} (a0 : ρ) (u : ρ → Int) (g : ρ × Bool → τ) (h1 : JE X W cl Γ a ta m Γ' A Γe) (h2 : ∀ x, JN X W cl (Γ' x) b tb (n x) aI) (we : ∀ x, Wk (Γ' x) Γe) (wt : ∀ r, Wk (Γ' r.1) (Γt (g r))) (hA : ∀ x, A x = aI (u x) := by intro _; rfl) :
    JQ2 (B := B) (T := T) (S := S') X W cl Γ (.Compare a [.NotEq] [b] pos) (tTest (tOp rNe ta tb)) (fun kt kf => (m.b fun x => (n x).b fun y => .ok (x, !decide (u x = y))).f fun r => if r.2 = true then kt (g r) else kf r) Γt (fun z => Γ' z.1) Γe :=
  jq2_cmp (fun r => r.2) g (je_nec a0 u h1 h2 we hA) (pt_cmpR op_ne h1.pe (h2 a0).pe (nomark _)) wt
theorem jq2_eqc {A : ρ → Asn} {m : Rs ρ} {n : ρ → Rs Int} {Γ' : ρ → Ctx} (a0 : ρ) (u : ρ → Int) (g : ρ × Bool → τ) (h1 : JE X W cl Γ a ta m Γ' A Γe) (h2 : ∀ x, JN X W cl (Γ' x) b tb (n x) aI) (we : ∀ x, Wk (Γ' x) Γe) (wt : ∀ r, Wk (Γ' r.1) (Γt (g r))) (hA : ∀ x, A x = aI (u x) := by intro _; rfl) :
    JQ2 (B := B) (T := T) (S := S') X W cl Γ (.Compare a [.Eq] [b] pos) (tTest (tOp rEq ta tb)) (fun kt kf => (m.b fun x => (n x).b fun y => .ok (x, decide (u x = y))).f fun r => if r.2 = true then kt (g r) else kf r) Γt (fun z => Γ' z.1) Γe :=
  jq2_cmp (fun r => r.2) g (je_eqc a0 u h1 h2 we hA) (pt_cmpR op_eq h1.pe (h2 a0).pe (nomark _)) wt
theorem jq2_notU {A : ρ → Asn} {m : Rs ρ} {Γ' : ρ → Ctx} {j p2} (g : ρ × Bool → τ) (h1 : JE X W cl Γ a ta m Γ' A Γe) (wt : ∀ r, Wk (Γ' r.1) (Γt (g r))) (hA : ∀ x v F h, (A x).p v F h → v = .non ∧ h = emp := by intro _ _ _ _ q; exact q) :
    JQ2 (B := B) (T := T) (S := S') X W cl Γ (.Compare a [.IsNot] [.Constant .none j p2] pos) (tTest (tOp (fun x y H Q => y = .non ∧ Q (.bl (!decide (x = .non))) H) ta (tC .non))) (fun kt kf => (m.b fun x => .ok (x, false)).f fun r => if r.2 = true then kt (g r) else kf r) Γt (fun z => Γ' z.1) Γe :=
  jq2_cmp (fun r => r.2) g (je_notU h1 hA) (pt_cmpR op_notN h1.pe pe_non (nomark _)) wt
theorem jq2_jt {t : TT} {m : Rs Bool} (x0 : τ) (h : JT X W cl Γ e t m) (wt : Wk Γ (Γt x0)) (we : Wk Γ Γe) : JQ2 (B := B) (T := T) (S := S') X W cl Γ e t (fun kt kf => m.f fun r => if r = true then kt x0 else kf ()) Γt (fun _ : Unit => Γ) Γe := by
  obtain ⟨p, k⟩ := h
  refine ⟨p, fun kt kf D σ F O H R Q u1 s q qe qt qf => k σ F O H R _ u1 s (q.bindR.mono (fun r _ q F' H' l u' => ?_) fun c q F' H' l u' => ?_)⟩
  · cases r with
    | true =>
      obtain ⟨F2, O2, l2, u3, s3⟩ := wt.slots (s.mono l) u'
      exact qt _ q F2 O2 H' (l.tr l2) u3 s3
    | false => exact qf () q F' O H' l u' (s.mono l)
  · obtain ⟨F2, O2, l2, u3, s3⟩ := we.slots (s.mono l) u'
    exact qe c q F2 O2 H' (l.tr l2) u3 s3
theorem jq2w_or1 {mm : (τ → Fl B T S') → (α → Fl B T S') → Fl B T S'} {Γf : α → Ctx} {t : TT} (h : JQ2 X W cl Γ a t mm Γt Γf Γe) : JQ2W X W cl Γ (.BoolOp .Or [a] pos) t mm Γt Γf Γe := ⟨pw_or1 h.pe, h.run⟩
theorem jq2w_or {mm : (τ → Fl B T S') → (α → Fl B T S') → Fl B T S'} {Γ1 : α → Ctx} {t t2 : TT} {rest : List Expr} {m2 : α → (τ → Fl B T S') → (β → Fl B T S') → Fl B T S'} {Γ2 : α → β → Ctx} (a0 : α) (h1 : JQ2 X W cl Γ a t mm Γt Γ1 Γe) (h2 : ∀ x, JQ2W X W cl (Γ1 x) (.BoolOp .Or (b :: rest) pos) t2 (m2 x) Γt (Γ2 x) Γe) :
    JQ2W X W cl Γ (.BoolOp .Or (a :: b :: rest) pos) (tOr t t2) (fun kt kf => mm kt fun x => m2 x kt fun y => kf (x, y)) Γt (fun z => Γ2 z.1 z.2) Γe := by
  obtain ⟨p, k⟩ := h1
  refine ⟨pw_or p (h2 a0).pe, fun kt kf D σ F O H R Q u s q qe qt qf => k kt _ D σ F O H R _ u s q qe (fun x q F' O' H' l u' s' => ?_) fun x q F' O' H' l u' s' => ?_⟩
  · exact qt x q F' O' H' l u' s'
  · exact (h2 x).run kt _ D σ F' O' H' R Q u' s' q (fun c q F2 O2 H2 l2 => qe c q F2 O2 H2 (l.tr l2)) (fun y q F2 O2 H2 l2 => qt y q F2 O2 H2 (l.tr l2)) fun y q F2 O2 H2 l2 => qf (x, y) q F2 O2 H2 (l.tr l2)
/-- if such a test: what never goes on; then the rest -/
theorem jb_ifq2 {M : Fl B T S'} {Γn : S' → Ctx} {Γb : B → Ctx} {RA : RAs T} {mm : (τ → Fl B T S') → (α → Fl B T S') → Fl B T S'} {Γf : α → Ctx} {t : TT} {t1 t2 : TS} {m : τ → Fl B T Empty} {n : α → Fl B T S'} {Γ0 : Empty → Ctx} (x0 : τ) (a0 : α) (hc : JQ2 X W cl Γ c t mm Γt Γf Γe) (h1 : ∀ x, JB X W cl (Γt x) sa t1 (m x) Γ0 Γb RA Γe) (h2 : ∀ x, JB X W cl (Γf x) sts t2 (n x) Γn Γb RA Γe) (hM : mm (fun x => (m x).v) n = M) :
    JB X W cl Γ (.If c sa [] pos :: sts) (tSeq (tIfS t t1 tNext) t2) M Γn Γb RA Γe := by
  subst hM
  obtain ⟨p, k⟩ := hc
  refine ⟨pss_cons (ps_if p (h1 x0).pe pss_nil) (h2 a0).pe, fun σ F O H R D u s q => k _ _ (wants W cl Γn Γb RA Γe F R D) σ F O H R _ u s q (fun c q => q σ) (fun x q F1 O1 H1 le u1 s1 => ?_) fun x q F1 O1 H1 le u1 s1 => ?_⟩
  · refine (h1 x).run σ F1 O1 H1 R _ u1 s1 (wants_le le ?_)
    have q' : OutF ((m x).v : Fl B T S') (wants W cl Γn Γb RA Γe F R D) := q
    cases hm : m x with
    | nx s => exact s.elim
    | rt r => rw [hm] at q'; exact q'
    | bk r => rw [hm] at q'; exact q'
    | ct r => rw [hm] at q'; exact q'
    | er r => rw [hm] at q'; exact q'
    | no => rw [hm] at q'; exact q'
  · exact (h2 x).run σ F1 O1 H1 R D u1 s1 (wants_le le q)
end
end Br
namespace Br
open PySem PySem.Spec L2
variable [tgi : Tbs]
section
variable {α β γ δ ε : Type}
def r3 (A : α → Asn) (B : β → Asn) (C : γ → Asn) (x : α × β × γ) : Asn := oL [A x.1, B x.2.1, C x.2.2]
def q3 (A : α → Asn) (B : β → Asn) (C : γ → Asn) (x : α × β × γ) : Asn := aL [A x.1, B x.2.1, C x.2.2]
def r4 (A : α → Asn) (B : β → Asn) (C : γ → Asn) (D : δ → Asn) (x : α × β × γ × δ) : Asn := oL [A x.1, B x.2.1, C x.2.2.1, D x.2.2.2]
def q4 (A : α → Asn) (B : β → Asn) (C : γ → Asn) (D : δ → Asn) (x : α × β × γ × δ) : Asn := aL [A x.1, B x.2.1, C x.2.2.1, D x.2.2.2]
variable {A : α → Asn} {B : β → Asn} {C : γ → Asn} {D : δ → Asn} {A' : α → Asn} {B' : β → Asn} {C' : γ → Asn} {D' : δ → Asn}
instance : PerF (q3 A B C) := ⟨fun _ => aL_per⟩
instance : PerF (q4 A B C D) := ⟨fun _ => aL_per⟩
instance : FrzF (q3 A B C) (q3 A B C) := ⟨fun _ => .per aL_per⟩
instance : FrzF (q4 A B C D) (q4 A B C D) := ⟨fun _ => .per aL_per⟩
instance [f : FrzF A A'] [g : FrzF B B'] [h : FrzF C C'] : FrzF (r3 A B C) (q3 A' B' C') := ⟨fun x => frz_oL (.cons (f.frz _) (.cons (g.frz _) (.cons (h.frz _) .nil)))⟩
instance [f : FrzF A A'] [g : FrzF B B'] [h : FrzF C C'] [k : FrzF D D'] : FrzF (r4 A B C D) (q4 A' B' C' D') := ⟨fun x => frz_oL (.cons (f.frz _) (.cons (g.frz _) (.cons (h.frz _) (.cons (k.frz _) .nil))))⟩
instance [p : NtF A] [q : NtF B] [r : NtF C] : NtF (r3 A B C) := ⟨fun x => nt_oL (all3 (P := NtA) (p.nt _) (q.nt _) (r.nt _))⟩
instance [p : NtF A] [q : NtF B] [r : NtF C] [s : NtF D] : NtF (r4 A B C D) := ⟨fun x => nt_oL (all4 (P := NtA) (p.nt _) (q.nt _) (r.nt _) (s.nt _))⟩
instance [p : NuF A] [q : NuF B] [r : NuF C] : NuF (r3 A B C) := ⟨fun x => not_oL (all3 (p.nu _) (q.nu _) (r.nu _))⟩
instance [p : NuF A] [q : NuF B] [r : NuF C] [s : NuF D] : NuF (r4 A B C D) := ⟨fun x => not_oL (all4 (p.nu _) (q.nu _) (r.nu _) (s.nu _))⟩
instance [p : NzF A] [q : NzF B] [r : NzF C] : NzF (r3 A B C) := ⟨fun x => nz_oL (all3 (p.nz _) (q.nz _) (r.nz _))⟩
instance [p : NzF A] [q : NzF B] [r : NzF C] : NzF (q3 A B C) := ⟨fun x => nz_aL (all3 (p.nz _) (q.nz _) (r.nz _))⟩
instance [p : NzF A] [q : NzF B] [r : NzF C] [s : NzF D] : NzF (r4 A B C D) := ⟨fun x => nz_oL (all4 (p.nz _) (q.nz _) (r.nz _) (s.nz _))⟩
instance [p : NzF A] [q : NzF B] [r : NzF C] [s : NzF D] : NzF (q4 A B C D) := ⟨fun x => nz_aL (all4 (p.nz _) (q.nz _) (r.nz _) (s.nz _))⟩
instance : NnF (r3 A B C) := ⟨fun _ _ _ ⟨_, _, _, e, _⟩ => nomatch e⟩
instance : NnF (q3 A B C) := ⟨fun _ _ _ ⟨_, _, _, e, _⟩ => nomatch e⟩
instance : NnF (r4 A B C D) := ⟨fun _ _ _ ⟨_, _, _, e, _⟩ => nomatch e⟩
instance : NnF (q4 A B C D) := ⟨fun _ _ _ ⟨_, _, _, e, _⟩ => nomatch e⟩
/-- a list's parts -/
class RdR {α : Type} (T : α → Asn) (Es : outParam (α → List Asn)) : Prop where
  rd : ∀ x v F h, (T x).p v F h → ∃ a vs h', v = .ref a ∧ (∀ H, Le F H → Le h H → H a = some (.lst vs)) ∧ Le h' h ∧ Sep (Es x) vs F h'
theorem rd_aL {Es : List Asn} : ∀ v F h, (aL Es).p v F h → ∃ a vs h', v = .ref a ∧ (∀ H, Le F H → Le h H → H a = some (.lst vs)) ∧ Le h' h ∧ Sep Es vs F h' := fun v F h ⟨e, a, vs, e1, s, r⟩ => ⟨a, vs, emp, e1, fun H l _ => l _ _ s, emp_le, r⟩
theorem rd_oL {Es : List Asn} : ∀ v F h, (oL Es).p v F h → ∃ a vs h', v = .ref a ∧ (∀ H, Le F H → Le h H → H a = some (.lst vs)) ∧ Le h' h ∧ Sep Es vs F h' := fun v F h ⟨a, vs, h', e1, t, r⟩ => ⟨a, vs, h', e1, fun H _ l => l _ _ t.at1, t.le (by simp), r⟩
instance : RdR (q3 A B C) (fun x => [A x.1, B x.2.1, C x.2.2]) := ⟨fun x => rd_aL⟩
instance : RdR (r3 A B C) (fun x => [A x.1, B x.2.1, C x.2.2]) := ⟨fun x => rd_oL⟩
instance : RdR (q4 A B C D) (fun x => [A x.1, B x.2.1, C x.2.2.1, D x.2.2.2]) := ⟨fun x => rd_aL⟩
instance : RdR (r4 A B C D) (fun x => [A x.1, B x.2.1, C x.2.2.1, D x.2.2.2]) := ⟨fun x => rd_oL⟩
end
section
variable {α β γ δ ι τ ρ B T S' : Type} {X : Cx} {W : WX} {cl : String → Addr} {Γ Γe Γt : Ctx} {tg e a b c : Expr} {es : List Expr} {pos p : Pos} {ta tb : TE} {k : Nat} {S : δ → Asn} {d0 : δ} {i : Nat} {w : Option V} {sts sa : List Stmt}
/-- the i-th part -/
theorem jn_rprt {K0 : PySem.W.Frag} {δ : Type} {T : α → Asn} {Es : α → List Asn} [rd : RdR T Es] {D : δ → Asn} [pf : PerF D] (i : Nat) (g : α → δ) {m : Rs α} {j q1} (h1 : JN X W cl Γ a ta m T) (hi : ∀ x, (Es x)[i]? = some (D (g x)) := by intro _; rfl) (hK : X.K = K0 := by rfl) :
    JN X W cl Γ (.Subscript a (.Constant (.int (i : Int)) j q1) pos) (tOp (rIxL K0) ta (tC (.int (i : Int)))) (m.b fun x => .ok (g x)) D := by
  subst hK
  obtain ⟨pa, ka⟩ := h1
  refine ⟨pe_ix ix_list pa pe_int (fun _ _ => rfl), fun σ F O H R Q u s q => ka σ F O H R _ u s (q.bind.mono (fun x _ q v F1 h1 H1 le1 u1 p1 => ?_) fun c q => q)⟩
  obtain ⟨a, ws, h', rfl, sq, lh, sp⟩ := rd.rd _ _ _ _ p1
  obtain ⟨w, g1, g2, e, t, p2⟩ := sp.get (hi x)
  have e1 := pf.per _ _ _ _ p2
  subst e1
  have l1 : Le F1 H1 := u1.le (by simp)
  have l2 : Le h1 H1 := u1.le (by simp)
  refine ⟨a, ws, i, w, rfl, rfl, SqL.of (sq H1 l1 l2), atI_nat e, ?_⟩
  obtain ⟨F2, l3, l4, u3⟩ := pt_leak3 u1
  exact q w F2 emp H1 (le1.tr l3) (pt_addE u3) ((D (g x)).mono l3 p2)
/-- e[k], e a place that is such a list -/
theorem jp_rprt {K0 : PySem.W.Frag} (k : Nat) {As : τ → List Asn} {Tp : τ → Asn} {A : α → Asn} {m : Rs ι} {get : ι → τ} {put : ι → τ → δ} {j q1} (gt : τ → α) (pt : τ → α → τ) (h1 : JP X W cl Γ i w S d0 a ta m Tp get put) (hT : ∀ x, Tp x = oL (As x) := by intro _; rfl) (hk : ∀ x, (As x)[k]? = some (A (gt x)) := by intro _; rfl) (hp : ∀ x y, As (pt x y) = (As x).set k (A y) := by intro _ _; rfl) (hK : X.K = K0 := by rfl) :
    JP X W cl Γ i w S d0 (.Subscript a (.Constant (.int (k : Int)) j q1) pos) (tOp (rIxL K0) ta (tC (.int (k : Int)))) m A (fun x => gt (get x)) (fun x y => put x (pt (get x) y)) := by
  subst hK
  obtain ⟨pa, hl, ka⟩ := h1
  refine ⟨pe_ix ix_list pa pe_int (fun _ _ => rfl), hl, fun σ F O H R Q u s v0 h0 O' e0 t p q => ka σ F O H R _ u s v0 h0 O' e0 t p (q.mono (fun x _ q v F1 H1 l1 u1 ln => ?_) fun c q => q)⟩
  obtain ⟨hp1, hc, tt, pT, kk⟩ := ln
  rw [hT] at pT
  obtain ⟨ad, vs, h', rfl, t2, sp⟩ := pT
  obtain ⟨v, fp, fc, ev, tf, pf, kf⟩ := sp.focusL (hk _)
  have lO : Le h0 H1 := (t.le (by simp)).tr (u1.le (by simp))
  have hL : H1 ad = some (.lst vs) := lO _ _ ((tt.le (by simp) : Le hp1 h0) _ _ t2.at1)
  refine ⟨ad, vs, k, v, rfl, rfl, SqL.of hL, atI_nat ev, q v F1 H1 l1 u1 ?_⟩
  have w1 : Pt [one ad (.lst vs), h', hc] h0 := tt.unfold t2
  have w2 : Pt [fp, fc, one ad (.lst vs), hc] h0 := (w1.swap).unfold tf
  obtain ⟨c1, j1, w3⟩ := Pt.fold (l := [fc, one ad (.lst vs), hc]) (l' := [fp]) (w2.perm (List.perm_append_comm (l₁ := [fp]) (l₂ := [fc, one ad (.lst vs), hc]))) |> fun z => (⟨_, jnl_pt (w2.1.sublist (List.sublist_cons_self _ _)), z⟩ : ∃ c, Pt [fc, one ad (.lst vs), hc] c ∧ Pt [c, fp] h0)
  refine ⟨fp, c1, w3.swap, pf, fun y' F3 g g3 l3 pg tg => ?_⟩
  have w4 : Pt [fc, one ad (.lst vs), hc, g] g3 := (tg.swap).unfold j1
  have w5 : Pt [g, fc, one ad (.lst vs), hc] g3 := w4.perm (List.perm_append_comm (l₁ := [fc, one ad (.lst vs), hc]) (l₂ := [g]))
  obtain ⟨c2, j2, w6⟩ := w5.join2
  obtain ⟨c3, j3, w7⟩ := (w6.swap).join2
  refine kk _ F3 c3 g3 l3 ?_ w7
  rw [hT, hp]
  exact ⟨ad, vs, c2, rfl, j3, kf (A y') F3 g c2 l3 pg j2⟩
theorem plc_rec {T : τ → Asn} {As : τ → List Asn} {xs : τ} {put : τ → δ} {v0 v : V} {h0 O' O F H : Hp} {σ : L2.St} {R : List Hp} (hT : ∀ x, T x = oL (As x)) (hl : Γ[i]? = some (some (ow w (S d0)))) (e0 : σ[i]? = some (some v0)) (t : Pt [h0, O'] O) (s' : Slots (Γ.set i none) σ F O')
    (ln : Lns (fun y => ow w (S (put y))) T xs v0 v h0 F) (u : Pt (F :: O :: R) H) :
    ∃ ad vs h' hc, v = .ref ad ∧ Sep (As xs) vs F h' ∧ Pt (one ad (.lst vs) :: h' :: hc :: O' :: F :: R) H ∧ ∀ ys ws F3 h2 R3 H3, Le F F3 → Sep (As ys) ws F3 h2 → Pt (one ad (.lst ws) :: h2 :: hc :: O' :: F3 :: R3) H3 → ∃ O3, Pt (F3 :: O3 :: R3) H3 ∧ Slots (Γ.set i (some (ow w (S (put ys))))) σ F3 O3 := by
  obtain ⟨hp, hc, tt, pT, kk⟩ := ln
  rw [hT] at pT
  obtain ⟨a, vs, h', rfl, t2, sp⟩ := pT
  refine ⟨a, vs, h', hc, rfl, sp, ?_, fun ys ws F3 h2 R3 H3 l3 sp3 u3 => ?_⟩
  · have w1 : Pt (h0 :: O' :: F :: R) H := (u.swap).split2 t
    have w2 : Pt (hp :: hc :: O' :: F :: R) H := w1.split2 tt
    exact w2.split2 t2
  · obtain ⟨c1, j1, w1⟩ := u3.join2
    obtain ⟨c2, j2, w2⟩ := w1.join2
    obtain ⟨c3, j3, w3⟩ := w2.join2
    refine ⟨c3, w3.swap, ?_⟩
    have pz := kk ys F3 c1 c2 l3 (by rw [hT]; exact ⟨a, ws, h2, rfl, j1, sp3⟩) j2
    have := (s'.mono l3).put' (set_none_at hl) e0 pz j3
    rw [set_set] at this
    exact this
/-- e[k] = y, e a place that is such a list -/
theorem jl_putR (k : Nat) {As : τ → List Asn} {Tp : τ → Asn} {A : α → Asn} {A0 : τ → Asn} {m : Rs ι} {n : Rs α} {get : ι → τ} {put : ι → τ → δ} {apos : Pos} {j q1} (pt : τ → α → τ) (we : Wk Γ Γe) (hv : JN X W cl Γ e tb n A) (h : JP X W cl Γ i w S d0 a ta m Tp get put) (hT : ∀ x, Tp x = oL (As x) := by intro _; rfl) (hk : ∀ x, (As x)[k]? = some (A0 x) := by intro _; rfl) (hp : ∀ x y, As (pt x y) = (As x).set k (A y) := by intro _ _; rfl)
    (ha : ∀ v, assign (.Subscript a (.Constant (.int (k : Int)) j q1) apos) X.env v = (do
      let ov ← holding [v] (eval a X.env)
      let iv ← holding [v, ov] (eval (.Constant (.int (k : Int)) j q1) X.env)
      standAt apos
      holding [v, ov, iv] (setItem ov iv v)
      release [v, ov, iv] []) := by intro _; rfl)
    (hs : swapsWithSole [.Subscript a (.Constant (.int (k : Int)) j q1) apos] e pos.line X.env = pure false := by rfl) (hw : swappedStores [.Subscript a (.Constant (.int (k : Int)) j q1) apos] e X.env = pure none := by rfl)
    (h1 : (assignEach [.Subscript a (.Constant (.int (k : Int)) j q1) apos] X.env).map (·.2) = [assign (.Subscript a (.Constant (.int (k : Int)) j q1) apos) X.env] := by rfl) :
    JL X W cl Γ (.Assign [.Subscript a (.Constant (.int (k : Int)) j q1) apos] e pos) (tAsg tb (gSub ta (tC (.int (k : Int))) rSetL)) (n.b fun y => m.b fun x => .ok (put x (pt (get x) y))) (fun d => Γ.set i (some (ow w (S d)))) Γe := by
  have hl := h.hl
  refine ⟨ps_asg hv.pe (pg_sub h.pe pe_int set_list ha) hs hw h1, fun σ F O H R D u s q => ?_⟩
  refine hv.run σ F O H R _ u s (q.bind.mono (fun y _ q z F1 g H1 l1 u1 p1 => ?_) fun c q F' H' l' u' => ?_)
  · refine jp_place h u1 (s.mono l1) (q.bind.mono (fun x _ q v v0 h0 O' F2 H2 l2 u2 e0 t0 s2 ln => ?_) fun c q F' H' l' u' => ?_)
    · obtain ⟨ad, vs, h', hc, rfl, sp, w2, back⟩ := plc_rec hT hl e0 t0 s2 ln u2
      have lk : k < vs.length := by rw [← sp.len]; exact (List.getElem?_eq_some_iff.mp (hk (get x))).1
      refine ⟨ad, vs, k, k, rfl, rfl, w2.at1, (by unfold ixN; rw [if_pos (by omega), if_pos (by omega)]; rfl), ?_⟩
      obtain ⟨fp, fc, tf, kf⟩ := sp.focusV (hk (get x))
      have w3 : Pt (one ad (.lst (vs.set k z)) :: h' :: hc :: O' :: F2 :: g :: R) _ := w2.write
      have w4 : Pt (fp :: fc :: one ad (.lst (vs.set k z)) :: hc :: O' :: F2 :: g :: R) _ := (w3.swap).split2 tf
      obtain ⟨F4, l4, _, w5⟩ := (w4.perm (l' := F2 :: fp :: fc :: one ad (.lst (vs.set k z)) :: hc :: O' :: g :: R) ((List.perm_append_comm (l₁ := [fp, fc, one ad (.lst (vs.set k z)), hc, O']) (l₂ := [F2])).append_right (g :: R))).leak
      obtain ⟨h2', j2, w6⟩ := (w5.perm (l' := g :: fc :: F4 :: one ad (.lst (vs.set k z)) :: hc :: O' :: R) (by
        have : List.Perm [F4, fc, one ad (.lst (vs.set k z)), hc, O', g] [g, fc, F4, one ad (.lst (vs.set k z)), hc, O'] := (List.perm_append_comm (l₁ := [F4, fc, one ad (.lst (vs.set k z)), hc, O']) (l₂ := [g])).trans (.cons _ (.swap _ _ _))
        exact this.append_right R)).join2
      have sp2 := kf (A y) z F4 g h2' l4 ((A y).mono (l2.tr l4) p1) j2
      rw [← hp] at sp2
      obtain ⟨O3, w7, s3⟩ := back (pt (get x) y) (vs.set k z) F4 h2' R _ l4 sp2 (w6.perm (by
        have : List.Perm [h2', F4, one ad (.lst (vs.set k z)), hc, O'] [one ad (.lst (vs.set k z)), h2', hc, O', F4] := by
          refine (List.perm_append_comm (l₁ := [h2', F4]) (l₂ := [one ad (.lst (vs.set k z)), hc, O'])).trans (.cons _ ?_)
          exact (List.perm_append_comm (l₁ := [hc, O']) (l₂ := [h2', F4])).trans (.cons _ (List.perm_append_comm (l₁ := [F4]) (l₂ := [hc, O'])))
        exact this.append_right R))
      exact q σ F4 O3 _ (l1.tr (l2.tr l4)) w7 s3
    · obtain ⟨F4, l4, _, u4⟩ := (u'.perm (l' := F' :: g :: O :: R) (.cons _ (.swap _ _ _))).leak
      obtain ⟨F2, O2, l5, u5, s5⟩ := we.slots (s.mono (l1.tr (l'.tr l4))) u4
      exact q σ F2 O2 H' (l1.tr (l'.tr (l4.tr l5))) u5 s5
  · obtain ⟨F2, O2, l5, u5, s5⟩ := we.slots (s.mono l') u'
    exact q σ F2 O2 H' (l'.tr l5) u5 s5
/-- e[k] = y, e a place that is such a list -/
theorem jl_putRE (k : Nat) (y0 : α) {As : τ → List Asn} {Tp : τ → Asn} {A : α → Asn} {A0 : τ → Asn} {m : α → Rs ι} {Γ1 : α → Ctx} {n : Rs α} {d1 : α → δ} {get : α → ι → τ} {put : α → ι → τ → δ} {apos : Pos} {j q1} (pt : τ → α → τ) (we : ∀ y, Wk (Γ1 y) Γe) (hv : JE X W cl Γ e tb n Γ1 A Γe) (h : ∀ y, JP X W cl (Γ1 y) i w S (d1 y) a ta (m y) Tp (get y) (put y)) (hT : ∀ x, Tp x = oL (As x) := by intro _; rfl) (hk : ∀ x, (As x)[k]? = some (A0 x) := by intro _; rfl) (hp : ∀ x y, As (pt x y) = (As x).set k (A y) := by intro _ _; rfl)
    (ha : ∀ v, assign (.Subscript a (.Constant (.int (k : Int)) j q1) apos) X.env v = (do
      let ov ← holding [v] (eval a X.env)
      let iv ← holding [v, ov] (eval (.Constant (.int (k : Int)) j q1) X.env)
      standAt apos
      holding [v, ov, iv] (setItem ov iv v)
      release [v, ov, iv] []) := by intro _; rfl)
    (hs : swapsWithSole [.Subscript a (.Constant (.int (k : Int)) j q1) apos] e pos.line X.env = pure false := by rfl) (hw : swappedStores [.Subscript a (.Constant (.int (k : Int)) j q1) apos] e X.env = pure none := by rfl)
    (h1 : (assignEach [.Subscript a (.Constant (.int (k : Int)) j q1) apos] X.env).map (·.2) = [assign (.Subscript a (.Constant (.int (k : Int)) j q1) apos) X.env] := by rfl) :
    JL X W cl Γ (.Assign [.Subscript a (.Constant (.int (k : Int)) j q1) apos] e pos) (tAsg tb (gSub ta (tC (.int (k : Int))) rSetL)) (n.b fun y => (m y).b fun x => .ok (y, put y x (pt (get y x) y))) (fun d => (Γ1 d.1).set i (some (ow w (S d.2)))) Γe := by
  refine ⟨ps_asg hv.pe (pg_sub (h y0).pe pe_int set_list ha) hs hw h1, fun σ F O H R D u s q => ?_⟩
  refine hv.run σ F O H R _ u s (q.bind.mono (fun y _ q z F1 O1 g H1 l1 u1 s1 p1 => ?_) fun c q F' O' H' l' u' s' => q σ F' O' H' l' u' s')
  · have hl := (h y).hl
    refine jp_place (h y) u1 s1 (q.bind.mono (fun x _ q v v0 h0 O' F2 H2 l2 u2 e0 t0 s2 ln => ?_) fun c q F' H' l' u' => ?_)
    · obtain ⟨ad, vs, h', hc, rfl, sp, w2, back⟩ := plc_rec hT hl e0 t0 s2 ln u2
      have lk : k < vs.length := by rw [← sp.len]; exact (List.getElem?_eq_some_iff.mp (hk (get y x))).1
      refine ⟨ad, vs, k, k, rfl, rfl, w2.at1, (by unfold ixN; rw [if_pos (by omega), if_pos (by omega)]; rfl), ?_⟩
      obtain ⟨fp, fc, tf, kf⟩ := sp.focusV (hk (get y x))
      have w3 : Pt (one ad (.lst (vs.set k z)) :: h' :: hc :: O' :: F2 :: g :: R) _ := w2.write
      have w4 : Pt (fp :: fc :: one ad (.lst (vs.set k z)) :: hc :: O' :: F2 :: g :: R) _ := (w3.swap).split2 tf
      obtain ⟨F4, l4, _, w5⟩ := (w4.perm (l' := F2 :: fp :: fc :: one ad (.lst (vs.set k z)) :: hc :: O' :: g :: R) ((List.perm_append_comm (l₁ := [fp, fc, one ad (.lst (vs.set k z)), hc, O']) (l₂ := [F2])).append_right (g :: R))).leak
      obtain ⟨h2', j2, w6⟩ := (w5.perm (l' := g :: fc :: F4 :: one ad (.lst (vs.set k z)) :: hc :: O' :: R) (by
        have : List.Perm [F4, fc, one ad (.lst (vs.set k z)), hc, O', g] [g, fc, F4, one ad (.lst (vs.set k z)), hc, O'] := (List.perm_append_comm (l₁ := [F4, fc, one ad (.lst (vs.set k z)), hc, O']) (l₂ := [g])).trans (.cons _ (.swap _ _ _))
        exact this.append_right R)).join2
      have sp2 := kf (A y) z F4 g h2' l4 ((A y).mono (l2.tr l4) p1) j2
      rw [← hp] at sp2
      obtain ⟨O3, w7, s3⟩ := back (pt (get y x) y) (vs.set k z) F4 h2' R _ l4 sp2 (w6.perm (by
        have : List.Perm [h2', F4, one ad (.lst (vs.set k z)), hc, O'] [one ad (.lst (vs.set k z)), h2', hc, O', F4] := by
          refine (List.perm_append_comm (l₁ := [h2', F4]) (l₂ := [one ad (.lst (vs.set k z)), hc, O'])).trans (.cons _ ?_)
          exact (List.perm_append_comm (l₁ := [hc, O']) (l₂ := [h2', F4])).trans (.cons _ (List.perm_append_comm (l₁ := [F4]) (l₂ := [hc, O'])))
        exact this.append_right R))
      exact q σ F4 O3 _ (l1.tr (l2.tr l4)) w7 s3
    · obtain ⟨F4, l4, _, u4⟩ := (u'.perm (l' := F' :: g :: O1 :: R) (.cons _ (.swap _ _ _))).leak
      obtain ⟨F2, O2, l5, u5, s5⟩ := (we y).slots (s1.mono (l'.tr l4)) u4
      exact q σ F2 O2 H' (l1.tr (l'.tr (l4.tr l5))) u5 s5
/-- slot i's list, a hole in the place of its k-th part: the hole's value -/
theorem jn_hrprt {K0 : PySem.W.Frag} (i : Nat) (w : Option V) (k : Nat) {x : Str} {l : List Asn} {vp : V} {px q1 pos : Pos} {j} (hl : Γ[i]? = some (some (ow w (oL l))) := by rfl) (hk : l[k]? = some (aV vp) := by rfl) (hN : X.N[i]? = some x := by rfl)
    (hv : Vis X.env.scope x := by first | exact Or.inl rfl | exact Or.inr (Or.inl rfl) | exact Or.inr (Or.inr rfl)) (hd : (x == ("__debug__" : Str)) = false := by decide) (hcd : (x == ("__classdict__" : Str)) = false := by decide) (hK : X.K = K0 := by rfl) :
    JN X W cl Γ (.Subscript (.Name x px) (.Constant (.int (k : Int)) j q1) pos) (tOp (rIxL K0) (tVar i) (tC (.int (k : Int)))) (.ok ()) (fun _ => aV vp) := by
  subst hK
  refine ⟨pe_ix ix_list (pe_var hN hv hd hcd) pe_int (fun _ _ => rfl), fun σ F O H R Q u s q => ?_⟩
  obtain ⟨x', h, O', e', t, ⟨v0, rfl, p0⟩, s'⟩ := s.take hl
  obtain ⟨ad, vs, h', rfl, t2, sp⟩ := ow_of p0
  obtain ⟨v, fp, fc, ev, tf, ⟨rfl, _⟩, kf⟩ := sp.focusL hk
  have lO : Le h H := (t.le (by simp) : Le h O).tr (u.le (by simp))
  exact ⟨.ref ad, e', ad, vs, k, v, rfl, rfl, SqL.of (lO _ _ t2.at1), atI_nat ev, q v F emp H .rfl (pt_addE u) ⟨rfl, rfl⟩⟩
/-- a list taken apart: a hole and its k-th part -/
theorem spl_rprt (k : Nat) {As : α → List Asn} {Sf : α → Asn} {Hl : V → Asn} {A : α → Asn} {y0 : α} (hS : ∀ z, Sf z = oL (As z) := by intro _; rfl) (hk : ∀ z, (As z)[k]? = some (A z) := by intro _; rfl) (hs : ∀ z, As z = (As y0).set k (A z) := by intro _; rfl) (hH : ∀ vp, Hl vp = oL ((As y0).set k (aV vp)) := by intro _; rfl) : Spl Sf Hl A y0 := by
  refine ⟨fun v F h p => ?_, fun y vp v F h1 h2 h pH pA t => ?_⟩
  · rw [hS] at p
    obtain ⟨ad, vs, h', rfl, t2, sp⟩ := p
    obtain ⟨v, fp, fc, ev, tf, pf, kf⟩ := sp.focusL (hk y0)
    have w1 : Pt [fp, fc, one ad (.lst vs)] h := (t2.swap).unfold tf
    obtain ⟨c, j, z⟩ := (w1.perm (l' := [one ad (.lst vs), fc, fp]) (by exact (List.perm_append_comm (l₁ := [fp, fc]) (l₂ := [one ad (.lst vs)])).trans (.cons _ (.swap _ _ _)))).join2
    refine ⟨v, c, fp, z, ?_, pf⟩
    rw [hH]
    exact ⟨ad, vs, fc, rfl, j, kf (aV v) F emp fc .rfl ⟨rfl, rfl⟩ .l_emp⟩
  · rw [hH] at pH
    obtain ⟨ad, vs, h', rfl, t2, sp⟩ := pH
    have hlt : k < (As y0).length := (List.getElem?_eq_some_iff.mp (hk y0)).1
    obtain ⟨v, fp, fc, ev, tf, ⟨rfl, rfl⟩, kf⟩ := sp.focusL (n := k) (A := aV vp) (by rw [List.getElem?_set_self hlt])
    have efc : fc = h' := (tf.emp_l).symm
    subst efc
    have w1 : Pt [one ad (.lst vs), fc, h2] h := t.unfold (l := [one ad (.lst vs), fc]) t2
    obtain ⟨c, j, z⟩ := (w1.perm (l' := [h2, fc, one ad (.lst vs)]) (by exact (List.perm_append_comm (l₁ := [one ad (.lst vs), fc]) (l₂ := [h2])).trans (.cons _ (.swap _ _ _)))).join2
    rw [hS, hs y]
    have := kf (A y) F h2 c .rfl pA j
    rw [List.set_set] at this
    exact ⟨ad, vs, c, rfl, z.swap, this⟩
/-- a list of parts of their own kinds, written out -/
theorem jn_rlit {ι : Type} {ts : TA} {As : ι → List Asn} {C : γ → Asn} (g : ι → γ) {m : Rs ι} (h : JNs X W cl Γ es ts m As) (hC : ∀ i, C (g i) = oL (As i) := by intro _; rfl) (hl : ∀ i, Nat.ble (As i).length 64 = true := by intro _; rfl) :
    JN X W cl Γ (.List es pos) (tLst ts) (m.b fun i => .ok (g i)) C := by
  obtain ⟨p, k⟩ := h
  refine ⟨pe_lst p, fun σ F O H R Q u s q => k σ F O H R _ u s (q.bind.mono (fun i _ q vs F' h H' l u' p' => ?_) fun c q => q)⟩
  have hz : vs.length ≤ sizeLine := by rw [← p'.len]; exact short (hl i)
  refine ⟨hz, fun a ha => ?_⟩
  obtain ⟨c, j, u2⟩ := ((u'.alloc ha).perm (l' := one a (.lst vs) :: h :: F' :: O :: R) (.cons _ (.trans (.cons _ (.swap _ _ _)) (.swap _ _ _)))).join2
  exact q _ F' c _ l (u2.perm (.trans (.swap _ _ _) (.cons _ (.swap _ _ _)))) (by rw [hC]; exact ⟨a, vs, h, rfl, j, p'⟩)
/-- a frozen part of one's own such list -/
theorem jn_orprt {K0 : PySem.W.Frag} (i : Nat) (w : Option V) (k : Nat) {x : Str} {l : List Asn} {Bf : γ → Asn} [pf : PerF Bf] (g : γ) {px q1 pos : Pos} {j} (hl : Γ[i]? = some (some (ow w (oL l))) := by rfl) (hk : l[k]? = some (Bf g) := by rfl) (hN : X.N[i]? = some x := by rfl)
    (hv : Vis X.env.scope x := by first | exact Or.inl rfl | exact Or.inr (Or.inl rfl) | exact Or.inr (Or.inr rfl)) (hd : (x == ("__debug__" : Str)) = false := by decide) (hcd : (x == ("__classdict__" : Str)) = false := by decide) (hK : X.K = K0 := by rfl) :
    JN X W cl Γ (.Subscript (.Name x px) (.Constant (.int (k : Int)) j q1) pos) (tOp (rIxL K0) (tVar i) (tC (.int (k : Int)))) (.ok g) Bf := by
  subst hK
  refine ⟨pe_ix ix_list (pe_var hN hv hd hcd) pe_int (fun _ _ => rfl), fun σ F O H R Q u s q => ?_⟩
  obtain ⟨x', h, O', e', t, ⟨v0, rfl, p0⟩, s'⟩ := s.take hl
  obtain ⟨ad, vs, h', rfl, t2, sp⟩ := ow_of p0
  obtain ⟨v, fp, fc, ev, tf, pv, kf⟩ := sp.focusL hk
  have eg := pf.per _ _ _ _ pv
  subst eg
  have lO : Le h H := (t.le (by simp) : Le h O).tr (u.le (by simp))
  exact ⟨.ref ad, e', ad, vs, k, v, rfl, rfl, SqL.of (lO _ _ t2.at1), atI_nat ev, q v F emp H .rfl (pt_addE u) pv⟩
end
end Br
namespace Br
open PySem PySem.Spec L2
variable [tgi : Tbs]
section
variable {α β B T S : Type} {X : Cx} {W : WX} {cl : String → Addr} {Γ Γe : Ctx}
theorem JS.noer (Γe' : Ctx) {st : Stmt} {t : TS} {m : Fl B T S} {Γn : S → Ctx} {Γb : B → Ctx} {RA : RAs T} (n : NoErF m) (h : JS X W cl Γ st t m Γn Γb RA Γe') : JS X W cl Γ st t m Γn Γb RA Γe := by
  obtain ⟨p, k⟩ := h
  refine ⟨p, fun σ F O H R D u s q => k σ F O H R D u s ?_⟩
  cases m with
  | er c => exact absurd rfl (n c)
  | nx s => exact q
  | rt s => exact q
  | bk s => exact q
  | ct s => exact q
  | no => exact q
theorem noEr_lcM {c : α → Rs Bool} {f : α → Rs β} : ∀ xs, NoEr (lcM c f xs)
  | [] => noEr_ok
  | x :: xs => by
    have ih := noEr_lcM (c := c) (f := f) xs
    unfold lcM
    split
    · split
      · exact noEr_b ih fun _ => noEr_ok
      · exact noEr_no
    · exact ih
    · exact noEr_no
theorem noEr_lc {c : α → Rs Bool} {f : α → Rs β} {xs : List α} : NoEr (lcN c f xs) := by
  unfold lcN
  split
  · exact noEr_lcM xs
  · exact noEr_no
end
section
variable {α δ : Type} {X : Cx} {W : WX} {cl : String → Addr} {Γ : Ctx} {a : Expr} {pos : Pos} {ta : TE}
/-- a part of an own tuple that nothing else holds -/
theorem jn_mvpart {K0 : PySem.W.Frag} {T : α → Asn} {Es : α → List Asn} {D : δ → Asn} (i : Nat) (g : α → δ) {m : Rs α} {j q1} (h1 : JN X W cl Γ a ta m T) (hT : ∀ x, T x = oT (Es x) := by intro _; rfl) (hi : ∀ x, (Es x)[i]? = some (D (g x)) := by intro _; rfl) (hK : X.K = K0 := by rfl) :
    JN X W cl Γ (.Subscript a (.Constant (.int (i : Int)) j q1) pos) (tOp (rIxT K0) ta (tC (.int (i : Int)))) (m.b fun x => .ok (g x)) D := by
  subst hK
  obtain ⟨pa, ka⟩ := h1
  refine ⟨pe_ix ix_tup pa pe_int (fun _ _ => rfl), fun σ F O H R Q u s q => ka σ F O H R _ u s (q.bind.mono (fun x _ q v F1 h1 H1 le1 u1 p1 => ?_) fun c q => q)⟩
  rw [hT] at p1
  obtain ⟨a, ws, rfl, sq, sp⟩ := p1
  obtain ⟨w, fp, fc, e, tf, p2, kf⟩ := sp.focusL (hi x)
  have l1 : Le F1 H1 := u1.le (by simp)
  refine ⟨a, ws, i, w, rfl, rfl, SqT.of (l1 _ _ sq), atI_nat e, ?_⟩
  have w1 : Pt (h1 :: F1 :: O :: R) H1 := u1.perm ((List.perm_append_comm (l₁ := [F1, O]) (l₂ := [h1])).append_right R)
  have w2 : Pt (fp :: fc :: F1 :: O :: R) H1 := w1.split2 tf
  have w3 : Pt (F1 :: fc :: O :: fp :: R) H1 := w2.perm (((List.perm_append_comm (l₁ := [fp]) (l₂ := [fc, F1, O])).trans (.swap _ _ _)).append_right R)
  obtain ⟨F2, l2, _, w4⟩ := w3.leak
  exact q w F2 fp H1 (le1.tr l2) w4 ((D (g x)).mono l2 p2)
end
/-- told where c holds -/
def gd {α : Type} (c : Prop) [Decidable c] (m : Rs α) : Rs α := if c then m else .no
theorem gd_ok {α : Type} {c : Prop} [Decidable c] {m : Rs α} (h : c) : gd c m = m := if_pos h
section
variable {α β γ ι ρ : Type} {X : Cx} {W : WX} {cl : String → Addr} {Γ Γe : Ctx} {tg e a b : Expr} {es : List Expr} {pos p : Pos} {ta tb : TE}
/-- slot i's list, a hole in the place of its k-th item: the hole's value -/
theorem jn_hix {K0 : PySem.W.Frag} (i : Nat) (w : Option V) {A : α → Asn} {xs : List α} {k : Nat} {ix : Int} {vp : V} {x : Str} {px : Pos} (h2 : JN X W cl Γ b tb (.ok ix) aI) (hl : Γ[i]? = some (some (ow w (oL ((xs.map A).set k (aV vp))))) := by rfl) (hN : X.N[i]? = some x := by rfl)
    (hv : Vis X.env.scope x := by first | exact Or.inl rfl | exact Or.inr (Or.inl rfl) | exact Or.inr (Or.inr rfl)) (hd : (x == ("__debug__" : Str)) = false := by decide) (hcd : (x == ("__classdict__" : Str)) = false := by decide) (hs : PlainIx b := by intro _ _; rfl) (hK : X.K = K0 := by rfl) :
    JN X W cl Γ (.Subscript (.Name x px) b pos) (tOp (rIxL K0) (tVar i) tb) (gd (ixN xs.length ix = some k) (.ok ())) (fun _ => aV vp) := by
  subst hK
  obtain ⟨pb, kb⟩ := h2
  refine ⟨pe_ix ix_list (pe_var hN hv hd hcd) pb hs, fun σ F O H R Q u s q => ?_⟩
  obtain ⟨x', h, O', e', t, ⟨v0, rfl, p0⟩, s'⟩ := s.take hl
  obtain ⟨ad, vs, h', rfl, t2, sp⟩ := ow_of p0
  by_cases c : ixN xs.length ix = some k
  · rw [gd_ok c] at q
    have el : xs.length = vs.length := by have := sp.len; rwa [List.length_set, List.length_map] at this
    have lk : k < xs.length := by
      unfold ixN at c
      split at c
      · split at c
        · injection c with c; omega
        · cases c
      · split at c
        · injection c with c; omega
        · cases c
    refine ⟨.ref ad, e', kb σ F O H R _ u s (fun z F2 g2 H2 l2 u2 p2 => ?_)⟩
    obtain ⟨rfl, rfl⟩ := p2
    obtain ⟨v, fp, fc, ev, tf, ⟨rfl, _⟩, kf⟩ := sp.focusL (n := k) (A := aV vp) (by rw [List.getElem?_set_self (by rw [List.length_map]; exact lk)])
    have u3 := pt_skip u2 rfl
    have lO : Le h H2 := (t.le (by simp) : Le h O).tr (u3.le (by simp))
    refine ⟨ad, vs, ix, v, rfl, rfl, SqL.of (lO _ _ t2.at1), ?_, q v F2 emp H2 l2 (pt_addE u3) ⟨rfl, rfl⟩⟩
    unfold atI
    rw [← el, c]
    exact ev
  · unfold gd at q
    rw [if_neg c] at q
    exact q.elim
theorem map_set_at {A : α → Asn} {xs : List α} {k : Nat} {y : α} (h : xs[k]? = some y) : xs.set k y = xs := by
  obtain ⟨l, e⟩ := List.getElem?_eq_some_iff.mp h
  rw [← e, List.set_getElem_self]
/-- a call that is given an own list's item -/
theorem je_holeI [Inhabited α] (i : Nat) (w : Option V) {A : α → Asn} {C : γ → Asn} {t : TE} {xs : List α} {ix : Int} {m : Nat → α → Rs (γ × α)} (we : Wk Γ Γe) (h : ∀ k y vp, JH X W cl (Γ.set i (some (ow w (oL ((xs.map A).set k (aV vp)))))) [A y] [vp] e t (m k y) (fun r => C r.1) (fun r => [A r.2]))
    (wee : ∀ k vp, Wk (Γ.set i (some (ow w (oL ((xs.map A).set k (aV vp)))))) Γe) (hl : Γ[i]? = some (some (ow w (oA A xs))) := by rfl) :
    JE X W cl Γ e t ((ixR xs ix).b fun p => (m p.1 p.2).b fun r => .ok (r.1, xs.set p.1 r.2)) (fun d => Γ.set i (some (ow w (oA A d.2)))) (fun d => C d.1) Γe := by
  have pe := (h 0 default .non).pe
  unfold ixR
  cases ej : ixN xs.length ix with
  | none => exact ⟨pe, fun σ F O H R Q u s q => q.elim⟩
  | some k =>
    cases ex : xs[k]? with
    | none => simp only [ex]; exact ⟨pe, fun σ F O H R Q u s q => q.elim⟩
    | some y =>
      simp only [ex]
      have hk : k < xs.length := (List.getElem?_eq_some_iff.mp ex).1
      have me : xs.set k y = xs := map_set_at (A := A) ex
      have sp : Spl (fun z => oA A (xs.set k z)) (fun vp => oL ((xs.map A).set k (aV vp))) A y :=
        spl_rprt k (As := fun z => (xs.set k z).map A) (fun _ => rfl) (fun z => by rw [List.getElem?_map, List.getElem?_set_self hk]; rfl) (fun z => by rw [me, List.map_set]) (fun vp => by rw [me])
      have j := je_hole1 i w (S := fun z => oA A (xs.set k z)) (Hl := fun vp => oL ((xs.map A).set k (aV vp))) (A := A) (y0 := y) (C := fun r : γ × α => C r.1) (fun r => r.2) we sp (fun vp => h k y vp) (wee k) (by rw [me]; exact hl)
      refine ⟨j.pe, fun σ F O H R Q u s q => j.run σ F O H R Q u s ?_⟩
      have q2 : Out ((m k y).b fun r => Rs.ok (r.1, xs.set k r.2)) _ _ := q
      exact q2.bind.mono (fun r _ q v F' O' h H' l u' s' p' => q v F' O' h H' l u' s' p') fun c q => q
/-- the last argument, that changes something -/
theorem jes_last {t : TE} {m : Rs α} {A : α → Asn} {Γ1 : α → Ctx} [ne : Nonempty α] (h1 : JE X W cl Γ e t m Γ1 A Γe) (hs : starEach [e] X.env = (false, eval e X.env) :: starEach [] X.env := by rfl) :
    JEs X W cl Γ [e] (tCons t tNil) (m.b fun x => .ok (x, ())) (fun p => Γ1 p.1) (fun p => [A p.1]) Γe := by
  obtain ⟨pa, ka⟩ := h1
  refine ⟨pa_cons pa pa_nil hs, fun σ F O H R Q u s q => ka σ F O H R _ u s (q.bind.mono (fun x _ q v F1 O1 h1 H1 le1 u1 s1 p1 => ?_) fun c q => q)⟩
  exact q [v] F1 O1 h1 H1 le1 u1 s1 (Sep.sing p1)
/-- a call whose arguments change something -/
theorem je_calK {x : Str} {t : TA} {j k : Nat} {ps : List Str} {As : ι → List Asn} {As' : α → List Asn} {fm : ι → Rs ρ} {C : ρ → Asn} {m : Rs α} {Γ' : α → Ctx} (g : α → ι) (G : Gd X W k) (cc : CalR X.prog X.w X.K X.mg X.base cl j x ps As fm C) (h : JEs X W cl Γ (e :: es) t m Γ' As' Γe) (we : ∀ a, Wk (Γ' a) Γe) (hA : ∀ a, As' a = As (g a) := by intro _; rfl) (hj : j ≤ k := by decide) (hg : Gl X x := by rfl) (hdb : (x == ("__debug__" : Str)) = false := by decide)
    (he : starEach (e :: es) X.env = (false, eval e X.env) :: starEach es X.env := by rfl) (hpl : (backTo pos (starEach es X.env)).any (·.1) = false := by rfl) :
    JE X W cl Γ (.Call (.Name x p) (e :: es) [] pos) (tCallS (Fsp cl As fm C) (WE W) t) (m.b fun a => (fm (g a)).b fun r => .ok (r, a)) (fun d => Γ' d.2) (fun d => C d.1) Γe := by
  obtain ⟨f, fd, F, hm, kp, hb⟩ := cc.ex
  obtain ⟨pp, kk⟩ := h
  refine ⟨pe_callS F (G.room.mono hj) hg hm kp hb (passAt G.tk) pp hdb he hpl, fun σ F0 O H R Q u s q => kk σ F0 O H R _ u s (q.bind.mono (fun i _ q vs F' O' h H' l u' s' p' => ?_) fun c q => q)⟩
  refine ⟨g i, F', h, O' :: R, s'.tgo, u'.swap1, hA i ▸ p', q.bind.mono (fun r _ q v F2 h2 H2 l2 u2 p2 => q v F2 O' h2 H2 (l.tr l2) u2.swap1 (s'.mono l2) p2) fun c q F2 H2 l2 u2 => ?_⟩
  obtain ⟨F3, O3, l3, u3, s3⟩ := (we i).slots (s'.mono l2) u2
  exact q F3 O3 H2 (l.tr (l2.tr l3)) u3 s3
/-- a walk over a triple -/
theorem ji_tri {K0 : PySem.W.Frag} {A : α → Asn} [pf : PerF A] {Tp : α × α × α → Asn} [rd : RdT Tp (fun z => [A z.1, A z.2.1, A z.2.2])] {m : Rs (α × α × α)} (h1 : JN X W cl Γ a ta m Tp) (hK : X.K = K0 := by rfl) : JI X W cl Γ tg a (iTup K0 ta) (m.b fun x => .ok [x.1, x.2.1, x.2.2]) A := by
  subst hK
  obtain ⟨pa, ka⟩ := h1
  refine ⟨pi_tup pa, fun σ F O H R Q u s q => ka σ F O H R _ u s (q.bind.mono (fun xs _ q v F1 h1 H1 l1 u1 p1 => ?_) fun c q => q)⟩
  obtain ⟨a, vs, h', rfl, sq, lh, sp⟩ := rd.rd _ _ _ _ p1
  obtain ⟨F2, l2, l3, u2⟩ := pt_leak3 u1
  have hq : ∀ H, Le F2 H → SqT X.K H a vs := fun H l => SqT.of (sq H (l2.tr l) (l3.tr l))
  have sp : Sep ([xs.1, xs.2.1, xs.2.2].map A) vs F1 h' := sp
  have el : [xs.1, xs.2.1, xs.2.2].length = vs.length := by have := sp.len; rwa [List.length_map] at this
  refine ⟨a, rfl, ⟨vs, hq H1 (u2.le (by simp))⟩, q (Itt X.K a) F2 H1 (l1.tr l2) u2 (fun i F3 H3 O3 R3 x l4 u4 ex => ?_) (fun F3 H3 l l4 u4 => ⟨vs, hq H3 (l4.tr (u4.le (by simp))), by omega⟩)⟩
  obtain ⟨v, g1, g2, ev, t, pv⟩ := sp.get (map_at (E := A) ex)
  have eg := pf.per _ _ _ _ pv
  subst eg
  have hq3 := hq H3 (l4.tr (u4.le (by simp)))
  refine ⟨⟨vs, v, hq3, ev⟩, fun w H4 ⟨e4, y⟩ => ?_⟩
  subst e4
  have ew : vs[i]? = some w := y vs hq3
  rw [ev] at ew; cases ew
  exact ⟨F3, emp, .rfl, pt_addE u4, (A x).mono (l2.tr l4) pv⟩
end
def kitBs (a : String) : List String → Option Bool
  | [] => some false
  | b :: bs => match kitB a b with
    | some true => some true
    | some false => kitBs a bs
    | none => none
theorem kitAny_bs {K : PySem.W.Frag} {a : String} : ∀ {ns : List String} {r : Bool}, kitBs a ns = some r → PySem.W.kitAny K (.type a) (ns.map Value.type) = some r
  | [], r, h => by
    cases h
    rfl
  | b :: ns, r, h => by
    unfold kitBs at h
    rw [List.map_cons, PySem.W.kitAny]
    cases e : kitB a b with
    | none => rw [e] at h; cases h
    | some c =>
      rw [e] at h
      rw [kit_ty e]
      cases c with
      | true => exact h
      | false => exact kitAny_bs h
def rIsiT (K : PySem.W.Frag) : List V → Hp → VK → Prop := fun xs H Q => ∃ (x : V) (tp : Addr) (cs : List V) (us : List Value) (T : Value) (b : Bool), xs = [x, .ref tp] ∧ H tp = some (.tup cs) ∧ Paired ClsV cs us ∧ TyX K H x T ∧ PySem.W.kitAny K T us = some b ∧ Q (.bl b) H
section
variable {α ι : Type} {X : Cx} {W : WX} {cl : String → Addr} {Γ Γe : Ctx} {e b : Expr} {es : List Expr} {pos p : Pos} {ta tb' : TE}
theorem call_isiT : CallR X (.builtin "isinstance") (rIsiT X.K) := by
  intro pins s σ H xs us Q I r h
  obtain ⟨x, tp, cs, ws, T, b, rfl, hT, kk, ty, e, q⟩ := h
  obtain ⟨u1, u2, rfl, r1, r2⟩ := vals2 r
  cases (show u2 = Value.ref tp from r2)
  obtain ⟨_, its, rv, o, g1, g2, n, g3⟩ := (show ObjOk X.prog X.w H s.heap tp (.tup cs) from I.hok tp _ hT)
  have e3 := ClsV.all kk rv
  subst e3
  obtain ⟨oc, od, dt, sl⟩ := o
  simp only at g2 g3
  subst g2 g3
  obtain ⟨P, Z, p, hx⟩ := kit_of I r1 ty
  exact PySem.W.kia_tup Z I.kIn p g1 e hx fun tk => ⟨.bl b, H, I.tok tk, rfl, q⟩
theorem cls_tys : ∀ ns : List String, Paired ClsV (ns.map V.ty) (ns.map Value.type)
  | [] => .nil
  | _ :: ns => .cons (.ty _) (cls_tys ns)
theorem sep_aV {F : Hp} : ∀ {cs : List V} {ws : List V} {h : Hp}, Sep (cs.map aV) ws F h → ws = cs ∧ h = emp
  | [], [], _, s => ⟨rfl, s⟩
  | c :: cs, w :: ws, h, ⟨g1, g2, t, p, r⟩ => by
    obtain ⟨e1, e2⟩ := sep_aV r
    obtain ⟨e3, e4⟩ := p
    subst e4
    exact ⟨by rw [e3, e1], by rw [← e2]; exact t.emp_l⟩
  | [], _ :: _, _, s => s.elim
  | _ :: _, [], _, s => s.elim
theorem jn_isiT {K0 : PySem.W.Frag} {ty : α → String} (ns : List String) (r : α → Bool) {A : α → Asn} [tf : TyD K0 A ty] {m : Rs α} (hm : X.mg "isinstance" = none) (h : JN X W cl Γ e ta m A) (hT : JN X W cl Γ b tb' (.ok ()) (fun _ => oT ((ns.map V.ty).map aV))) (hk : ∀ x, kitBs (ty x) ns = some (r x)) (hg : Gl X "isinstance" := by rfl)
    (hs : starEach [e, b] X.env = (false, eval e X.env) :: starEach [b] X.env := by rfl) (hs2 : starEach [b] X.env = (false, eval b X.env) :: starEach [] X.env := by rfl) (hpl : (backTo pos (starEach [b] X.env)).any (·.1) = false := by rfl) (hK : X.K = K0 := by rfl) :
    JN X W cl Γ (.Call (.Name "isinstance" p) [e, b] [] pos) (tCB (rIsiT K0) (tCons ta (tCons tb' tNil))) (m.b fun x => .ok (r x)) aB := by
  subst hK
  have e1 : (m.b fun x => (.ok (r x) : Rs Bool)) = ((m.b fun x => (Rs.ok ()).b fun y => .ok (x, y)).b fun q => opt (some (r q.1))) := by cases m <;> rfl
  rw [e1]
  exact JN.args (f := fun q : α × Unit => some (r q.1)) (jns_cons h (jns_one hT hs2) hs) (fun q => pe_callB call_isiT hg hm PyProof.Rows.boot_isinstance q (he := hs) (hpl := hpl)) fun q vs F h H R Q c e u sp k => by
    obtain ⟨v, w, h1, h2, rfl, t, p1, a, ws, rfl, t2, s2⟩ := sep2 sp
    obtain ⟨l1, l2⟩ := le_part u
    obtain ⟨e5, e6⟩ := sep_aV s2
    subst e5
    refine ⟨v, a, _, ns.map Value.type, .type (ty q.1), r q.1, rfl, l1 _ _ t2, cls_tys ns, tf.is _ _ _ _ H p1 l1 ((t.le (by simp)).tr l2), kitAny_bs (hk q.1), ?_⟩
    cases e
    exact kt_val k u fun F' _ _ => ⟨rfl, rfl⟩
end
section
variable {K : PySem.W.Frag} {α : Type}
instance : DatF K (aO aI) := ⟨fun o => o.elim .none .int, 0, fun x v F h H p _ _ => by
    cases x with
    | none => rw [p.1]; exact .non
    | some x => rw [p.1]; exact .int x, fun x => by cases x <;> rfl, fun x => by cases x <;> simp [PyData.depth], fun x y => by
    cases x <;> cases y <;> simp [PyData.eqv, Bool.beq_eq_decide_eq]⟩
instance [DecidableEq α] {A : α → Asn} [d : DatF K A] : DatF K (t1 A) := ⟨fun x => .tuple [d.dat x], d.dep + 1, fun x v F h H p lf lh => by
    obtain ⟨a, vs, h', rfl, sq, l', sp⟩ := (inferInstance : RdT (t1 A) (fun x => [A x])).rd x v F h p
    obtain ⟨v1, rfl, p1⟩ := sep1 sp
    exact .tup (SqT.of (sq H lf lh)) (.cons (d.is _ _ _ _ _ p1 lf (l'.tr lh)) .nil), fun x => by simp [PyData.canLay0, PyData.canLayAll0, d.lay], fun x => by have := d.low x; simp [PyData.depth, PyData.depthAll]; omega, fun x y => by
    rw [PyData.eqv, PyData.eqvAll, PyData.eqvAll, d.eq]; simp⟩
instance [DecidableEq α] {A : α → Asn} [d : DatF K A] : FmD K (t1 A) (d := instDatOOfDatF) [6] := ⟨fun _ => by show 6 ∈ [6]; simp⟩
end
section
variable {α β γ : Type} {A : α → Asn}
instance [Inhabited α] : Inhabited (α ⊕ β) := ⟨.inl default⟩
instance [p : NuF A] : NuF (t1 A) := ⟨fun x => not_aT (all1 (p.nu _))⟩
instance [p : NuF A] : NuF (o1 A) := ⟨fun x => not_oT (all1 (p.nu _))⟩
variable {X : Cx} {W : WX} {cl : String → Addr} {Γ Γe : Ctx} {e : Expr}
theorem spl_item {xs : List α} {k : Nat} {y : α} (ex : xs[k]? = some y) : Spl (fun z => oA A (xs.set k z)) (fun vp => oL ((xs.map A).set k (aV vp))) A y := by
  have hk : k < xs.length := (List.getElem?_eq_some_iff.mp ex).1
  have me : xs.set k y = xs := map_set_at (A := A) ex
  exact spl_rprt k (As := fun z => (xs.set k z).map A) (fun _ => rfl) (fun z => by rw [List.getElem?_map, List.getElem?_set_self hk]; rfl) (fun z => by rw [me, List.map_set]) (fun vp => by rw [me])
/-- a call that is given two own lists' items -/
theorem je_holeI2 [Inhabited α] [Inhabited β] (i i2 : Nat) (w w2 : Option V) {A2 : β → Asn} {C : γ → Asn} {t : TE} {xs : List α} {ys : List β} {ix ix2 : Int} {m : Nat → α → Nat → β → Rs (γ × α × β)}
    (h : ∀ k y k2 y2 vp vp2, JH X W cl ((Γ.set i (some (ow w (oL ((xs.map A).set k (aV vp)))))).set i2 (some (ow w2 (oL ((ys.map A2).set k2 (aV vp2)))))) [A y, A2 y2] [vp, vp2] e t (m k y k2 y2) (fun r => C r.1) (fun r => [A r.2.1, A2 r.2.2]))
    (wee : ∀ k k2 vp vp2, Wk ((Γ.set i (some (ow w (oL ((xs.map A).set k (aV vp)))))).set i2 (some (ow w2 (oL ((ys.map A2).set k2 (aV vp2)))))) Γe) (hl : Γ[i]? = some (some (ow w (oA A xs))) := by rfl) (hl2 : Γ[i2]? = some (some (ow w2 (oA A2 ys))) := by rfl) (hne : i ≠ i2 := by decide) :
    JE X W cl Γ e t ((ixR xs ix).b fun p => (ixR ys ix2).b fun q => (m p.1 p.2 q.1 q.2).b fun r => .ok (r.1, xs.set p.1 r.2.1, ys.set q.1 r.2.2)) (fun d => (Γ.set i (some (ow w (oA A d.2.1)))).set i2 (some (ow w2 (oA A2 d.2.2)))) (fun d => C d.1) Γe := by
  have pe := (h 0 default 0 default .non .non).pe
  unfold ixR
  cases ej : ixN xs.length ix with
  | none => exact ⟨pe, fun σ F O H R Q u s q => q.elim⟩
  | some k =>
    cases ex : xs[k]? with
    | none => simp only [ex]; exact ⟨pe, fun σ F O H R Q u s q => q.elim⟩
    | some y =>
      simp only [ex]
      cases ej2 : ixN ys.length ix2 with
      | none => exact ⟨pe, fun σ F O H R Q u s q => q.elim⟩
      | some k2 =>
        cases ex2 : ys[k2]? with
        | none => simp only [ex2]; exact ⟨pe, fun σ F O H R Q u s q => q.elim⟩
        | some y2 =>
          simp only [ex2]
          have j := je_hole2 i i2 w w2 (S := fun z => oA A (xs.set k z)) (S2 := fun z => oA A2 (ys.set k2 z)) (Hl := fun vp => oL ((xs.map A).set k (aV vp))) (Hl2 := fun vp => oL ((ys.map A2).set k2 (aV vp))) (A := A) (A2 := A2) (y0 := y) (y2 := y2) (C := fun r : γ × α × β => C r.1) (fun r => r.2.1) (fun r => r.2.2) (spl_item ex) (spl_item ex2) (fun vp vp2 => h k y k2 y2 vp vp2) (wee k k2) (by rw [map_set_at (A := A) ex]; exact hl) (fun vp => by rw [map_set_at (A := A2) ex2, List.getElem?_set_ne hne]; exact hl2) hne
          refine ⟨j.pe, fun σ F O H R Q u s q => j.run σ F O H R Q u s ?_⟩
          have q2 : Out ((m k y k2 y2).b fun r => Rs.ok (r.1, xs.set k r.2.1, ys.set k2 r.2.2)) _ _ := q
          exact q2.bind.mono (fun r _ q v F' O' h H' l u' s' p' => q v F' O' h H' l u' s' p') fun c q => q
end
end Br
namespace Br
open PySem PySem.Spec L2
variable [tgi : Tbs]
/-- x + y -/
def sadO (x y : Str) : Option Str := if x.length + y.length ≤ sizeLine then some (x ++ y) else none
/-- str(n) -/
def strO (i : Int) : Option Str := if i.natAbs.log2 < 1920 then some (Str.ofString (toString i)) else none
def slenO (x : Str) : Option Int := if x.length ≤ sizeLine then some (x.length : Int) else none
/-- the sign at i -/
def sixO (x : Str) (i : Int) : Option Str := if x.length ≤ sizeLine then (atI x.cps.toList i).map fun c => ⟨#[c]⟩ else none
def splO (x y : Str) : Option (List Str) := if (y.length == 0) = false ∧ x.length + 2 ≤ sizeLine then some (Txt.split x y) else none
def joiO (x : Str) (ys : List Str) : Option Str := if (ys.map (·.length)).sum + ys.length * x.length ≤ 16777216 then some (Txt.join x ys) else none
/-- a sign within a text -/
def sinO (x y : Str) : Option Bool := match x.cps.toList with
  | [c] => some (decide (c ∈ y.cps.toList))
  | _ => none
def intO (x : Str) : Option Int := if x.length ≤ 640 then intText? x else none
/-- a text's signs -/
def signs (x : Str) : List Str := x.cps.toList.map fun c => ⟨#[c]⟩
section
variable {α β γ : Type} {X : Cx} {W : WX} {cl : String → Addr} {Γ : Ctx} {tg e a b c : Expr} {es : List Expr} {pos p : Pos} {ta tb : TE} {k : Nat}
theorem jn_sadd {m n : Rs Str} (h1 : JN X W cl Γ a ta m aS) (h2 : JN X W cl Γ b tb n aS) : JN X W cl Γ (.BinOp a .Add b pos) (tOp (fun x y H Q => ∃ i j, x = .str i ∧ y = .str j ∧ i.length + j.length ≤ sizeLine ∧ Q (.str (i ++ j)) H) ta tb) (m.b fun x => n.b fun y => opt (sadO x y)) aS :=
  JN.bin (f := sadO) h1 h2 (fun p q => pe_op op_add_str p q) fun x y v w F h1 h2 H R Q c e u p q k => by
    obtain ⟨rfl, rfl⟩ := p
    obtain ⟨rfl, rfl⟩ := q
    unfold sadO at e
    split at e
    case isFalse => cases e
    case isTrue hl =>
      cases e
      exact ⟨x, y, rfl, rfl, hl, kt_val k ((u.swap).dropE) fun F' l _ => ⟨rfl, rfl⟩⟩
theorem jn_strI {m : Rs Int} (hm : X.mg "str" = none) (h1 : JN X W cl Γ a ta m aI) (hg : Gl X "str" := by rfl) (hs : starEach [a] X.env = (false, eval a X.env) :: starEach [] X.env := by rfl) (hpl : (backTo pos (starEach [] X.env)).any (·.1) = false := by rfl) :
    JN X W cl Γ (.Call (.Name "str" p) [a] [] pos) (tCB (fun xs H Q => ∃ i, xs = [.int i] ∧ i.natAbs.log2 < 1920 ∧ Q (.str (Str.ofString (toString i))) H) (tCons ta tNil)) (m.b fun x => opt (strO x)) aS :=
  JN.args (C := aS) (jns_one h1 hs) (fun q => pe_callTy call_str_int hg hm (by decide +kernel) q (he := hs) (hpl := hpl)) (f := strO) fun x vs F h H R Q c e u sp k => by
    obtain ⟨v, rfl, p1⟩ := sep1 sp
    obtain ⟨rfl, rfl⟩ := p1
    unfold strO at e
    split at e
    case isFalse => cases e
    case isTrue hl =>
      cases e
      exact ⟨x, rfl, hl, kt_val k u fun F' l _ => ⟨rfl, rfl⟩⟩
theorem jn_intS {m : Rs Str} (hm : X.mg "int" = none) (h1 : JN X W cl Γ a ta m aS) (hg : Gl X "int" := by rfl) (hs : starEach [a] X.env = (false, eval a X.env) :: starEach [] X.env := by rfl) (hpl : (backTo pos (starEach [] X.env)).any (·.1) = false := by rfl) :
    JN X W cl Γ (.Call (.Name "int" p) [a] [] pos) (tCB (fun xs H Q => ∃ a n, xs = [.str a] ∧ intText? a = some n ∧ a.length ≤ 640 ∧ Q (.int n) H) (tCons ta tNil)) (m.b fun x => opt (intO x)) aI :=
  JN.args (C := aI) (jns_one h1 hs) (fun q => pe_callTy call_int_str hg hm (by decide +kernel) q (he := hs) (hpl := hpl)) (f := intO) fun x vs F h H R Q c e u sp k => by
    obtain ⟨v, rfl, p1⟩ := sep1 sp
    obtain ⟨rfl, rfl⟩ := p1
    unfold intO at e
    split at e
    case isFalse => cases e
    case isTrue hl => exact ⟨x, c, rfl, e, hl, kt_val k u fun F' l _ => ⟨rfl, rfl⟩⟩
theorem jn_slen {m : Rs Str} (hm : X.mg "len" = none) (h1 : JN X W cl Γ a ta m aS) (hg : Gl X "len" := by rfl) (hs : starEach [a] X.env = (false, eval a X.env) :: starEach [] X.env := by rfl) :
    JN X W cl Γ (.Call (.Name "len" p) [a] [] pos) (tCB (fun xs H Q => ∃ z, xs = [.str z] ∧ z.length ≤ sizeLine ∧ Q (.int z.length) H) (tCons ta tNil)) (m.b fun x => opt (slenO x)) aI :=
  JN.args (C := aI) (jns_one h1 hs) (fun q => pe_callB call_len_str hg hm boot_len q (he := hs)) (f := slenO) fun x vs F h H R Q c e u sp k => by
    obtain ⟨v, rfl, p1⟩ := sep1 sp
    obtain ⟨rfl, rfl⟩ := p1
    unfold slenO at e
    split at e
    case isFalse => cases e
    case isTrue hl =>
      cases e
      exact ⟨x, rfl, hl, kt_val k u fun F' l _ => ⟨rfl, rfl⟩⟩
theorem jn_six {m : Rs Str} {n : Rs Int} (h1 : JN X W cl Γ a ta m aS) (h2 : JN X W cl Γ b tb n aI) (hs : PlainIx b := by intro _ _; rfl) :
    JN X W cl Γ (.Subscript a b pos) (tOp rIxS ta tb) (m.b fun x => n.b fun y => opt (sixO x y)) aS :=
  JN.bin (f := sixO) h1 h2 (fun p q => pe_ix ix_str p q hs) fun x y v w F h1 h2 H R Q c e u p q k => by
    obtain ⟨rfl, rfl⟩ := p
    obtain ⟨rfl, rfl⟩ := q
    unfold sixO at e
    split at e
    case isFalse => cases e
    case isTrue hl =>
      obtain ⟨d, e1, e2⟩ := Option.map_eq_some_iff.mp e
      subst e2
      exact ⟨x, y, d, rfl, rfl, hl, e1, kt_val k ((u.swap).dropE) fun F' l _ => ⟨rfl, rfl⟩⟩
theorem sin_op {neg : Bool} {H : Hp} {x y : Str} {c : Bool} (e : (sinO x y).map (fun b => if neg then !b else b) = some c) : ∃ d, x = ⟨#[d]⟩ ∧ c = (if neg then !decide (d ∈ y.cps.toList) else decide (d ∈ y.cps.toList)) := by
  unfold sinO at e
  generalize hd : x.cps.toList = l at e
  match l, e with
  | [], e => cases e
  | _ :: _ :: _, e => cases e
  | [d], e =>
    cases e
    refine ⟨d, ?_, rfl⟩
    obtain ⟨⟨l⟩⟩ := x
    simp at hd
    rw [hd]
theorem jn_inS {m n : Rs Str} (h1 : JN X W cl Γ a ta m aS) (h2 : JN X W cl Γ b tb n aS) (hm : behindInMarks .In b = false := by rfl) :
    JN X W cl Γ (.Compare a [.In] [b] pos) (tOp (fun x y H Q => ∃ c z, x = .str ⟨#[c]⟩ ∧ y = .str z ∧ Q (.bl (decide (c ∈ z.cps.toList))) H) ta tb) (m.b fun x => n.b fun y => opt ((sinO x y).map fun b => if false then !b else b)) aB :=
  JN.bin (f := fun x y => (sinO x y).map fun b => if false then !b else b) h1 h2 (fun p q => pe_cmpR op_in_sign p q hm) fun x y v w F h1 h2 H R Q c e u p q k => by
    obtain ⟨rfl, rfl⟩ := p
    obtain ⟨rfl, rfl⟩ := q
    obtain ⟨d, rfl, rfl⟩ := sin_op (H := H) (neg := false) e
    exact ⟨d, y, rfl, rfl, kt_val k ((u.swap).dropE) fun F' l _ => ⟨rfl, rfl⟩⟩
theorem jn_ninS {m n : Rs Str} (h1 : JN X W cl Γ a ta m aS) (h2 : JN X W cl Γ b tb n aS) (hm : behindInMarks .NotIn b = false := by rfl) :
    JN X W cl Γ (.Compare a [.NotIn] [b] pos) (tOp (fun x y H Q => ∃ c z, x = .str ⟨#[c]⟩ ∧ y = .str z ∧ Q (.bl (!decide (c ∈ z.cps.toList))) H) ta tb) (m.b fun x => n.b fun y => opt ((sinO x y).map fun b => if true then !b else b)) aB :=
  JN.bin (f := fun x y => (sinO x y).map fun b => if true then !b else b) h1 h2 (fun p q => pe_cmpR op_notIn_sign p q hm) fun x y v w F h1 h2 H R Q c e u p q k => by
    obtain ⟨rfl, rfl⟩ := p
    obtain ⟨rfl, rfl⟩ := q
    obtain ⟨d, rfl, rfl⟩ := sin_op (H := H) (neg := true) e
    exact ⟨d, y, rfl, rfl, kt_val k ((u.swap).dropE) fun F' l _ => ⟨rfl, rfl⟩⟩
theorem jt_inS {m n : Rs Str} (h1 : JN X W cl Γ a ta m aS) (h2 : JN X W cl Γ b tb n aS) (hm : behindInMarks .In b = false := by rfl) :
    JT X W cl Γ (.Compare a [.In] [b] pos) (tTest (tOp (fun x y H Q => ∃ c z, x = .str ⟨#[c]⟩ ∧ y = .str z ∧ Q (.bl (decide (c ∈ z.cps.toList))) H) ta tb)) (m.b fun x => n.b fun y => opt ((sinO x y).map fun b => if false then !b else b)) :=
  jt_c (jn_inS h1 h2 hm) (pt_cmpR op_in_sign h1.pe h2.pe hm)
theorem jt_ninS {m n : Rs Str} (h1 : JN X W cl Γ a ta m aS) (h2 : JN X W cl Γ b tb n aS) (hm : behindInMarks .NotIn b = false := by rfl) :
    JT X W cl Γ (.Compare a [.NotIn] [b] pos) (tTest (tOp (fun x y H Q => ∃ c z, x = .str ⟨#[c]⟩ ∧ y = .str z ∧ Q (.bl (!decide (c ∈ z.cps.toList))) H) ta tb)) (m.b fun x => n.b fun y => opt ((sinO x y).map fun b => if true then !b else b)) :=
  jt_c (jn_ninS h1 h2 hm) (pt_cmpR op_notIn_sign h1.pe h2.pe hm)
theorem sep_strs {F : Hp} : ∀ ys : List Str, Sep (ys.map aS) (ys.map V.str) F emp
  | [] => rfl
  | y :: ys => ⟨emp, emp, .l_emp, ⟨rfl, rfl⟩, sep_strs ys⟩
theorem sep_strs_of {F h : Hp} : ∀ {ys : List Str} {vs : List V}, Sep (ys.map aS) vs F h → vs = ys.map V.str
  | [], [], _ => rfl
  | y :: ys, v :: vs, ⟨h1, h2, t, p, r⟩ => by
    obtain ⟨rfl, _⟩ := p
    rw [sep_strs_of r]; rfl
  | [], _ :: _, s => s.elim
  | _ :: _, [], s => s.elim
/-- a module's text -/
theorem jn_gstr {x : Str} {i : Str} (hg : Gl X x) (hm : ∃ t, X.mg x = some (.str i t)) (hd : (x == ("__debug__" : Str)) = false := by decide) : JN X W cl Γ (.Name x pos) (tC (.str i)) (.ok i) aS := by
  obtain ⟨t, hm⟩ := hm
  exact jn_c (pe_glob hg hm (v := .str i) ⟨t, rfl⟩ hd) fun _ => ⟨rfl, rfl⟩
/-- x.split(y) -/
theorem jn_split {m n : Rs Str} {apos cpos : Pos} (h1 : JN X W cl Γ a ta m aS) (h2 : JN X W cl Γ b tb n aS) (hs : starEach [b] X.env = [(false, eval b X.env)] := by rfl) (hbase : attributeBase a "split" X.env (eval a X.env) = eval a X.env := by rfl) (hline : (apos.endLine == cpos.line) = true := by rfl) :
    JN X W cl Γ (.Call (.Attribute a "split" apos) [b] [] cpos) (tM1 (fun x xs H Q => ∃ a b, x = .str a ∧ xs = [.str b] ∧ (b.length == 0) = false ∧ a.length + 2 ≤ sizeLine ∧ rNewStrs (Txt.split a b) H Q) ta tb) (m.b fun x => n.b fun y => opt (splO x y)) (oA aS) := by
  obtain ⟨p1, k1⟩ := h1
  obtain ⟨p2, k2⟩ := h2
  refine ⟨pe_split p1 p2 hs hbase hline, fun σ F O H R Q u s q => k1 σ F O H R _ u s (q.bind.mono (fun x _ q v F1 h1 H1 l1 u1 q1 => ?_) fun c q => q)⟩
  obtain ⟨rfl, rfl⟩ := q1
  have u2 := pt_skip u1 rfl
  refine ⟨⟨x, rfl⟩, k2 σ F1 O H1 R _ u2 (s.mono l1) (q.bind.mono (fun y _ q w F2 h2 H2 l2 u3 q2 => ?_) fun c q F' H' l' u' => q F' H' (l1.tr l') u')⟩
  obtain ⟨rfl, rfl⟩ := q2
  have u4 := pt_skip u3 rfl
  obtain ⟨c, ec, q⟩ := opt_out q
  unfold splO at ec
  split at ec
  case isFalse => cases ec
  case isTrue hl =>
    cases ec
    refine ⟨x, y, rfl, rfl, hl.1, hl.2, fun l hl2 => ?_⟩
    exact q _ F2 (one l (.lst ((Txt.split x y).map V.str))) _ (l1.tr l2) ((u4.alloc hl2).mv 2 |>.mv 2) ⟨l, _, emp, rfl, .r_emp, sep_strs _⟩
/-- x.join(ys) -/
theorem jn_join {K0 : PySem.W.Frag} {L : List Str → Asn} [rd : RdL K0 L aS] {m : Rs Str} {n : Rs (List Str)} {apos cpos : Pos} (h1 : JN X W cl Γ a ta m aS) (h2 : JN X W cl Γ b tb n L) (hs : starEach [b] X.env = [(false, eval b X.env)] := by rfl) (hbase : attributeBase a "join" X.env (eval a X.env) = eval a X.env := by rfl) (hline : (apos.endLine == cpos.line) = true := by rfl) (hK : X.K = K0 := by rfl) :
    JN X W cl Γ (.Call (.Attribute a "join" apos) [b] [] cpos) (tM1 (fun x xs H Q => ∃ a p ys, x = .str a ∧ xs = [.ref p] ∧ (SqL K0 H p (ys.map V.str) ∨ SqT K0 H p (ys.map V.str)) ∧ (ys.map (fun x => x.length)).sum + ys.length * a.length ≤ 16777216 ∧ Q (.str (Txt.join a ys)) H) ta tb) (m.b fun x => n.b fun y => opt (joiO x y)) aS := by
  subst hK
  obtain ⟨p1, k1⟩ := h1
  obtain ⟨p2, k2⟩ := h2
  refine ⟨pe_join p1 p2 hs hbase hline, fun σ F O H R Q u s q => k1 σ F O H R _ u s (q.bind.mono (fun x _ q v F1 h1 H1 l1 u1 q1 => ?_) fun c q => q)⟩
  obtain ⟨rfl, rfl⟩ := q1
  have u2 := pt_skip u1 rfl
  refine ⟨⟨x, rfl⟩, k2 σ F1 O H1 R _ u2 (s.mono l1) (q.bind.mono (fun y _ q w F2 h2 H2 l2 u3 q2 => ?_) fun c q F' H' l' u' => q F' H' (l1.tr l') u')⟩
  obtain ⟨a, vs, h', rfl, sq, lh, sp⟩ := rd.rd _ _ _ _ q2
  obtain ⟨F3, l3, l4, u4⟩ := pt_leak3 u3
  have sq3 := sq H2 (u3.le (by simp)) (u3.le (by simp))
  rw [sep_strs_of sp] at sq3
  obtain ⟨c, ec, q⟩ := opt_out q
  unfold joiO at ec
  split at ec
  case isFalse => cases ec
  case isTrue hl =>
    cases ec
    exact ⟨x, a, y, rfl, rfl, .inl sq3, hl, q _ F3 emp _ (l1.tr (l2.tr l3)) (pt_addE u4) ⟨rfl, rfl⟩⟩
/-- a text, sign by sign -/
theorem ji_str {m : Rs Str} (h1 : JN X W cl Γ a ta m aS) : JI X W cl Γ tg a (iStr ta) (m.b fun x => .ok (signs x)) aS := by
  obtain ⟨pa, ka⟩ := h1
  refine ⟨pi_str pa, fun σ F O H R Q u s q => ka σ F O H R _ u s (q.bind.mono (fun x _ q v F1 h1 H1 l1 u1 p1 => ?_) fun c q => q)⟩
  obtain ⟨rfl, rfl⟩ := p1
  have u2 := pt_skip u1 rfl
  have el : (signs x).length = x.cps.size := by unfold signs; simp
  refine ⟨x, rfl, q (Its x) F1 H1 l1 u2 (fun i F3 H3 O3 R3 y l4 u4 ex => ?_) (fun F3 H3 l l4 u4 => by show x.cps.size ≤ (signs x).length; omega)⟩
  have hi : i < x.cps.size := by
    have := (List.getElem?_eq_some_iff.mp ex).1
    omega
  refine ⟨hi, fun w H4 ⟨e4, c, ec, ew⟩ => ?_⟩
  subst e4 ew
  unfold signs at ex
  rw [List.getElem?_map] at ex
  have : x.cps.toList[i]? = some c := by rw [Array.getElem?_toList]; exact ec
  rw [this] at ex
  cases ex
  exact ⟨F3, emp, .rfl, pt_addE u4, rfl, rfl⟩
end
class TyC {α : Type} (A : α → Asn) (C : Addr) : Prop where
  is : ∀ x v F h H, (A x).p v F h → Le F H → Le h H → ∃ a dx fs, v = .ref a ∧ H a = some (.ins C dx fs)
theorem ty_oCs {C : Addr} {l : Fds} {v : V} {F h H : Hp} (p : (oCs C l).p v F h) (l1 : Le F H) (l2 : Le h H) : ∃ a dx fs, v = .ref a ∧ H a = some (.ins C dx fs) := by
  obtain ⟨a, dx, vs, h', e, t, s⟩ := p
  exact ⟨a, dx, _, e, l2 _ _ t.at1⟩
theorem ty_aCs {C : Addr} {l : Fds} {v : V} {F h H : Hp} (p : (aCs C l).p v F h) (l1 : Le F H) (l2 : Le h H) : ∃ a dx fs, v = .ref a ∧ H a = some (.ins C dx fs) := by
  obtain ⟨_, a, dx, vs, e, t, s⟩ := p
  exact ⟨a, dx, _, e, l1 _ _ t⟩
def rIsC (K : PySem.W.Frag) : List V → Hp → VK → Prop := fun xs H Q => ∃ (x : V) (C : Addr), xs = [x, .ref C] ∧ TyX K H x (.ref C) ∧ PySem.W.kitOne K (.ref C) (.ref C) = some true ∧ Q (.bl true) H
theorem call_isC {X : Cx} : CallR X (.builtin "isinstance") (rIsC X.K) := by
  intro pins s σ H xs us Q I r h
  obtain ⟨x, C, rfl, ty, e, q⟩ := h
  obtain ⟨u1, u2, rfl, r1, r2⟩ := vals2 r
  cases (show u2 = Value.ref C from r2)
  obtain ⟨P, Z, p, hx⟩ := kit_of I r1 ty
  exact PySem.W.kia_one Z I.kIn p e hx fun tk => ⟨.bl true, H, I.tok tk, rfl, q⟩
section
variable {α : Type} {X : Cx} {W : WX} {cl : String → Addr} {Γ Γe : Ctx} {e b : Expr} {pos p : Pos} {ta tb' : TE}
theorem jn_isC {K0 : PySem.W.Frag} {C : Addr} {A : α → Asn} [ty : TyC A C] {m : Rs α} (hm : X.mg "isinstance" = none) (hC : Cls K0 C) (hI : InsC K0 C) (h : JN X W cl Γ e ta m A) (hT : JN X W cl Γ b tb' (.ok ()) (fun _ => aV (.ref C))) (hg : Gl X "isinstance" := by rfl)
    (hs : starEach [e, b] X.env = (false, eval e X.env) :: starEach [b] X.env := by rfl) (hs2 : starEach [b] X.env = (false, eval b X.env) :: starEach [] X.env := by rfl) (hpl : (backTo pos (starEach [b] X.env)).any (·.1) = false := by rfl) (hK : X.K = K0 := by rfl) :
    JN X W cl Γ (.Call (.Name "isinstance" p) [e, b] [] pos) (tCB (rIsC K0) (tCons ta (tCons tb' tNil))) (m.b fun _ => .ok true) aB := by
  subst hK
  have e1 : (m.b fun _ => (.ok true : Rs Bool)) = ((m.b fun x => (Rs.ok ()).b fun y => .ok (x, y)).b fun q => opt (some true)) := by cases m <;> rfl
  rw [e1]
  exact JN.args (f := fun q : α × Unit => some true) (jns_cons h (jns_one hT hs2) hs) (fun q => pe_callB call_isC hg hm PyProof.Rows.boot_isinstance q (he := hs) (hpl := hpl)) fun q vs F h H R Q c e u sp k => by
    obtain ⟨v, w, h1, h2, rfl, t, p1, ⟨rfl, e2⟩⟩ := sep2 sp
    obtain ⟨l1, l2⟩ := le_part u
    obtain ⟨a, dx, fs, rfl, ea⟩ := ty.is _ _ _ _ H p1 l1 ((t.le (by simp)).tr l2)
    refine ⟨.ref a, C, rfl, .base (.ins ea hC hI.fc hI.sp hI.tk hI.mr), hI.kt, ?_⟩
    cases e
    exact kt_val k u fun F' _ _ => ⟨rfl, rfl⟩
end
end Br
namespace Br
open PySem PySem.Spec L2
variable [tgi : Tbs]
/-- x * n, a text some times -/
def smulO (x : Str) (n : Int) : Option Str := if 2 ≤ n ∧ n ≤ 1000 ∧ (x.length == 0) = false ∧ x.length ≤ 1000 then some ⟨(List.replicate n.toNat x.cps).foldl (· ++ ·) #[]⟩ else none
/-- a text within a text -/
def subO (x y : Str) : Bool := !(Builtin.Str.occurrences y x 0 y.length 1).isEmpty
/-- f'x{n}' -/
def fsI (x : Str) (n : Int) : Option Str := if n.natAbs.log2 < 1920 ∧ x.length ≤ sizeLine ∧ (x ++ Str.ofString (toString n)).length ≤ sizeLine then some (x ++ Str.ofString (toString n)) else none
theorem foldl_size (x : Array Nat) : ∀ (n : Nat) (a : Array Nat), ((List.replicate n x).foldl (· ++ ·) a).size = a.size + n * x.size
  | 0, a => by simp
  | n + 1, a => by
    rw [List.replicate_succ, List.foldl_cons, foldl_size x n]
    simp [Nat.add_mul]; omega
section
variable {α β γ ρ : Type} {X : Cx} {W : WX} {cl : String → Addr} {Γ Γe : Ctx} {tg e a b c : Expr} {es : List Expr} {pos p : Pos} {ta tb : TE} {k : Nat}
def rSmul : R2 := fun x y H Q => ∃ i n, x = .str i ∧ y = .int n ∧ (2 ≤ n ∧ n ≤ 1000 ∧ (i.length == 0) = false ∧ i.length ≤ 1000) ∧ Q (.str ⟨(List.replicate n.toNat i.cps).foldl (· ++ ·) #[]⟩) H
theorem op_smul : OpR X (binaryOp .Mult) rSmul := by
  intro pins s σ H x y v u Q I rx ry h
  obtain ⟨i, n, rfl, rfl, ⟨h1, h2, h3, h4⟩, q⟩ := h
  obtain ⟨t, rfl⟩ := rx
  obtain ⟨t', rfl⟩ := ry
  have hn : ¬ n < 1 := by omega
  have hb : (n == 1 || i.length == 0) = false := by
    rw [h3, Bool.or_false]
    exact beq_eq_false_iff_ne.mpr (by omega)
  have hm : i.length * n.toNat ≤ 1000000 := by
    have : n.toNat ≤ 1000 := by omega
    exact Nat.mul_le_mul h4 this
  refine PySem.P.mul_str (by rw [decide_eq_false (by omega), decide_eq_false (by omega)]; rfl) (fun _ _ => ?_) (fun _ _ => ?_) ?_
  · intro hc
    have : ((2 : Int) ^ 63 - 1) / n ≥ (2 ^ 63 - 1) / 1000 := by
      apply Int.le_ediv_of_mul_le (by omega)
      have : ((2 ^ 63 - 1 : Int) / 1000) * n ≤ ((2 ^ 63 - 1 : Int) / 1000) * 1000 := Int.mul_le_mul_of_nonneg_left h2 (by decide)
      exact Int.le_trans this (by decide)
    have h5 : ((2 ^ 63 - 1 : Int) / 1000) ≥ 1000 := by decide
    omega
  · show Builtin.Str.tooLong _ = _
    unfold Builtin.Str.tooLong
    have h6 : (1000000 : Nat) ≤ sizeLine := by decide
    simp
    omega
  · rw [if_neg hn, hb]
    simp only [Bool.false_eq_true, if_false]
    exact ⟨by
      show Array.size _ ≤ _
      rw [foldl_size]
      have h6 : (1000000 : Nat) ≤ sizeLine := by decide
      have h7 : n.toNat * i.cps.size ≤ 1000000 := by rw [Nat.mul_comm]; exact hm
      simp
      omega, .str _, H, I.tok _, ⟨_, rfl⟩, q⟩
theorem jn_smul {m : Rs Str} {n : Rs Int} (h1 : JN X W cl Γ a ta m aS) (h2 : JN X W cl Γ b tb n aI) : JN X W cl Γ (.BinOp a .Mult b pos) (tOp rSmul ta tb) (m.b fun x => n.b fun y => opt (smulO x y)) aS :=
  JN.bin (f := smulO) h1 h2 (fun p q => pe_op op_smul p q) fun x y v w F h1 h2 H R Q c e u p q k => by
    obtain ⟨rfl, rfl⟩ := p
    obtain ⟨rfl, rfl⟩ := q
    unfold smulO at e
    split at e
    case isFalse => cases e
    case isTrue hl =>
      cases e
      exact ⟨x, y, rfl, rfl, hl, kt_val k ((u.swap).dropE) fun F' l _ => ⟨rfl, rfl⟩⟩
def rSub : R2 := fun x y H Q => ∃ i j, x = .str i ∧ y = .str j ∧ Q (.bl (!(Builtin.Str.occurrences j i 0 j.length 1).isEmpty)) H
theorem jn_sub_in {m n : Rs Str} (h1 : JN X W cl Γ a ta m aS) (h2 : JN X W cl Γ b tb n aS) (hm : behindInMarks .In b = false := by rfl) :
    JN X W cl Γ (.Compare a [.In] [b] pos) (tOp rSub ta tb) (m.b fun x => n.b fun y => opt (some (subO x y))) aB :=
  JN.bin (f := fun x y => some (subO x y)) h1 h2 (fun p q => pe_cmpR op_in_str p q hm) fun x y v w F h1 h2 H R Q c e u p q k => by
    obtain ⟨rfl, rfl⟩ := p
    obtain ⟨rfl, rfl⟩ := q
    cases e
    exact ⟨x, y, rfl, rfl, kt_val k ((u.swap).dropE) fun F' l _ => ⟨rfl, rfl⟩⟩
theorem jt_sub_in {m n : Rs Str} (h1 : JN X W cl Γ a ta m aS) (h2 : JN X W cl Γ b tb n aS) (hm : behindInMarks .In b = false := by rfl) :
    JT X W cl Γ (.Compare a [.In] [b] pos) (tTest (tOp rSub ta tb)) (m.b fun x => n.b fun y => opt (some (subO x y))) :=
  jt_c (jn_sub_in h1 h2 hm) (pt_cmpR op_in_str h1.pe h2.pe hm)
/-- f'x{n}' -/
theorem jn_fsI {x : Str} {j p1 p2} {m : Rs Int} (h1 : JN X W cl Γ a ta m aI) (hz : x.length ≤ sizeLine := by decide) :
    JN X W cl Γ (.JoinedStr [.Constant (.str x) j p1, .FormattedValue a (-1) none p2] pos) (fun σ H Q => tJs [tC (.str x), tFmt ta] Str.empty σ H fun out H1 => Q (.str out) H1) (m.b fun y => opt (fsI x y)) aS := by
  obtain ⟨pa, ka⟩ := h1
  refine ⟨pe_joined (.cons (pe_str (x := x)) (.cons (pe_fmt pa) .nil)), fun σ F O H R Q u s q => ?_⟩
  have h0 : ∀ z : Str, Str.empty ++ z = z := fun z => by
    obtain ⟨z⟩ := z
    show (⟨#[] ++ z⟩ : Str) = ⟨z⟩
    simp
  show ∃ y : Str, V.str x = .str y ∧ (Str.empty ++ y).length ≤ sizeLine ∧ tFmt ta σ H fun v H1 => ∃ z : Str, v = .str z ∧ ((Str.empty ++ y) ++ z).length ≤ sizeLine ∧ Q (.str ((Str.empty ++ y) ++ z)) H1
  refine ⟨x, rfl, ?_⟩
  rw [h0]
  have hx : x.length ≤ sizeLine := hz
  refine ⟨hx, ka σ F O H R _ u s (q.bind.mono (fun y _ q v F' h H' l u' p' => ?_) fun c q => q)⟩
  obtain ⟨rfl, e2⟩ := p'
  subst e2
  obtain ⟨c, e, q⟩ := opt_out q
  unfold fsI at e
  split at e
  case isFalse => cases e
  case isTrue hl =>
    cases e
    refine .inr ⟨y, rfl, hl.1, Str.ofString (toString y), rfl, hl.2.2, ?_⟩
    exact q _ F' emp H' l u' ⟨rfl, rfl⟩
/-- x + (a call that changes something) -/
theorem je_saddc {m : Rs Str} {n : Rs ρ} {Γ' : ρ → Ctx} {A : ρ → Asn} (w : ρ → Str) (h1 : JN X W cl Γ a ta m aS) (h2 : JE X W cl Γ b tb n Γ' A Γe) (we : Wk Γ Γe) (hA : ∀ x, A x = aS (w x) := by intro _; rfl) :
    JE X W cl Γ (.BinOp a .Add b pos) (tOp (fun x y H Q => ∃ i j, x = .str i ∧ y = .str j ∧ i.length + j.length ≤ sizeLine ∧ Q (.str (i ++ j)) H) ta tb) (m.b fun x => n.b fun y => (opt (sadO x (w y))).b fun z => .ok (z, y)) (fun z => Γ' z.2) (fun z => aS z.1) Γe := by
  obtain ⟨pa, ka⟩ := h1
  obtain ⟨pb, kb⟩ := h2
  refine ⟨pe_op op_add_str pa pb, fun σ F O H R Q u1 s q => ka σ F O H R _ u1 s (q.bind.mono (fun x _ q v F' h H' l u' p' => ?_) fun c q F' H' l u' => ?_)⟩
  · obtain ⟨rfl, e2⟩ := p'
    subst e2
    have w1 : Pt (F' :: O :: R) H' := (u'.perm (l' := emp :: F' :: O :: R) (List.perm_append_comm (l₁ := [F', O]) (l₂ := [emp]) |>.append_right R)).dropE
    refine kb σ F' O H' R _ w1 (s.mono l) (q.bind.mono (fun y _ q v F2 O2 h2 H2 l2 u2 s2 p2 => ?_) fun c q F2 O2 H2 l2 => q F2 O2 H2 (l.tr l2))
    rw [hA] at p2
    obtain ⟨rfl, e3⟩ := p2
    subst e3
    obtain ⟨c, e, q⟩ := opt_out q.bind
    unfold sadO at e
    split at e
    case isFalse => cases e
    case isTrue hl =>
      cases e
      exact ⟨x, w y, rfl, rfl, hl, q (.str (x ++ w y)) F2 O2 emp H2 (l.tr l2) u2 s2 ⟨rfl, rfl⟩⟩
  · obtain ⟨F3, O3, l3, u3, s3⟩ := we.slots (s.mono l) u'
    exact q F3 O3 H' (l.tr l3) u3 s3
end
end Br
namespace PySem
open Sem (wp)
section
variable {M : Model} {A : Around} {E : Value → Shared → Prop} {s : Shared} {env : Env}
/-- an exception leaves the block: the block's names are let go, it is passed on -/
def cErr (M : Model) (A : Around) (E : Value → Shared → Prop) (C : Addr) (fr : Option Addr) (x : Value) (s' : Shared) : Prop :=
  ∃ m, s'.heap.Ns C m ∧ ∀ h', Heap.SameBut C s'.heap h' → ∀ cenv : Env, cenv.locals = C → cenv.frame = fr → wpAny M A (passOn "comprehension.variables-let-go" x cenv : Sem Value) (fun _ _ => False) E { s' with heap := h' }
def compPostF (M : Model) (A : Around) (E : Value → Shared → Prop) (use : Option (Value → Sem Unit)) (Q : Value → Shared → Prop) (acc : Value) (C : Addr) (fr : Option Addr) (r : Result) (s' : Shared) : Prop :=
  match r with
  | .ok f => compPost M A E use Q acc C (.ok f) s'
  | .error x => cErr M A E C fr x s'
theorem comp_freeF {e : Expr} {scope : Scope} {pos : Pos} {newAcc first : Sem Value} {g : Comprehension} {gs : List Comprehension} {cl : List (Str × Addr)} {use : Option (Value → Sem Unit)}
    {Q : Value → Shared → Prop}
    (hcl : clausesOf e = g :: gs) (hs : ∀ x, foldedSetIterable g.iter env x = pure x) (hclos : closureFor scope env = pure cl)
    (hkind : scope.kind = .function) (hnames : ∀ x ∈ scope.names, x.2 = .local → scope.names.lookup x.1 = some .local)
    (h : wpAny M A first (fun x s₁ => wpAny M A (pyIter x) (fun it s₂ => wpAny M A newAcc (fun acc s₃ =>
      wpAny M A (newFunctionEnv scope env.globals cl [] env.qual none .none (some env)) (fun cenv s₄ =>
        codeAny M A (.compStart e 0 it acc { cenv with scope := relabel scope env }) (compPostF M A E use Q acc cenv.locals cenv.frame) s₄) E s₃) E s₂) E s₁) E s) :
    wpAny M A (comprehension e scope env pos newAcc false first use) Q E s := by
  unfold comprehension
  rw [hclos, hcl]
  refine wpAny_bind (wpAny_mono h (fun x s₁ h₁ => wpAny_bind (wpAny_standAt (wpAny_bind (wpAny_of_eq (hs x) (wpAny_bind (wpAny_holding (wpAny_mono h₁ (fun it s₂ h₂ =>
    wpAny_standIf (wpAny_bind (wpAny_mono h₂ (fun acc s₃ h₃ => wpAny_bind (wpAny_pure (wpAny_bind (wpAny_mono h₃ (fun cenv s₄ h₄ => ?_) fun _ _ h' => h')))) fun _ _ h' => h')))
      fun _ _ h' => h'))))))) fun _ _ h' => h')
  dsimp only
  have hv : ∀ x ∈ (scope.names.filter fun x => (x.2 == .local || x.2 == .cell) && x.1 != (".0" : Str)).reverse, x.2 = .local →
      Env.kindOf { cenv with scope := relabel scope env } x.1 = some .local := fun x hx hl => lookup_relabel_local (hnames x (List.mem_filter.mp (List.mem_reverse.mp hx)).1 hl)
  have hv' : ∀ x ∈ (scope.names.filter fun x => (x.2 == .local || x.2 == .cell) && x.1 != (".0" : Str)).reverse.drop 1 ++ (scope.names.filter fun x => (x.2 == .local || x.2 == .cell) && x.1 != (".0" : Str)).reverse.take 1,
      x.2 = .local → Env.kindOf { cenv with scope := relabel scope env } x.1 = some .local := fun x hx hl => by
    rcases List.mem_append.mp hx with h1 | h1
    · exact hv x (List.mem_of_mem_drop h1) hl
    · exact hv x (List.mem_of_mem_take h1) hl
  refine wpAny_holding (wpAny_bind (wpAny_attempt (wpAny_holding (wpAny_run (codeAny_mono h₄ fun r s' hr => ?_)))))
  cases r with
  | ok f =>
    have hr : compPost M A E use Q acc cenv.locals (.ok f) s' := hr
    cases use with
    | none =>
      obtain ⟨m, hn, hr⟩ := hr
      exact wpAny_bind (wpAny_holding (wpAny_comp_letGo (cenv := { cenv with scope := relabel scope env }) hkind _ s' m hv hn fun h' m' _ hs' => wpAny_pure (hr h' hs')))
    | some u =>
      refine wpAny_bind (wpAny_rule (wpAny_bind (wpAny_holding (wpAny_mono hr (fun _ s'' hr' => ?_) fun _ _ h' => h'))))
      obtain ⟨m, hn, hr'⟩ := hr'
      exact wpAny_bind (wpAny_comp_letGo (cenv := { cenv with scope := relabel scope env }) hkind _ s'' m hv' hn fun h' m' _ hs' => wpAny_pure (hr' h' hs'))
  | error x =>
    obtain ⟨m, hn, hr⟩ := (show cErr M A E cenv.locals cenv.frame x s' from hr)
    exact wpAny_bind (wpAny_holding (wpAny_comp_letGo (cenv := { cenv with scope := relabel scope env }) hkind _ s' m hv hn fun h' m' _ hs' => wpAny_mono (hr h' hs' _ rfl rfl) (fun _ _ f => f.elim) fun _ _ y => y))
/-- noting looks at the frame alone -/
theorem noteFrame_frame {e : Value} {env env' : Env} (h : env'.frame = env.frame) : noteFrame e env' = noteFrame e env := by
  unfold noteFrame frameOf
  rw [h]
end
namespace HandSPX
section
variable {M : Model} {A : Around} {E : Value → Shared → Prop} {s : Shared} {env : Env} {outer : List Env} {base : Heap} {e L C : Addr} {Z : Obj → Prop}
/-- held at another place: noted here -/
theorem looks_otherZ {Q : Unit → Shared → Prop} (hZ : Steady Z) (hfr : A.frames = some (env :: outer)) (hf : env.frame = some L) (hCL : C ≠ L) (hfl : HeldZ base (env :: outer) e Z C s.heap)
    (hQ : ∀ h', HeldZ base (env :: outer) e Z L h' → s.heap.UpToSlots h' → Q () { s with heap := h' }) : wpAny M A (noteFrame (.ref e) env) Q E s := by
  obtain ⟨hkb, hen, hl, oe, vs, T, oT, ts, he, hz, hd, h1, hnT, hTe, hT, hdT, h3⟩ := hfl
  unfold noteFrame
  simp only [hf]
  refine wpAny_bind (wpAny_field he hd h1 ?_)
  rw [if_pos (show (Value.ref T != Value.none) = true from by simp)]
  refine wpAny_bind (wpAny_field hT hdT h3 ?_)
  rw [if_neg (show ¬ ((rawInt C == rawInt L) = true) from fun z => hCL (by
    have := eq_of_beq z
    simp only [rawInt, Value.int.injEq, and_true] at this
    exact_mod_cast this))]
  refine wpAny_bind (wpAny_setField hT hdT (Array.getElem?_eq_some_iff.mp h3).1 ?_)
  have other : ∀ b, b ≠ T → (s.heap.update T (Obj.mapFields (·.setIfInBounds 3 Value.none))).get? b = s.heap.get? b := fun b hb => Heap.get?_update_other _ _ (Ne.symm hb)
  have noRecord : ∀ b o, s.heap.get? b = some o → (∀ vs, o.data ≠ .fields vs) → b ≠ T := fun b o hb hnf q => by
    rw [q, hT] at hb; injection hb with hb; subst hb; exact hnf ts hdT
  refine wpAny_entryZ hZ hfr (hl.of_keeps fun b o hb hnf => ⟨o, (other b (noRecord b o hb hnf)).trans hb, rfl⟩) hf ((other e (Ne.symm hTe)).trans he)
    (fun b o hbo => (other b fun q => by rw [q, hnT] at hbo; cases hbo).trans (hkb b o hbo)) hen hd (Array.getElem?_eq_some_iff.mp h1).1 hz fun h' hN => ?_
  obtain ⟨x1, x2, x3, x4⟩ := hN
  exact hQ h' ⟨x1, hen, x2, x3⟩ fun b o hb hnf => x4 b o ((other b (noRecord b o hb hnf)).trans hb) hnf
end
end HandSPX
end PySem
namespace Br
open PySem PySem.Spec L2
variable [tgi : Tbs]
/-- the block's context, with a wish about exceptions -/
abbrev blkX (X : Cx) (s : Shared) (H : Hp) (scope : Scope) (ce : Env) (fp : List Addr) (xe : Value → Shared → Prop) : Cx := { X.blk s H scope ce fp with xe := xe }
/-- an exception in the block's air leaves the block -/
theorem blk_err {X : Cx} {W : WX} (hs : X.stack = X.env :: X.outer) (hf : X.env.frame = some X.env.locals) (tk : Takes X W) {pins : List (Addr × Obj)} {σ : L2.St} {H3 : Hp} {s3 : Shared} (I3 : Inv X pins σ H3 s3) {ce : Env} {C : Addr} (cL : ce.locals = C) (cF : ce.frame = X.env.frame)
    (hC : s3.heap.objs.size ≤ C) {fp : List Addr} (hfp : ∀ b ∈ fp, FpOk X pins H3 b) {scope : Scope} {xe : Value → Shared → Prop} {u : Value} {s' : Shared} (x : XE (blkX X s3 H3 scope ce fp xe) (fun cls d _ H' => W cls d σ H') u s') :
    notedBy (model X.prog X.w) X.A ce (fun e s'' => cErr (model X.prog X.w) X.A X.xe C X.env.frame e s'') u s' := by
  obtain ⟨a, B, sI, pins', σ', H', cls, d, rfl, I', nb, up, sky, na, os, ag, w⟩ := x
  have I7 : Inv X pins σ H' sI := I3.call' (ch := fp) I'.os I'.base I'.hok I'.bare fun b hb => ⟨(hfp b hb).2.2.2.1, (hfp b hb).2.1, (hfp b hb).2.2.2.2.1, (hfp b hb).2.2.2.2.2⟩
  have nC : H' C = none := by
    have z : H' ce.locals = none := I'.free
    rwa [cL] at z
  obtain ⟨m, hn, _⟩ := I'.loc
  have hn : sI.heap.Ns ce.locals m := hn
  rw [cL] at hn
  obtain ⟨f0, f1, f2, f3, f4, f5⟩ := I3.fpOk hC nC
  have hfr : X.A.frames = some (X.env :: X.outer) := by rw [I3.ok.frames, hs]
  have nb : ∀ b o, sI.heap.get? b = some o → b ∉ frs X.stack → B.get? b = some o := nb
  have sky : Sky B X.stack a (Zc cls d) ce.locals s'.heap := sky
  have nF : C ∉ frs X.stack := by
    rw [hs]
    show C ∉ frs (X.env :: X.outer)
    unfold frs
    rw [List.filterMap_cons_some hf]
    intro z
    rcases List.mem_cons.mp z with z | z
    · exact f1 z
    · exact f2 z
  obtain ⟨oC, es, ep, hoC, hdC, hrC⟩ := hn
  have hBC := nb C oC hoC nF
  have hnf : ∀ vs, oC.data ≠ .fields vs := fun vs e => by rw [hdC] at e; cases e
  have fin : ∀ h', HandSPX.HeldZ B (X.env :: X.outer) a (Zc cls d) X.env.locals h' → s'.heap.UpToSlots h' → cErr (model X.prog X.w) X.A X.xe C X.env.frame (.ref a) { s' with heap := h' } := by
    intro h' hh up'
    have up2 : sI.heap.UpToSlots h' := up.trans up'
    obtain ⟨sl, hC'⟩ := up2 C oC hoC hnf
    refine ⟨m, ⟨_, es, ep, hC', hdC, hrC⟩, fun h2 sb cenv e1 e2 => ?_⟩
    obtain ⟨k1, k2, k3, oe, vs, T, oT, ts, he, hz, hd, h1, hnT, hTe, hT, hdT, h3⟩ := hh
    have naC : a ≠ C := fun z => by rw [z, hBC] at k2; cases k2
    have nTC : T ≠ C := fun z => by rw [z, hBC] at hnT; cases hnT
    have hid : ∀ {h : Heap} {b : Addr} {o : Obj}, (PySem.W.hideAll h [C]).get? b = some o → b ≠ C ∧ h.get? b = some o := fun {h b o} e => by
      refine ⟨fun z => ?_, PySem.W.of_hideAll _ e⟩
      rw [z, PySem.W.hideAll_none [C] (by simp)] at e
      cases e
    have hnone : ∀ {b : Addr}, B.get? b = none → (PySem.W.hideAll B [C]).get? b = none := fun {b} e => by
      cases q : (PySem.W.hideAll B [C]).get? b with
      | none => rfl
      | some o => rw [(hid q).2] at e; cases e
    have hh2 : HandSPX.HeldZ (PySem.W.hideAll B [C]) (X.env :: X.outer) a (Zc cls d) X.env.locals h2 := by
      refine ⟨fun b o e => ?_, hnone k2, ?_, oe, vs, T, oT, ts, (sb.2 a naC).trans he, hz, hd, h1, hnone hnT, hTe, (sb.2 T nTC).trans hT, hdT, h3⟩
      · have ⟨e1, e2⟩ := hid e
        exact (sb.2 b e1).trans (k1 b o e2)
      · have : ∀ {l : List Env}, C ∉ frs l → h'.FunFrames B l → h2.FunFrames (PySem.W.hideAll B [C]) l := by
          intro l
          induction l with
          | nil => intro _ _; trivial
          | cons env rest ih =>
            intro hm hl
            obtain ⟨hk, ⟨L, o, hfL, hnL, ho, hdL⟩, hr⟩ := hl
            have e : frs (env :: rest) = L :: frs rest := by unfold frs; rw [List.filterMap_cons_some hfL]
            rw [e] at hm
            have hLC : L ≠ C := fun z => hm (by rw [z]; simp)
            exact ⟨hk, ⟨L, o, hfL, hnone hnL, (sb.2 L hLC).trans ho, hdL⟩, ih (fun z => hm (List.mem_cons_of_mem _ z)) hr⟩
        exact this (by rw [← hs]; exact nF) k3
    unfold PySem.passOn
    refine wpAny_bind (wpAny_field ((sb.2 a naC).trans he) hd h1 ?_)
    rw [if_neg (show ¬ ((Value.ref T == Value.none) = true) from by simp)]
    have fin2 : wpAny (model X.prog X.w) X.A (setFlight (.ref a) cenv.frame) (fun _ s4 => wpAny (model X.prog X.w) X.A (throw (.ref a) : Sem Value) (fun _ _ => False) X.xe s4) X.xe { { s' with heap := h' } with heap := h2 } := by
      rw [e2, hf]
      refine HandSPX.setFlight_onZ hh2 fun h4 hh4 up4 => wpAny_throw (tk _ _ ?_)
      refine ⟨a, PySem.W.hideAll B [C], { sI with heap := PySem.W.hideAll sI.heap [C] }, pins, σ, H', cls, d, rfl, I7.turned (t' := sI.toks) (fun b o hb e => PySem.W.hideAll_get [C] e (by simpa using hb)) f0 f1 f3 f4 f5, fun b o e hb => ?_, fun b o e hnf => ?_, .inr (.inr (by rw [hs]; exact hh4)), na, os, ag, w⟩
      · have ⟨e1, e2⟩ := hid e
        exact PySem.W.hideAll_get [C] (nb b o e2 hb) (by simpa using e1)
      · have ⟨e1, e2⟩ := hid e
        obtain ⟨sl2, q2⟩ := up2 b o e2 hnf
        obtain ⟨sl4, q4⟩ := up4 b _ ((sb.2 b e1).trans q2) hnf
        exact ⟨sl4, q4⟩
    first
      | exact wpAny_bind (wpAny_pure (wpAny_bind fin2))
      | exact wpAny_bind fin2
  show wpAny (model X.prog X.w) X.A (noteFrame (.ref a) ce) _ _ s'
  rw [noteFrame_frame cF]
  rw [hs] at sky
  rcases sky with ⟨hB, hn, hl, oe, vs, he, hz, hd, h1⟩ | fl | hd
  · exact HandSPX.look_newZ Zc.steady hfr hl hf he hB hn hd h1 hz fin
  · exact HandSPX.looks_onZ Zc.steady hfr hf fl fin
  · rw [cL] at hd
    exact HandSPX.looks_otherZ Zc.steady hfr hf (fun z => f1 z) hd fin
/-- the block, noted -/
def xb (X : Cx) (ce : Env) (C : Addr) : Value → Shared → Prop := fun e s' => wpAny (model X.prog X.w) X.A (noteFrame e ce) (fun _ s'' => cErr (model X.prog X.w) X.A X.xe C X.env.frame e s'') (fun e s'' => cErr (model X.prog X.w) X.A X.xe C X.env.frame e s'') s'
theorem _root_.L2.Inv.withXe {X : Cx} {pins : List (Addr × Obj)} {σ : L2.St} {H : Hp} {s : Shared} (I : Inv X pins σ H s) (xe : Value → Shared → Prop) : Inv { X with xe := xe } pins σ H s :=
  ⟨⟨I.ok.mod, I.ok.kind, I.ok.glob, I.ok.blt, I.ok.above, I.ok.inj, I.ok.has, I.ok.cab, I.ok.hd, I.ok.frames, I.ok.stk, I.ok.exf, I.ok.bs, I.ok.bsz, I.ok.noex, I.ok.exfs, I.ok.funs, I.ok.frf⟩, I.os, I.bare, I.base, I.loc, I.cell, I.free, I.freeC, I.pin, I.hok, I.len⟩
theorem lc_coreR {X : Cx} {WO : WX} (hs0 : X.stack = X.env :: X.outer) (hf0 : X.env.frame = some X.env.locals) (tk : Takes X WO) {pins : List (Addr × Obj)} {s : Shared} {σ : L2.St} {H : Hp} {Q : VK} {elt tg iter : Expr} {ifs : List Expr} {scope : Scope} {own : List (Str × Nat)} {pos pos' : Pos} {wi : TI} {g : TG} {tt : WX → TT} {te : WX → TE} {use : Option (Value → Sem Unit)} {Qf : Value → Shared → Prop}
    (hc : X.calm = true) (hN : X.N.Nodup) (I : Inv X pins σ H s) (hi : PI X tg iter wi) (ok : BlkOk X.N X.env.scope scope own)
    (hg : ∀ (s : Shared) (H : Hp) (C : Addr) (cl : List (Str × Addr)) (fp : List Addr) (xe : Value → Shared → Prop), PG (blkX X s H scope (compEnvC scope cl C X.env) fp xe) tg g) (ht : ∀ (s : Shared) (H : Hp) (C : Addr) (cl : List (Str × Addr)) (fp : List Addr) (xe : Value → Shared → Prop) (WB : WX), Takes (blkX X s H scope (compEnvC scope cl C X.env) fp xe) WB → PassesOwn (model X.prog X.w) X.A (compEnvC scope cl C X.env) xe → PTs (blkX X s H scope (compEnvC scope cl C X.env) fp xe) ifs (tt WB))
    (he : ∀ (s : Shared) (H : Hp) (C : Addr) (cl : List (Str × Addr)) (fp : List Addr) (xe : Value → Shared → Prop) (WB : WX), Takes (blkX X s H scope (compEnvC scope cl C X.env) fp xe) WB → PassesOwn (model X.prog X.w) X.A (compEnvC scope cl C X.env) xe → PE (blkX X s H scope (compEnvC scope cl C X.env) fp xe) elt (te WB)) (hs : ∀ x, foldedSetIterable iter X.env x = pure x)
    (h : tLc wi g (tt fun cls d _ H1 => WO cls d σ H1) (te fun cls d _ H1 => WO cls d σ H1) (own.map (·.2)) σ H Q)
    (hRR : ∀ D C s' m H', Inv X pins σ H' s' → Q (.ref D) H' → s'.heap.Ns C m → FpOk X pins H' C → compPost (model X.prog X.w) X.A X.xe use Qf (.ref D) C (.ok .next) s') :
    wpAny (model X.prog X.w) X.A (comprehension (.ListComp elt [⟨tg, iter, ifs, 0⟩] scope pos) scope X.env pos' (newList []) false (eval iter X.env) use) Qf X.xe s := by
  have hfree : ∀ y ∈ scope.names, y.2 = .free → ∃ c, X.env.cells.lookup y.1 = some c := fun y hy e => by
    rcases ok.free y hy e with k | k
    · exact I.ok.has _ (.inl k)
    · exact I.ok.has _ (.inr k)
  refine comp_freeF (use := use) rfl hs (closure_ok hfree) ok.kind (fun y hy e => by rw [ok.uniq y hy, e])
    (thn (hi.run pins s σ H _ I h) fun xv s1 hx => thn hx fun itv s2 h2 => ?_)
  obtain ⟨it, fp, tn, J, H2, e, I2, T, st2, f2, q⟩ := h2
  subst e
  refine wpAny_newObj_type (newEnv_comp ?_) (by show 0 ≤ sizeLine; decide)
  generalize hD : s2.heap.objs.size = D
  have hDn : H2 D = none := I2.hok.fresh (Nat.le_of_eq hD)
  obtain ⟨W, ⟨m0, w0⟩, turn⟩ := q D hDn
  -- the new list
  generalize hs3 : ({ s2 with heap := s2.heap.push { cls := .type "list", data := .seq ([] : List Value).toArray } } : Shared) = s3
  have I3 : Inv X pins σ (upd H2 D (.lst [])) s3 := by
    rw [← hs3]
    refine I2.laid (t' := s2.toks) (fun b o e => Heap.get?_push_of_some _ e) (Nat.le_of_eq hD) ⟨Nat.zero_le _, [], 0, .nil, ?_⟩
    rw [← hD]
    exact Heap.get?_push_size _ rfl
  have h3 : s3.heap = s2.heap.push { cls := .type "list", data := .seq ([] : List Value).toArray } := by rw [← hs3]
  have sz : ∀ b ∈ fp, b < s2.heap.objs.size := fun b hb => by
    obtain ⟨o, e, _⟩ := T.obj _ _ st2 b hb
    exact Heap.lt_size e
  have f3 : ∀ b ∈ fp, FpOk X pins (upd H2 D (.lst [])) b ∧ b < s3.heap.objs.size := fun b hb => by
    have hlt := sz b hb
    refine ⟨⟨?_, (f2 b hb).2⟩, by rw [h3, Heap.size_push]; exact Nat.lt_succ_of_lt hlt⟩
    rw [upd_ne (by rw [← hD]; exact Nat.ne_of_lt hlt)]
    exact (f2 b hb).1
  have st3 : tn 0 s3.heap := T.keep _ _ _ st2 fun b _ o e => by rw [h3]; exact Heap.get?_push_of_some _ e
  have I4 := (block_start I3 ok hN f3).withXe (xb X (compEnvC scope (cellsFrom (s3.heap.objs.size + 1) scope.names (cloFrom X.env.cells scope.names [])) s3.heap.objs.size X.env) s3.heap.objs.size)
  have hxe : ∀ u s', XE (blkX X s3 (upd H2 D (.lst [])) scope (compEnvC scope (cellsFrom (s3.heap.objs.size + 1) scope.names (cloFrom X.env.cells scope.names [])) s3.heap.objs.size X.env) fp (xb X (compEnvC scope (cellsFrom (s3.heap.objs.size + 1) scope.names (cloFrom X.env.cells scope.names [])) s3.heap.objs.size X.env) s3.heap.objs.size)) (fun cls d _ H1 => WO cls d σ H1) u s' → xb X (compEnvC scope (cellsFrom (s3.heap.objs.size + 1) scope.names (cloFrom X.env.cells scope.names [])) s3.heap.objs.size X.env) s3.heap.objs.size u s' := fun u s' x =>
    blk_err (ce := compEnvC scope (cellsFrom (s3.heap.objs.size + 1) scope.names (cloFrom X.env.cells scope.names [])) s3.heap.objs.size X.env) (C := s3.heap.objs.size) hs0 hf0 tk I3 rfl rfl (Nat.le_refl _) (fun b hb => (f3 b hb).1) x
  have pg := hg s3 (upd H2 D (.lst [])) s3.heap.objs.size (cellsFrom (s3.heap.objs.size + 1) scope.names (cloFrom X.env.cells scope.names [])) fp (xb X (compEnvC scope (cellsFrom (s3.heap.objs.size + 1) scope.names (cloFrom X.env.cells scope.names [])) s3.heap.objs.size X.env) s3.heap.objs.size)
  have pt := ht s3 (upd H2 D (.lst [])) s3.heap.objs.size (cellsFrom (s3.heap.objs.size + 1) scope.names (cloFrom X.env.cells scope.names [])) fp _ (fun cls d _ H1 => WO cls d σ H1) hxe PassesOwn.looking
  have pe := he s3 (upd H2 D (.lst [])) s3.heap.objs.size (cellsFrom (s3.heap.objs.size + 1) scope.names (cloFrom X.env.cells scope.names [])) fp _ (fun cls d _ H1 => WO cls d σ H1) hxe PassesOwn.looking
  show codeAny _ _ (.compStart (.ListComp elt [⟨tg, iter, ifs, 0⟩] scope pos) 0 (.ref it) (.ref D) (compEnvC scope (cellsFrom (s3.heap.objs.size + 1) scope.names (cloFrom X.env.cells scope.names [])) s3.heap.objs.size X.env)) (compPostF (model X.prog X.w) X.A X.xe use Qf (.ref D) s3.heap.objs.size X.env.frame) { s3 with heap := pushCells (s3.heap.push { cls := .type "dict", data := .dict #[] }) scope.names }
  have nfp : ∀ b ∈ fp, (upd H2 D (.lst [])) b = none := fun b hb => (f3 b hb).1.1
  generalize hce : compEnvC scope (cellsFrom (s3.heap.objs.size + 1) scope.names (cloFrom X.env.cells scope.names [])) s3.heap.objs.size X.env = ce at I4 pg pt pe hxe ⊢
  have cL : ce.locals = s3.heap.objs.size := by subst hce; rfl
  generalize hH3 : upd H2 D (.lst []) = H3 at I3 I4 pg pt pe hxe w0 nfp f3
  generalize hs4 : ({ s3 with heap := pushCells (s3.heap.push { cls := .type "dict", data := .dict #[] }) scope.names } : Shared) = s4 at I4 ⊢
  have st4 : tn 0 s4.heap := T.keep _ _ _ st3 fun b _ o e => by rw [← hs4]; exact pushCells_keeps _ _ _ _ (Heap.get?_push_of_some _ e)
  have stat : ∀ {σ' : St} {H' : Hp} {s' : Shared}, Inv (blkX X s3 H3 scope ce fp (xb X ce s3.heap.objs.size)) [] σ' H' s' → (∀ b ∈ fp, H' b = none) → ∀ b ∈ fp, FpOk (blkX X s3 H3 scope ce fp (xb X ce s3.heap.objs.size)) [] H' b := fun {σ' H' s'} I' hn b hb =>
    ⟨hn b hb, (I'.ok.exf b hb).1, I'.ok.exfs b hb, .inl hb, fun x c e => (I'.ok.exf b hb).2 x c e, fun p hp => absurd (show p ∈ ([] : List (Addr × Obj)) ++ [] from hp) (by simp)⟩
  have loop : codeAny (model X.prog X.w) X.A (.compLoop (.ListComp elt [⟨tg, iter, ifs, 0⟩] scope pos) 0 (.ref it) (.ref D) ce) (compPostF (model X.prog X.w) X.A X.xe use Qf (.ref D) s3.heap.objs.size X.env.frame) s4 := by
    refine compLoop_any (fun n s' => ∃ i H', Inv (blkX X s3 H3 scope ce fp (xb X ce s3.heap.objs.size)) [] (wipe σ (own.map (·.2))) H' s' ∧ tn i s'.heap ∧ (∀ b ∈ fp, H' b = none) ∧ W i n H') ?_ m0 ⟨0, H3, I4, st4, nfp, w0⟩
    rintro n s5 ⟨i, H5, I5, st5, n5, w5⟩
    rcases turn i n H5 w5 with ⟨stop, qq⟩ | ⟨go, Nx, hNx, step⟩
    · have td := T.done (blkX X s3 H3 scope ce fp (xb X ce s3.heap.objs.size)) rfl rfl rfl hc i [] s5 _ H5 (fun _ _ => False) I5 (stat I5 n5) st5 stop
      refine thnF td fun r s6 ⟨hr, I6⟩ => ?_
      subst hr
      -- back in the def's context
      have I7 : Inv X pins σ H5 s6 := I3.call' (ch := fp) I6.os I6.base I6.hok I6.bare fun b hb => ⟨(f3 b hb).1.2.2.2.1, (f3 b hb).1.2.1, (f3 b hb).1.2.2.2.2.1, (f3 b hb).1.2.2.2.2.2⟩
      have nC : H5 s3.heap.objs.size = none := by
        have z : H5 ce.locals = none := I6.free
        rw [cL] at z
        exact z
      obtain ⟨m, hn, _⟩ := I6.loc
      have hn : s6.heap.Ns ce.locals m := hn
      rw [cL] at hn
      exact hRR D s3.heap.objs.size s6 m H5 I7 qq hn (I3.fpOk (Nat.le_refl _) nC)
    · have ti := T.item (blkX X s3 H3 scope ce fp (xb X ce s3.heap.objs.size)) rfl rfl rfl hc i [] s5 _ H5 (fun _ _ => False) I5 (stat I5 n5) st5 go
      refine thnF ti fun r s6 ⟨u, hr, h6⟩ => ?_
      subst hr
      refine thnF h6 fun _ s7 ⟨x, H7, I7, r7, y7, st7, n7⟩ => ?_
      have I7' := I7.pinned (stat I7 n7) (T.obj _ _ st7)
      refine thn (pg.run _ s7 _ H7 x u _ I7' r7 (step x H7 y7)) fun _ s8 ⟨σ8, H8, I8, hw8, q8⟩ => ?_
      refine thn (pt.run _ s8 σ8 H8 _ I8 q8) fun b s9 ⟨H9, I9, q9⟩ => ?_
      -- the turn's end
      have fin : ∀ {s' : Shared} {H' : Hp}, Inv (blkX X s3 H3 scope ce fp (xb X ce s3.heap.objs.size)) ([] ++ pinsAt fp s7.heap) σ8 H' s' → Nx H' → ∃ m, m < n ∧ ∃ i H', Inv (blkX X s3 H3 scope ce fp (xb X ce s3.heap.objs.size)) [] (wipe σ (own.map (·.2))) H' s' ∧ tn i s'.heap ∧ (∀ b ∈ fp, H' b = none) ∧ W i m H' := fun {s' H'} I' nx => by
        obtain ⟨m', hm, w'⟩ := hNx H' nx
        have pin' : ∀ b ∈ fp, ∀ o, s7.heap.get? b = some o → s'.heap.get? b = some o ∧ H' b = none := fun b hb o e =>
          let z := I'.pin (b, o) (List.mem_append_right _ (List.mem_append_right _ (mem_pinsAt hb e)))
          ⟨z.1, z.2.1⟩
        have hl : (wipe σ (own.map (·.2))).length = σ8.length := by rw [← hw8, wipe_length]
        refine ⟨m', hm, i + 1, H', (I'.unpinned (pins := [])).weak hl (fun j v e => ?_), T.keep _ _ _ st7 fun b hb o e => (pin' b hb o e).1, fun b hb => ?_, w'⟩
        · rw [← hw8] at e
          exact (wipe_some e).1
        · obtain ⟨o, e, _⟩ := T.obj _ _ st7 b hb
          exact (pin' b hb o e).2
      cases b with
      | false =>
        simp only [Bool.false_eq_true, if_false] at q9 ⊢
        exact fin I9 q9
      | true =>
        simp only [if_true] at q9 ⊢
        refine thn (pe.run _ s9 σ8 H9 _ I9 q9) fun z s10 ⟨yv, H10, I10, r10, acc, hD10, hz10, nx⟩ => ?_
        exact app_ok (X := blkX X s3 H3 scope ce fp (xb X ce s3.heap.objs.size)) I10 hD10 hz10 r10 fun s11 I11 => fin I11 nx
  exact codeAny_compStart_list loop (T.self X.A 0 _ _ _ st4 loop)
/-- [elt for target in iter if ..], the items may raise -/
def tLcR (WO : WX) (wi : TI) (g : TG) (tt : WX → TT) (te : WX → TE) (vs : List Nat) : TE := fun σ H Q => tLc wi g (tt fun cls d _ H1 => WO cls d σ H1) (te fun cls d _ H1 => WO cls d σ H1) vs σ H Q
/-- as a value -/
theorem pe_lcR {X : Cx} {WO : WX} (hs0 : X.stack = X.env :: X.outer) (hf0 : X.env.frame = some X.env.locals) (tk : Takes X WO) {elt tg iter : Expr} {ifs : List Expr} {scope : Scope} {own : List (Str × Nat)} {pos : Pos} {wi : TI} {g : TG} {tt : WX → TT} {te : WX → TE} (hc : X.calm = true) (hN : X.N.Nodup) (hi : PI X tg iter wi) (ok : BlkOk X.N X.env.scope scope own)
    (hg : ∀ (s : Shared) (H : Hp) (C : Addr) (cl : List (Str × Addr)) (fp : List Addr) (xe : Value → Shared → Prop), PG (blkX X s H scope (compEnvC scope cl C X.env) fp xe) tg g) (ht : ∀ (s : Shared) (H : Hp) (C : Addr) (cl : List (Str × Addr)) (fp : List Addr) (xe : Value → Shared → Prop) (WB : WX), Takes (blkX X s H scope (compEnvC scope cl C X.env) fp xe) WB → PassesOwn (model X.prog X.w) X.A (compEnvC scope cl C X.env) xe → PTs (blkX X s H scope (compEnvC scope cl C X.env) fp xe) ifs (tt WB))
    (he : ∀ (s : Shared) (H : Hp) (C : Addr) (cl : List (Str × Addr)) (fp : List Addr) (xe : Value → Shared → Prop) (WB : WX), Takes (blkX X s H scope (compEnvC scope cl C X.env) fp xe) WB → PassesOwn (model X.prog X.w) X.A (compEnvC scope cl C X.env) xe → PE (blkX X s H scope (compEnvC scope cl C X.env) fp xe) elt (te WB)) (hs : ∀ x, foldedSetIterable iter X.env x = pure x := by intro _; rfl) :
    PE X (.ListComp elt [⟨tg, iter, ifs, 0⟩] scope pos) (tLcR WO wi g tt te (own.map (·.2))) := by
  refine ⟨fun pins s σ H Q I h => ?_⟩
  rw [eval_ListComp]
  refine lc_coreR hs0 hf0 tk hc hN I hi ok hg ht he hs h fun D C s' m H' I' q hn f => ⟨m, hn, fun h'' sb => ?_⟩
  obtain ⟨f0, f1, f2, f3, f4, f5⟩ := f
  exact ⟨.ref D, H', I'.turned (t' := s'.toks) (fun b o hb e => (sb.2 b hb).trans e) f0 f1 f3 f4 f5, rfl, q⟩
/-- name = [..] on one line, the name a local -/
theorem ps_setLcR {X : Cx} {WO : WX} (hs0 : X.stack = X.env :: X.outer) (hf0 : X.env.frame = some X.env.locals) (tk : Takes X WO) {i : Nat} {y : Str} {py : Pos} {elt tg iter : Expr} {ifs : List Expr} {scope : Scope} {own : List (Str × Nat)} {pos spos : Pos} {wi : TI} {g : TG} {tt : WX → TT} {te : WX → TE} (hc : X.calm = true) (hN : X.N.Nodup) (hy : X.N[i]? = some y) (hyl : X.env.scope.names.lookup y = some .local)
    (hsw : swapsWith (.ListComp elt [⟨tg, iter, ifs, 0⟩] scope pos) (some (.Name y py)) spos.line X.env = pure true) (hi : PI X tg iter wi) (ok : BlkOk X.N X.env.scope scope own)
    (hg : ∀ (s : Shared) (H : Hp) (C : Addr) (cl : List (Str × Addr)) (fp : List Addr) (xe : Value → Shared → Prop), PG (blkX X s H scope (compEnvC scope cl C X.env) fp xe) tg g) (ht : ∀ (s : Shared) (H : Hp) (C : Addr) (cl : List (Str × Addr)) (fp : List Addr) (xe : Value → Shared → Prop) (WB : WX), Takes (blkX X s H scope (compEnvC scope cl C X.env) fp xe) WB → PassesOwn (model X.prog X.w) X.A (compEnvC scope cl C X.env) xe → PTs (blkX X s H scope (compEnvC scope cl C X.env) fp xe) ifs (tt WB))
    (he : ∀ (s : Shared) (H : Hp) (C : Addr) (cl : List (Str × Addr)) (fp : List Addr) (xe : Value → Shared → Prop) (WB : WX), Takes (blkX X s H scope (compEnvC scope cl C X.env) fp xe) WB → PassesOwn (model X.prog X.w) X.A (compEnvC scope cl C X.env) xe → PE (blkX X s H scope (compEnvC scope cl C X.env) fp xe) elt (te WB)) (hs : ∀ x, foldedSetIterable iter X.env x = pure x := by intro _; rfl) :
    PS X (.Assign [.Name y py] (.ListComp elt [⟨tg, iter, ifs, 0⟩] scope pos) spos) (tAsg (tLcR WO wi g tt te (own.map (·.2))) (gName i)) := by
  refine ⟨fun pins s σ H D I h => ?_⟩
  rw [exec_Assign_Name_used _ _ _ _ hsw]
  refine wpAny_bind (wpAny_standAt (wpAny_bind ?_))
  show wpAny _ X.A (do let _ ← comprehension (.ListComp elt [⟨tg, iter, ifs, 0⟩] scope pos) scope X.env (firstIterPos [⟨tg, iter, ifs, 0⟩] pos) (newList []) false (eval iter X.env) (some (assign (.Name y py) X.env))) _ _ s
  have h : tLcR WO wi g tt te (own.map (·.2)) σ H (fun x H1 => gName i x σ H1 D.nx) := h
  refine wpAny_bind (thn (lc_coreR hs0 hf0 tk (Qf := fun _ s' => SP X pins D .next s') hc hN I hi ok hg ht he hs h fun L C s' m H' I' q hn f => ?_) fun _ s' hq => wpAny_pure (wpAny_pure hq))
  show wpAny _ _ (assign (.Name y py) X.env (.ref L)) _ _ _
  refine wpAny_assign_Name (store_ok2 (v := V.ref L) I' hN hy (.inl hyl) rfl (fun s2 I2 ⟨a, sb, ha⟩ => ?_) (.inr hyl))
  obtain ⟨f0, f1, f2, f3, f4, f5⟩ := f
  have haC : C ≠ a := by
    rcases ha with z | z
    · rw [z]; exact f1
    · exact fun e => f4 y a z e.symm
  refine ⟨m, hn.sameBut sb haC, fun h3 sb3 => ?_⟩
  exact ⟨_, H', I2.turned (t' := s2.toks) (fun b o hb e => (sb3.2 b hb).trans e) f0 f1 f3 f4 f5, q⟩
end Br
namespace Br
open PySem PySem.Spec L2
variable [tgi : Tbs]
section
variable {α β γ : Type} {X : Cx} {W : WX} {cl : String → Addr} {Γ Γe : Ctx} {tg e a b c : Expr} {es : List Expr} {pos p : Pos} {ta tb : TE} {k : Nat}
/-- [f x for x in xs if c x], the f x may raise -/
def lcE (c : α → Rs Bool) (f : α → Rs β) : List α → Rs (List β)
  | [] => .ok []
  | x :: xs => match c x with
    | .ok true => (match f x with
      | .ok y => (lcE c f xs).b fun ys => .ok (y :: ys)
      | .er c => .er c
      | .no => .no)
    | .ok false => lcE c f xs
    | _ => .no
def lcEN (c : α → Rs Bool) (f : α → Rs β) (xs : List α) : Rs (List β) := if xs.length ≤ 1000000 then lcE c f xs else .no
/-- a block's context that no state bears -/
theorem Gd.blkN (G : Gd X W k) (scope : Scope) (cls : List (Str × Addr)) (WB : WX) : Gd (blkX X { X.s_0 with heap := X.s_0.heap.push { cls := .type "dict", data := .dict #[] } } X.H_0 scope (compEnvC scope cls 0 X.env) [] fun _ _ => False) WB k :=
  ⟨fun u s' x => by
    obtain ⟨a, B, sI, pins, σ, H, cls, d, e, I, r⟩ := x
    have z : (X.s_0.heap.push { cls := .type "dict", data := .dict #[] }).objs.size ≤ 0 := I.ok.above
    rw [Heap.size_push] at z
    omega, PassesOwn.never, G.calm, G.nd, G.room⟩
theorem Gd.blkY (G : Gd X W k) (s : Shared) (H : Hp) (scope : Scope) (cls : List (Str × Addr)) (C : Addr) (fp : List Addr) {xe : Value → Shared → Prop} {WB : WX} (tk : Takes (blkX X s H scope (compEnvC scope cls C X.env) fp xe) WB) (po : PassesOwn (model X.prog X.w) X.A (compEnvC scope cls C X.env) xe) :
    Gd (blkX X s H scope (compEnvC scope cls C X.env) fp xe) WB k := ⟨tk, po, G.calm, G.nd, G.room⟩
theorem lc_runR {wi : TI} {g : TG} {tt : WX → TT} {te : WX → TE} {elt iter : Expr} {ifs : List Expr} {scope : Scope} {own : List (Str × Nat)} {L : List Nat} {mi : Rs (List α)} {A : α → Asn} {E : β → Asn} {Γt : α → Ctx} {mc : α → Rs Bool} {f : α → Rs β} [ne : Nonempty α] (G : Gd X W k) (hi : JI X W cl Γ tg iter wi mi A)
    (hw : ∀ v ∈ own.map (·.2), Γ[v]? = some none) (hL : ∀ n ∈ L, n ∈ own.map (·.2))
    (hg : ∀ (s : Shared) (H : Hp) (C : Addr) (cls : List (Str × Addr)) (fp : List Addr) (xe : Value → Shared → Prop), JG (blkX X s H scope (compEnvC scope cls C X.env) fp xe) tg g A Γ Γt L)
    (ht : ∀ (s : Shared) (H : Hp) (C : Addr) (cls : List (Str × Addr)) (fp : List Addr) (xe : Value → Shared → Prop) (WB : WX), Gd (blkX X s H scope (compEnvC scope cls C X.env) fp xe) WB k → ∀ x, JTs (blkX X s H scope (compEnvC scope cls C X.env) fp xe) WB cl (Γt x) ifs (tt WB) (mc x))
    (he : ∀ (s : Shared) (H : Hp) (C : Addr) (cls : List (Str × Addr)) (fp : List Addr) (xe : Value → Shared → Prop) (WB : WX), Gd (blkX X s H scope (compEnvC scope cls C X.env) fp xe) WB k → ∀ x, JN (blkX X s H scope (compEnvC scope cls C X.env) fp xe) WB cl (Γt x) elt (te WB) (f x) E)
 (σ : L2.St) (F O H : Hp) (R : List Hp) (Q : VK) (u : Pt (F :: O :: R) H) (s : Slots Γ σ F O)
    (q : Out (mi.b fun xs => lcEN mc f xs) (fun a => ∀ v F' h H', Le F F' → Pt (F' :: O :: h :: R) H' → (oA E a).p v F' h → Q v H') (fun c => ∀ F' H', Le F F' → Pt (F' :: O :: R) H' → W (.ref (cl c)) none σ H')) :
    tLcR W wi g tt te (own.map (·.2)) σ H Q := by
  obtain ⟨pi, ki⟩ := hi
  refine ki σ F O H R _ u s (q.bind.mono (fun xs _ q J F' H' l u' hgo hst => ?_) fun c q => q)
  unfold lcEN at q
  by_cases hlen : xs.length ≤ 1000000
  case neg => rw [if_neg hlen] at q; exact q.elim
  rw [if_pos hlen] at q
  intro D hD
  have s0 : Slots Γ (wipe σ (own.map (·.2))) F' O := (s.mono l).wiped hw
  have u0 : Pt (F' :: O :: one D (.lst []) :: emp :: R) (upd H' D (.lst [])) := by
    have := u'.alloc (o := .lst []) hD
    exact (this.addE).perm (by
      exact List.Perm.trans (List.perm_append_comm (l₁ := [emp, one D (.lst [])]) (l₂ := [F', O]) |>.append_right R) (.cons _ (.cons _ (.swap _ _ _))))
  refine ⟨fun i m H => m = xs.length - i ∧ i ≤ xs.length ∧ ∃ ys vs h F2, Le F' F2 ∧ Pt (F2 :: O :: one D (.lst vs) :: h :: R) H ∧ Sep (ys.map E) vs F2 h ∧ vs.length ≤ i ∧
      Out (lcE mc f (xs.drop i)) (fun zs => ∀ v F3 h H3, Le F2 F3 → Pt (F3 :: O :: h :: R) H3 → (oA E (ys ++ zs)).p v F3 h → Q v H3) (fun c => ∀ F3 H3, Le F2 F3 → Pt (F3 :: O :: R) H3 → W (.ref (cl c)) none σ H3),
    ⟨xs.length, by simp, Nat.zero_le _, [], [], emp, F', .rfl, u0, (show Sep [] [] F' emp from rfl), Nat.le_refl _, ?_⟩, ?_⟩
  · rw [List.drop_zero]
    cases e : lcE mc f xs with
    | ok zs => rw [e] at q; exact fun v F3 h H3 l3 => q v F3 h H3 (l.tr l3)
    | er c => rw [e] at q; exact fun F3 H3 l3 => q F3 H3 (l.tr l3)
    | no => rw [e] at q; exact q
  · rintro i m H2 ⟨rfl, hle, ys, vs, h, F2, l2, u2, sp, hv, q2⟩
    by_cases hlt : i < xs.length
    · right
      have hx : xs[i]? = some xs[i] := by simp [hlt]
      obtain ⟨go, yl⟩ := hgo i F2 H2 O _ xs[i] l2 u2 hx
      rw [List.drop_eq_getElem_cons hlt] at q2
      refine ⟨go, fun H' => ∃ ys vs h F2, Le F' F2 ∧ Pt (F2 :: O :: one D (.lst vs) :: h :: R) H' ∧ Sep (ys.map E) vs F2 h ∧ vs.length ≤ i + 1 ∧
          Out (lcE mc f (xs.drop (i + 1))) (fun zs => ∀ v F3 h H3, Le F2 F3 → Pt (F3 :: O :: h :: R) H3 → (oA E (ys ++ zs)).p v F3 h → Q v H3) (fun c => ∀ F3 H3, Le F2 F3 → Pt (F3 :: O :: R) H3 → W (.ref (cl c)) none σ H3),
        fun H' ⟨ys, vs, h, F2, z⟩ => ⟨_, by omega, rfl, hlt, ys, vs, h, F2, z⟩, fun v H3 y => ?_⟩
      obtain ⟨F3, h3, l3, u3, p3⟩ := yl v H3 y
      have gg := hg X.s_0 X.H_0 0 [] [] fun _ _ => False
      refine gg.run xs[i] v _ F3 O h3 H3 _ _ u3 (s0.mono (l2.tr l3)) p3 fun σ4 F4 H4 l4 u4 s4 ag al => ⟨wipe_ext ag al hL, ?_⟩
      refine (ht _ X.H_0 0 [] [] _ _ (G.blkN scope [] fun cls d _ H1 => W cls d σ H1) xs[i]).run σ4 F4 O H4 _ _ u4 s4 ?_
      unfold lcE at q2
      cases ec : mc xs[i] with
      | no => rw [ec] at q2; exact q2.elim
      | er c => rw [ec] at q2; exact q2.elim
      | ok bb =>
        rw [ec] at q2
        intro F5 H5 l5 u5
        cases bb with
        | false =>
          show if false = true then _ else _
          rw [if_neg Bool.false_ne_true]
          exact ⟨ys, vs, h, F5, l2.tr (l3.tr (l4.tr l5)), u5, sp.mono (l3.tr (l4.tr l5)), by omega, q2.mono (fun zs _ q v F6 h6 H6 l6 => q v F6 h6 H6 (l3.tr (l4.tr (l5.tr l6)))) fun _ q F6 H6 l6 => q F6 H6 (l3.tr (l4.tr (l5.tr l6)))⟩
        | true =>
          show if true = true then _ else _
          rw [if_pos rfl]
          cases ef : f xs[i] with
          | no => simp only [ef] at q2; exact q2.elim
          | er c =>
            simp only [ef] at q2
            refine (he _ X.H_0 0 [] [] _ _ (G.blkN scope [] fun cls d _ H1 => W cls d σ H1) xs[i]).run σ4 F5 O H5 _ _ u5 (s4.mono l5) ?_
            rw [ef]
            intro F6 H6 l6 u6
            obtain ⟨F7, l7, _, u7⟩ := pt_leak3 u6
            obtain ⟨F8, l8, _, u8⟩ := pt_leak3 u7
            exact q2 F8 H6 (l3.tr (l4.tr (l5.tr (l6.tr (l7.tr l8))))) u8
          | ok yv =>
            simp only [ef] at q2
            refine (he _ X.H_0 0 [] [] _ _ (G.blkN scope [] fun cls d _ H1 => W cls d σ H1) xs[i]).run σ4 F5 O H5 _ _ u5 (s4.mono l5) ?_
            rw [ef]
            intro w F6 h6 H6 l6 u6 p6
            have uD : Pt (one D (.lst vs) :: F6 :: O :: h6 :: h :: R) H6 := u6.perm (by
              exact List.perm_append_comm (l₁ := [F6, O, h6]) (l₂ := [one D (.lst vs)]) |>.append_right (h :: R))
            refine ⟨vs, uD.at1, Nat.lt_of_le_of_lt hv (Nat.lt_of_lt_of_le hlt (Nat.le_trans hlen (by rw [sizeLine_eq]; decide))), ?_⟩
            have uW := uD.write (o' := .lst (vs ++ [w]))
            have u7 : Pt (h :: h6 :: one D (.lst (vs ++ [w])) :: F6 :: O :: R) _ := uW.perm (by
              refine List.Perm.trans (List.perm_append_comm (l₁ := [one D (.lst (vs ++ [w])), F6, O]) (l₂ := [h6, h]) |>.append_right R) (.swap _ _ _))
            obtain ⟨hc, jc, u8⟩ := u7.join2
            have lf : Le F2 F6 := l3.tr (l4.tr (l5.tr l6))
            refine ⟨ys ++ [yv], vs ++ [w], hc, F6, l2.tr lf, u8.perm (by
              refine List.Perm.trans (List.perm_append_comm (l₁ := [hc, one D (.lst (vs ++ [w]))]) (l₂ := [F6, O]) |>.append_right R) (.cons _ (.cons _ (.swap _ _ _)))), ?_, by simp; omega, ?_⟩
            · rw [List.map_append]
              exact Sep.append (sp.mono lf) (Sep.sing p6) jc
            · cases er : lcE mc f (xs.drop (i + 1)) with
              | no => rw [er] at q2; exact q2.elim
              | er c =>
                rw [er] at q2
                have q3 : ∀ F3 H3, Le F2 F3 → Pt (F3 :: O :: R) H3 → W (.ref (cl c)) none σ H3 := q2
                intro F7 H7 l7 u7
                exact q3 F7 H7 (lf.tr l7) u7
              | ok zs =>
                rw [er] at q2
                have q3 : ∀ v F3 h H3, Le F2 F3 → Pt (F3 :: O :: h :: R) H3 → (oA E (ys ++ (yv :: zs))).p v F3 h → Q v H3 := q2
                intro v F7 h7 H7 l7 u7 p7
                exact q3 v F7 h7 H7 (lf.tr l7) u7 (by rw [List.append_assoc] at p7; exact p7)
    · have ee : i = xs.length := by omega
      subst ee
      left
      rw [List.drop_length] at q2
      have q3 : ∀ v F3 h H3, Le F2 F3 → Pt (F3 :: O :: h :: R) H3 → (oA E (ys ++ [])).p v F3 h → Q v H3 := q2
      refine ⟨hst F2 H2 _ l2 u2, ?_⟩
      obtain ⟨c, j, u3⟩ := (u2.perm (l' := one D (.lst vs) :: h :: F2 :: O :: R) (by
        exact List.perm_append_comm (l₁ := [F2, O]) (l₂ := [one D (.lst vs), h]) |>.append_right R)).join2
      refine q3 (.ref D) F2 c H2 .rfl (u3.perm (.trans (.swap _ _ _) (.cons _ (.swap _ _ _)))) ⟨D, vs, h, rfl, j, by rw [List.append_nil]; exact sp⟩

theorem jn_lcR {wi : TI} {g : TG} {tt : WX → TT} {te : WX → TE} {elt iter : Expr} {ifs : List Expr} {scope : Scope} (own : List (Str × Nat)) {L : List Nat} {mi : Rs (List α)} {A : α → Asn} {E : β → Asn} {Γt : α → Ctx} {mc : α → Rs Bool} {f : α → Rs β} [ne : Nonempty α] (G : Gd X W k) (hi : JI X W cl Γ tg iter wi mi A)
    (hg : ∀ (s : Shared) (H : Hp) (C : Addr) (cls : List (Str × Addr)) (fp : List Addr) (xe : Value → Shared → Prop), JG (blkX X s H scope (compEnvC scope cls C X.env) fp xe) tg g A Γ Γt L)
    (ht : ∀ (s : Shared) (H : Hp) (C : Addr) (cls : List (Str × Addr)) (fp : List Addr) (xe : Value → Shared → Prop) (WB : WX), Gd (blkX X s H scope (compEnvC scope cls C X.env) fp xe) WB k → ∀ x, JTs (blkX X s H scope (compEnvC scope cls C X.env) fp xe) WB cl (Γt x) ifs (tt WB) (mc x))
    (he : ∀ (s : Shared) (H : Hp) (C : Addr) (cls : List (Str × Addr)) (fp : List Addr) (xe : Value → Shared → Prop) (WB : WX), Gd (blkX X s H scope (compEnvC scope cls C X.env) fp xe) WB k → ∀ x, JN (blkX X s H scope (compEnvC scope cls C X.env) fp xe) WB cl (Γt x) elt (te WB) (f x) E)
    (ok : BlkOk X.N X.env.scope scope own) (hw : own.all (fun q => emptyAt Γ q.2) = true) (hL : ∀ n ∈ L, n ∈ own.map (·.2))
    (hs : ∀ x, foldedSetIterable iter X.env x = pure x := by intro _; rfl) (hs0 : X.stack = X.env :: X.outer := by rfl) (hf0 : X.env.frame = some X.env.locals := by rfl) :
    JN X W cl Γ (.ListComp elt [⟨tg, iter, ifs, 0⟩] scope pos) (tLcR W wi g tt te (own.map (·.2))) (mi.b fun xs => lcEN mc f xs) (oA E) :=
  ⟨pe_lcR hs0 hf0 G.tk G.calm G.nd hi.pe ok (fun s H C cls fp xe => (hg s H C cls fp xe).pe) (fun s H C cls fp xe WB tk po => ne.elim fun x => (ht s H C cls fp xe WB (G.blkY s H scope cls C fp tk po) x).pe) (fun s H C cls fp xe WB tk po => ne.elim fun x => (he s H C cls fp xe WB (G.blkY s H scope cls C fp tk po) x).pe) hs,
    fun σ F O H R Q u s q => lc_runR G hi (emptyAt_ok hw) hL hg ht he σ F O H R Q u s q⟩
/-- y = [..] on one line, y a local -/
theorem jl_setLcR (i : Nat) {y : Str} {py spos : Pos} {wi : TI} {g : TG} {tt : WX → TT} {te : WX → TE} {elt iter : Expr} {ifs : List Expr} {scope : Scope} (own : List (Str × Nat)) {L : List Nat} {mi : Rs (List α)} {A : α → Asn} {E : β → Asn} {D : List β → Asn} {Γt : α → Ctx} {mc : α → Rs Bool} {f : α → Rs β} [ne : Nonempty α] (G : Gd X W k) (we : Wk Γ Γe) (hD : ∀ xs, Frz (oA E xs) (D xs) ∨ ∀ v F h, (oA E xs).p v F h → (D xs).p v F h) (hi : JI X W cl Γ tg iter wi mi A)
    (hg : ∀ (s : Shared) (H : Hp) (C : Addr) (cls : List (Str × Addr)) (fp : List Addr) (xe : Value → Shared → Prop), JG (blkX X s H scope (compEnvC scope cls C X.env) fp xe) tg g A Γ Γt L)
    (ht : ∀ (s : Shared) (H : Hp) (C : Addr) (cls : List (Str × Addr)) (fp : List Addr) (xe : Value → Shared → Prop) (WB : WX), Gd (blkX X s H scope (compEnvC scope cls C X.env) fp xe) WB k → ∀ x, JTs (blkX X s H scope (compEnvC scope cls C X.env) fp xe) WB cl (Γt x) ifs (tt WB) (mc x))
    (he : ∀ (s : Shared) (H : Hp) (C : Addr) (cls : List (Str × Addr)) (fp : List Addr) (xe : Value → Shared → Prop) (WB : WX), Gd (blkX X s H scope (compEnvC scope cls C X.env) fp xe) WB k → ∀ x, JN (blkX X s H scope (compEnvC scope cls C X.env) fp xe) WB cl (Γt x) elt (te WB) (f x) E)
    (ok : BlkOk X.N X.env.scope scope own) (hw : own.all (fun q => emptyAt Γ q.2) = true) (hL : ∀ n ∈ L, n ∈ own.map (·.2)) (hsw : swapsWith (.ListComp elt [⟨tg, iter, ifs, 0⟩] scope pos) (some (.Name y py)) spos.line X.env = pure true)
    (hi' : X.N[i]? = some y := by rfl) (hyl : X.env.scope.names.lookup y = some .local := by rfl) (hli : Nat.blt i Γ.length = true := by rfl) (hs : ∀ x, foldedSetIterable iter X.env x = pure x := by intro _; rfl) (hs0 : X.stack = X.env :: X.outer := by rfl) (hf0 : X.env.frame = some X.env.locals := by rfl) :
    JL X W cl Γ (.Assign [.Name y py] (.ListComp elt [⟨tg, iter, ifs, 0⟩] scope pos) spos) (tAsg (tLcR W wi g tt te (own.map (·.2))) (gName i)) (mi.b fun xs => lcEN mc f xs) (fun a => Γ.set i (some (D a))) Γe := by
  refine ⟨ps_setLcR hs0 hf0 G.tk G.calm G.nd hi' hyl hsw hi.pe ok (fun s H C cls fp xe => (hg s H C cls fp xe).pe) (fun s H C cls fp xe WB tk po => ne.elim fun x => (ht s H C cls fp xe WB (G.blkY s H scope cls C fp tk po) x).pe) (fun s H C cls fp xe WB tk po => ne.elim fun x => (he s H C cls fp xe WB (G.blkY s H scope cls C fp tk po) x).pe) hs,
    fun σ F O H R D' u s q => lc_runR G hi (emptyAt_ok hw) hL hg ht he σ F O H R _ u s (q.mono (fun a _ q v F' h H' l u' p' => ?_) fun c q F' H' l u' => ?_)⟩
  · rcases hD a with f | f
    · obtain ⟨F1, l1, l2, u1⟩ := pt_leak3 u'
      obtain ⟨F2, O2, l3, u2, s2⟩ := put_at (s.mono (l.tr l1)) (Nat.blt_eq.mp hli) (f v F' h F1 p' l1 l2) (pt_addE u1)
      exact q _ F2 O2 H' (l.tr (l1.tr l3)) u2 s2
    · obtain ⟨F2, O2, l3, u2, s2⟩ := put_at (s.mono l) (Nat.blt_eq.mp hli) (f v F' h p') u'
      exact q _ F2 O2 H' (l.tr l3) u2 s2
  · obtain ⟨F2, O2, l2, u2, s2⟩ := we.slots (s.mono l) u'
    exact q σ F2 O2 H' (l.tr l2) u2 s2
end
end Br
set_option synthInstance.maxHeartbeats 2000000
set_option synthInstance.maxSize 2000
namespace Br
open PySem PySem.Spec L2
section
variable [tgi : Tbs]
abbrev VTown := Int × (List (Int × Int))
def foTown (x : VTown) : Fds := [("quarters", aI x.1), ("bridges", (oA (t2 aI aI)) x.2)]
def ffTown (x : VTown) : Fds := [("quarters", aI x.1), ("bridges", (lA (t2 aI aI)) x.2)]
def oTown (cl : String → Addr) (x : VTown) : Asn := oCs (cl "Town") (foTown x)
def fTown (cl : String → Addr) (x : VTown) : Asn := aCs (cl "Town") (ffTown x)
instance {cl : String → Addr} : PerF (fTown cl) := ⟨fun _ => aCs_per⟩
instance {cl : String → Addr} : FrzF (oTown cl) (fTown cl) := ⟨fun x => frz_oCs (.cons (FrzF.frz _) (.cons (FrzF.frz _) .nil))⟩
instance {cl : String → Addr} : FrzF (fTown cl) (fTown cl) := ⟨fun _ => .per aCs_per⟩
instance {cl : String → Addr} : TyC (oTown cl) (cl "Town") := ⟨fun _ _ _ _ _ p l1 l2 => ty_oCs p l1 l2⟩
instance {cl : String → Addr} : TyC (fTown cl) (cl "Town") := ⟨fun _ _ _ _ _ p l1 l2 => ty_aCs p l1 l2⟩
instance {cl : String → Addr} : NuF (oTown cl) := ⟨fun x => not_oCs (NoTs.cons (NuF.nu _) (NoTs.cons (NuF.nu _) NoTs.nil))⟩
instance {cl : String → Addr} : NtF (oTown cl) := ⟨fun x => nt_oCs (NtPs.cons (NtF.nt _) (NtPs.cons (NtF.nt _) NtPs.nil))⟩
instance {cl : String → Addr} : NzF (oTown cl) := ⟨fun x => nz_oCs (NoZs.cons (NzF.nz _) (NoZs.cons (NzF.nz _) NoZs.nil))⟩
instance {cl : String → Addr} : NzF (fTown cl) := ⟨fun x => nz_aCs (NoZs.cons (NzF.nz _) (NoZs.cons (NzF.nz _) NoZs.nil))⟩
instance {cl : String → Addr} : NnF (oTown cl) := ⟨fun _ _ _ ⟨_, _, _, _, e, _⟩ => nomatch e⟩
instance {cl : String → Addr} : NnF (fTown cl) := ⟨fun _ _ _ ⟨_, _, _, _, e, _⟩ => nomatch e⟩
structure Fx (K : PySem.W.Frag) (mg : Str → Option Value) (cl : String → Addr) : Prop where
  bt : Bt mg
  g_Town : mg "Town" = some (.ref (cl "Town"))
  c_Town : Cls K (cl "Town")
  n_Town_quarters : NoAttr K (cl "Town") "quarters"
  n_Town_bridges : NoAttr K (cl "Town") "bridges"
  x_BadText : XF K mg "BadText" (cl "BadText")
  x_BadTown : XF K mg "BadTown" (cl "BadTown")
  x_BadWages : XF K mg "BadWages" (cl "BadWages")
  i_DEAREST_WAGE : ∃ t, mg "DEAREST_WAGE" = some (.int 1000000000000000000000000000000000000000000000000000000000000 t)
  i_MOST_BRIDGES : ∃ t, mg "MOST_BRIDGES" = some (.int 60 t)
  i_MOST_QUARTERS : ∃ t, mg "MOST_QUARTERS" = some (.int 24 t)
  s_NUMBER_FIGURES : ∃ t, mg "NUMBER_FIGURES" = some (.str "0123456789" t)
  g_BadText : mg "BadText" = some (.ref (cl "BadText"))
  g_BadTown : mg "BadTown" = some (.ref (cl "BadTown"))
  g_BadWages : mg "BadWages" = some (.ref (cl "BadWages"))
  g_CrewError : mg "CrewError" = some (.ref (cl "CrewError"))
  xs : ∀ c ∈ (["CrewError", "BadTown", "BadQuarters", "BadCount", "BadWages", "BadDealing", "BadLimits", "BadText", "TooSmall", "TooLarge"] : List String), ExcC K (cl c)
  t_CrewError : ∀ c ∈ (["CrewError", "BadTown", "BadQuarters", "BadCount", "BadWages", "BadDealing", "BadLimits", "BadText", "TooSmall", "TooLarge"] : List String), PySem.W.exmOne K (.ref (cl c)) (.ref (cl "CrewError")) = some true
  is_1BadText : PySem.W.kitOne K (.type "NoneType") (.ref (cl "BadText")) = some false ∧ ∀ c ∈ (["CrewError", "BadTown", "BadQuarters", "BadCount", "BadWages", "BadDealing", "BadLimits", "BadText", "TooSmall", "TooLarge"] : List String), PySem.W.kitOne K (.ref (cl c)) (.ref (cl "BadText")) = some ((fun c => decide (c ∈ (["BadText"] : List String))) c)
  is_1BadTown : PySem.W.kitOne K (.type "NoneType") (.ref (cl "BadTown")) = some false ∧ ∀ c ∈ (["CrewError", "BadTown", "BadQuarters", "BadCount", "BadWages", "BadDealing", "BadLimits", "BadText", "TooSmall", "TooLarge"] : List String), PySem.W.kitOne K (.ref (cl c)) (.ref (cl "BadTown")) = some ((fun c => decide (c ∈ (["BadTown"] : List String))) c)
  is_1BadWages : PySem.W.kitOne K (.type "NoneType") (.ref (cl "BadWages")) = some false ∧ ∀ c ∈ (["CrewError", "BadTown", "BadQuarters", "BadCount", "BadWages", "BadDealing", "BadLimits", "BadText", "TooSmall", "TooLarge"] : List String), PySem.W.kitOne K (.ref (cl c)) (.ref (cl "BadWages")) = some ((fun c => decide (c ∈ (["BadWages"] : List String))) c)
  is_1CrewError : PySem.W.kitOne K (.type "NoneType") (.ref (cl "CrewError")) = some false ∧ ∀ c ∈ (["CrewError", "BadTown", "BadQuarters", "BadCount", "BadWages", "BadDealing", "BadLimits", "BadText", "TooSmall", "TooLarge"] : List String), PySem.W.kitOne K (.ref (cl c)) (.ref (cl "CrewError")) = some ((fun c => decide (c ∈ (["CrewError", "BadTown", "BadQuarters", "BadCount", "BadWages", "BadDealing", "BadLimits", "BadText", "TooSmall", "TooLarge"] : List String))) c)
  is_1ValueError : PySem.W.kitOne K (.type "NoneType") (.type "ValueError") = some false ∧ ∀ c ∈ (["CrewError", "BadTown", "BadQuarters", "BadCount", "BadWages", "BadDealing", "BadLimits", "BadText", "TooSmall", "TooLarge"] : List String), PySem.W.kitOne K (.ref (cl c)) (.type "ValueError") = some ((fun c => decide (c ∈ (["CrewError", "BadTown", "BadQuarters", "BadCount", "BadWages", "BadDealing", "BadLimits", "BadText", "TooSmall", "TooLarge"] : List String))) c)
def DefF (K : PySem.W.Frag) (mg : Str → Option Value) (x : Str) (st : Stmt) (ps : List Str) : Prop := ∃ f fd, FnP K x x st f fd ∧ mg x = some (.ref f) ∧ PySem.W.keepIn K (.ref f) = true ∧ Binds K fd ps []
def DefFA (K : PySem.W.Frag) (mg : Str → Option Value) (g x : Str) (st : Stmt) (ps : List Str) : Prop := ∃ f fd, FnP K x x st f fd ∧ mg g = some (.ref f) ∧ PySem.W.keepIn K (.ref f) = true ∧ Binds K fd ps []
def DefMt (K : PySem.W.Frag) (C : Addr) (m q : Str) (st : Stmt) (ps : List Str) : Prop := ∃ f fd, FnP K m q st f fd ∧ Meth K C m f ∧ Binds K fd ps []
def DefFL (K : PySem.W.Frag) (mg : Str → Option Value) (base : Heap) (x : Str) (st : Stmt) (ps : List Str) : Prop := ∃ f fd, FnP K x x st f fd ∧ mg x = some (.ref f) ∧ PySem.W.keepIn K (.ref f) = true ∧ Binds K fd ps [] ∧ ∃ c P, fd.code = .ref c ∧ LamX.TabB base mg c P ∧ (P, (x ++ ".<locals>.") ++ "<lambda>") ∈ tgi.T
def DefM (K : PySem.W.Frag) (C : Addr) (q : Str) (st : Stmt) (ps : List Str) : Prop := ∃ f fd, FnP K "__init__" q st f fd ∧ Mk K C f ∧ Binds K fd ps []
section
variable {P : Program} {w : World} {K : PySem.W.Frag} {mg : Str → Option Value} {base : Heap} {cl : String → Addr}
abbrev T_called (P : Program) (w : World) (K : PySem.W.Frag) (mg : Str → Option Value) (base : Heap) (cl : String → Addr) : Prop := ClX P w K mg base cl 1 "called" ["CrewError", "BadTown", "BadQuarters", "BadCount", "BadWages", "BadDealing", "BadLimits", "BadText", "TooSmall", "TooLarge"]
theorem sc_called_CrewError : FnScope ["self"] ["self"] (defScope (inClass (Hd.top 1) 0)) := ⟨rfl, rfl, rfl, by decide +kernel, rfl, by decide +kernel, by decide +kernel⟩
theorem w_called_CrewError {f : Addr} {fd : FuncData} (F : FnP K "called" "CrewError.called" (inClass (Hd.top 1) 0) f fd) : FnR P w K mg base cl 1 f fd ["self"] (fun _ : Unit => [aX cl "CrewError"]) (fun _ => .ok ("CrewError" : Str)) aS :=
  fn_ok (m := fun _ => ((Rs.ok ("CrewError" : Str)).f fun x => .rt x : Fl Unit Str Empty)) (Γn := fun _ => [none]) (Γb := fun _ => []) (d := (fun (e : Empty) => e.elim)) F sc_called_CrewError (fun _ => rfl) (fun (s : Empty) _ => s.elim) (fun cdv A outer s H E G i => ⟨_, jb_one (js_ret (JN.toE jn_str (wk_all rfl)))⟩)
theorem sc_called_BadTown : FnScope ["self"] ["self"] (defScope (inClass (Hd.top 2) 0)) := ⟨rfl, rfl, rfl, by decide +kernel, rfl, by decide +kernel, by decide +kernel⟩
theorem w_called_BadTown {f : Addr} {fd : FuncData} (F : FnP K "called" "BadTown.called" (inClass (Hd.top 2) 0) f fd) : FnR P w K mg base cl 1 f fd ["self"] (fun _ : Unit => [aX cl "BadTown"]) (fun _ => .ok ("BadTown" : Str)) aS :=
  fn_ok (m := fun _ => ((Rs.ok ("BadTown" : Str)).f fun x => .rt x : Fl Unit Str Empty)) (Γn := fun _ => [none]) (Γb := fun _ => []) (d := (fun (e : Empty) => e.elim)) F sc_called_BadTown (fun _ => rfl) (fun (s : Empty) _ => s.elim) (fun cdv A outer s H E G i => ⟨_, jb_one (js_ret (JN.toE jn_str (wk_all rfl)))⟩)
theorem sc_called_BadQuarters : FnScope ["self"] ["self"] (defScope (inClass (Hd.top 3) 0)) := ⟨rfl, rfl, rfl, by decide +kernel, rfl, by decide +kernel, by decide +kernel⟩
theorem w_called_BadQuarters {f : Addr} {fd : FuncData} (F : FnP K "called" "BadQuarters.called" (inClass (Hd.top 3) 0) f fd) : FnR P w K mg base cl 1 f fd ["self"] (fun _ : Unit => [aX cl "BadQuarters"]) (fun _ => .ok ("BadQuarters" : Str)) aS :=
  fn_ok (m := fun _ => ((Rs.ok ("BadQuarters" : Str)).f fun x => .rt x : Fl Unit Str Empty)) (Γn := fun _ => [none]) (Γb := fun _ => []) (d := (fun (e : Empty) => e.elim)) F sc_called_BadQuarters (fun _ => rfl) (fun (s : Empty) _ => s.elim) (fun cdv A outer s H E G i => ⟨_, jb_one (js_ret (JN.toE jn_str (wk_all rfl)))⟩)
theorem sc_called_BadCount : FnScope ["self"] ["self"] (defScope (inClass (Hd.top 4) 0)) := ⟨rfl, rfl, rfl, by decide +kernel, rfl, by decide +kernel, by decide +kernel⟩
theorem w_called_BadCount {f : Addr} {fd : FuncData} (F : FnP K "called" "BadCount.called" (inClass (Hd.top 4) 0) f fd) : FnR P w K mg base cl 1 f fd ["self"] (fun _ : Unit => [aX cl "BadCount"]) (fun _ => .ok ("BadCount" : Str)) aS :=
  fn_ok (m := fun _ => ((Rs.ok ("BadCount" : Str)).f fun x => .rt x : Fl Unit Str Empty)) (Γn := fun _ => [none]) (Γb := fun _ => []) (d := (fun (e : Empty) => e.elim)) F sc_called_BadCount (fun _ => rfl) (fun (s : Empty) _ => s.elim) (fun cdv A outer s H E G i => ⟨_, jb_one (js_ret (JN.toE jn_str (wk_all rfl)))⟩)
theorem sc_called_BadWages : FnScope ["self"] ["self"] (defScope (inClass (Hd.top 5) 0)) := ⟨rfl, rfl, rfl, by decide +kernel, rfl, by decide +kernel, by decide +kernel⟩
theorem w_called_BadWages {f : Addr} {fd : FuncData} (F : FnP K "called" "BadWages.called" (inClass (Hd.top 5) 0) f fd) : FnR P w K mg base cl 1 f fd ["self"] (fun _ : Unit => [aX cl "BadWages"]) (fun _ => .ok ("BadWages" : Str)) aS :=
  fn_ok (m := fun _ => ((Rs.ok ("BadWages" : Str)).f fun x => .rt x : Fl Unit Str Empty)) (Γn := fun _ => [none]) (Γb := fun _ => []) (d := (fun (e : Empty) => e.elim)) F sc_called_BadWages (fun _ => rfl) (fun (s : Empty) _ => s.elim) (fun cdv A outer s H E G i => ⟨_, jb_one (js_ret (JN.toE jn_str (wk_all rfl)))⟩)
theorem sc_called_BadDealing : FnScope ["self"] ["self"] (defScope (inClass (Hd.top 6) 0)) := ⟨rfl, rfl, rfl, by decide +kernel, rfl, by decide +kernel, by decide +kernel⟩
theorem w_called_BadDealing {f : Addr} {fd : FuncData} (F : FnP K "called" "BadDealing.called" (inClass (Hd.top 6) 0) f fd) : FnR P w K mg base cl 1 f fd ["self"] (fun _ : Unit => [aX cl "BadDealing"]) (fun _ => .ok ("BadDealing" : Str)) aS :=
  fn_ok (m := fun _ => ((Rs.ok ("BadDealing" : Str)).f fun x => .rt x : Fl Unit Str Empty)) (Γn := fun _ => [none]) (Γb := fun _ => []) (d := (fun (e : Empty) => e.elim)) F sc_called_BadDealing (fun _ => rfl) (fun (s : Empty) _ => s.elim) (fun cdv A outer s H E G i => ⟨_, jb_one (js_ret (JN.toE jn_str (wk_all rfl)))⟩)
theorem sc_called_BadLimits : FnScope ["self"] ["self"] (defScope (inClass (Hd.top 7) 0)) := ⟨rfl, rfl, rfl, by decide +kernel, rfl, by decide +kernel, by decide +kernel⟩
theorem w_called_BadLimits {f : Addr} {fd : FuncData} (F : FnP K "called" "BadLimits.called" (inClass (Hd.top 7) 0) f fd) : FnR P w K mg base cl 1 f fd ["self"] (fun _ : Unit => [aX cl "BadLimits"]) (fun _ => .ok ("BadLimits" : Str)) aS :=
  fn_ok (m := fun _ => ((Rs.ok ("BadLimits" : Str)).f fun x => .rt x : Fl Unit Str Empty)) (Γn := fun _ => [none]) (Γb := fun _ => []) (d := (fun (e : Empty) => e.elim)) F sc_called_BadLimits (fun _ => rfl) (fun (s : Empty) _ => s.elim) (fun cdv A outer s H E G i => ⟨_, jb_one (js_ret (JN.toE jn_str (wk_all rfl)))⟩)
theorem sc_called_BadText : FnScope ["self"] ["self"] (defScope (inClass (Hd.top 8) 0)) := ⟨rfl, rfl, rfl, by decide +kernel, rfl, by decide +kernel, by decide +kernel⟩
theorem w_called_BadText {f : Addr} {fd : FuncData} (F : FnP K "called" "BadText.called" (inClass (Hd.top 8) 0) f fd) : FnR P w K mg base cl 1 f fd ["self"] (fun _ : Unit => [aX cl "BadText"]) (fun _ => .ok ("BadText" : Str)) aS :=
  fn_ok (m := fun _ => ((Rs.ok ("BadText" : Str)).f fun x => .rt x : Fl Unit Str Empty)) (Γn := fun _ => [none]) (Γb := fun _ => []) (d := (fun (e : Empty) => e.elim)) F sc_called_BadText (fun _ => rfl) (fun (s : Empty) _ => s.elim) (fun cdv A outer s H E G i => ⟨_, jb_one (js_ret (JN.toE jn_str (wk_all rfl)))⟩)
theorem sc_called_TooSmall : FnScope ["self"] ["self"] (defScope (inClass (Hd.top 9) 0)) := ⟨rfl, rfl, rfl, by decide +kernel, rfl, by decide +kernel, by decide +kernel⟩
theorem w_called_TooSmall {f : Addr} {fd : FuncData} (F : FnP K "called" "TooSmall.called" (inClass (Hd.top 9) 0) f fd) : FnR P w K mg base cl 1 f fd ["self"] (fun _ : Unit => [aX cl "TooSmall"]) (fun _ => .ok ("TooSmall" : Str)) aS :=
  fn_ok (m := fun _ => ((Rs.ok ("TooSmall" : Str)).f fun x => .rt x : Fl Unit Str Empty)) (Γn := fun _ => [none]) (Γb := fun _ => []) (d := (fun (e : Empty) => e.elim)) F sc_called_TooSmall (fun _ => rfl) (fun (s : Empty) _ => s.elim) (fun cdv A outer s H E G i => ⟨_, jb_one (js_ret (JN.toE jn_str (wk_all rfl)))⟩)
theorem sc_called_TooLarge : FnScope ["self"] ["self"] (defScope (inClass (Hd.top 10) 0)) := ⟨rfl, rfl, rfl, by decide +kernel, rfl, by decide +kernel, by decide +kernel⟩
theorem w_called_TooLarge {f : Addr} {fd : FuncData} (F : FnP K "called" "TooLarge.called" (inClass (Hd.top 10) 0) f fd) : FnR P w K mg base cl 1 f fd ["self"] (fun _ : Unit => [aX cl "TooLarge"]) (fun _ => .ok ("TooLarge" : Str)) aS :=
  fn_ok (m := fun _ => ((Rs.ok ("TooLarge" : Str)).f fun x => .rt x : Fl Unit Str Empty)) (Γn := fun _ => [none]) (Γb := fun _ => []) (d := (fun (e : Empty) => e.elim)) F sc_called_TooLarge (fun _ => rfl) (fun (s : Empty) _ => s.elim) (fun cdv A outer s H E G i => ⟨_, jb_one (js_ret (JN.toE jn_str (wk_all rfl)))⟩)
abbrev N_answer_to : List Str := ["line", "town", "wages", "e", "told"]
def b_answer_to (i : Str × VTown × (List Int)) : Fl Unit Int Empty :=
 .no
def m_answer_to (i : Str × VTown × (List Int)) : Rs Int := (b_answer_to i).fn (fun (e : Empty) => e.elim)
abbrev T_answer_to (P : Program) (w : World) (K : PySem.W.Frag) (mg : Str → Option Value) (base : Heap) (cl : String → Addr) : Prop := CalR P w K mg base cl 1 "answer_to" ["line", "town", "wages"] (fun i => [aS i.1, (fTown cl) i.2.1, (lA aI) i.2.2]) m_answer_to aI
theorem sc_answer_to : FnScope ["line", "town", "wages", "e", "told"] ["line", "town", "wages"] (defScope (Hd.top 102)) := ⟨rfl, rfl, rfl, by decide +kernel, rfl, by decide +kernel, by decide +kernel⟩
theorem w_answer_to (fx : Fx K mg cl) (d : DefF K mg "answer_to" (Hd.top 102) ["line", "town", "wages"]) : T_answer_to P w K mg base cl := by
  obtain ⟨f, fd, F, hm, kp, hb⟩ := d
  exact ⟨f, fd, fn_ok (Γn := fun _ => List.replicate 5 none) (Γb := fun _ => []) (d := (fun (e : Empty) => e.elim)) F sc_answer_to (fun _ => rfl) (fun (s : Empty) _ => s.elim) (fun cdv A outer s H E G i => ⟨_, JB.to (m := b_answer_to i) jb_no rfl⟩), hm, kp, hb⟩
abbrev N_ask_town : List Str := ["quarters", "pairs", "one", "other"]
def b_ask_town (i : Int × (List (Int × Int))) : Fl Unit Unit Unit :=
 ((orM ((Rs.ok i.1).b fun x0 => (Rs.ok (1 : Int)).b fun x1 => .ok (decide (x0 < x1))) (orM ((Rs.ok i.1).b fun x2 => (Rs.ok (24 : Int)).b fun x3 => .ok (decide (x3 < x2))) (((Rs.ok i.2).b fun x4 => .ok (x4.length : Int)).b fun x5 => (Rs.ok (60 : Int)).b fun x6 => .ok (decide (x6 < x5))))).f fun b7 => if b7 = true then Fl.v (.er "BadTown") else
 (Fl.b ((Rs.ok i.2).f fun xs21 => forM (fun (s8 : Unit) (v9 : (Int × Int)) => ((orM ((Rs.ok v9.1).b fun x10 => (Rs.ok v9.2).b fun x11 => .ok (decide (x10 = x11))) (orM (((Rs.ok v9.1).b fun x12 => (Rs.ok v9.2).b fun x13 => .ok (min x12 x13)).b fun x14 => (Rs.ok (0 : Int)).b fun x15 => .ok (decide (x14 < x15))) (((Rs.ok v9.1).b fun x16 => (Rs.ok v9.2).b fun x17 => .ok (max x16 x17)).b fun x18 => (Rs.ok i.1).b fun x19 => .ok (decide (x19 ≤ x18))))).f fun b20 => if b20 = true then Fl.v (.er "BadTown") else
 (.nx ()))) xs21 ()) fun (s8 : Unit) =>
 (.nx ())))
def m_ask_town (i : Int × (List (Int × Int))) : Rs Unit := (b_ask_town i).fn (fun _ => ())
abbrev T_ask_town (P : Program) (w : World) (K : PySem.W.Frag) (mg : Str → Option Value) (base : Heap) (cl : String → Addr) : Prop := CalR P w K mg base cl 1 "ask_town" ["quarters", "pairs"] (fun i => [aI i.1, (lA (t2 aI aI)) i.2]) m_ask_town aU
theorem sc_ask_town : FnScope ["quarters", "pairs", "one", "other"] ["quarters", "pairs"] (defScope (Hd.top 20)) := ⟨rfl, rfl, rfl, by decide +kernel, rfl, by decide +kernel, by decide +kernel⟩
theorem w_ask_town (fx : Fx K mg cl) (d : DefF K mg "ask_town" (Hd.top 20) ["quarters", "pairs"]) : T_ask_town P w K mg base cl := by
  obtain ⟨f, fd, F, hm, kp, hb⟩ := d
  exact ⟨f, fd, fn_ok (Γn := fun _ => List.replicate 4 none) (Γb := fun _ => []) (d := (fun _ => ())) F sc_ask_town (fun _ => rfl) (fun s _ => ⟨rfl, rfl⟩) (fun cdv A outer s H E G i => ⟨_, JB.to (m := b_ask_town i) (jb_ifv (Γ0 := fun _ => []) (JW.t (jw_or (jt_lt (jn_v 0 aI (y := i.1)) jn_int) (jw_or (jt_gt (jn_v 0 aI (y := i.1)) (jn_gint rfl fx.i_MOST_QUARTERS)) (jw_or1 (jt_gt (jn_len (K0 := K) fx.bt.len (jn_v 1 (lA (t2 aI aI)) (y := i.2))) (jn_gint rfl fx.i_MOST_BRIDGES)))))) (wk_all rfl) (jb_one (js_raise (cn := "BadTown") G fx.x_BadTown rfl (wk_all rfl)))
 (jb_cons (Γu := fun (s8 : Unit) => [some (aI i.1), none, none, none]) (js_for (Γl := fun (s8 : Unit) => [some (aI i.1), none, none, none]) (Γt := fun (s8 : Unit) (v9 : (Int × Int)) => [some (aI i.1), none, some (aI v9.1), some (aI v9.2)]) (s0 := ()) (L := [2, 3]) G (ji_list (K0 := K) (jn_v 1 (lA (t2 aI aI)) (y := i.2))) (wk_all rfl) (.keep (.kill (.keep (.keep .nil)))) (fun s8 => (jg_two (K0 := K) 2 3 (A := aI) (C := aI) (g1 := fun (z : (Int × Int)) => z.1) (g2 := fun (z : (Int × Int)) => z.2) G)) (fun s8 v9 => (jb_ifv (Γ0 := fun _ => []) (JW.t (jw_or (jt_eq (jn_v 2 aI (y := v9.1)) (jn_v 3 aI (y := v9.2))) (jw_or (jt_lt (jn_min2 G fx.bt.min (jn_v 2 aI (y := v9.1)) (jn_v 3 aI (y := v9.2))) jn_int) (jw_or1 (jt_ge (jn_max2 G fx.bt.max (jn_v 2 aI (y := v9.1)) (jn_v 3 aI (y := v9.2))) (jn_v 0 aI (y := i.1))))))) (wk_all rfl) (jb_one (js_raise (cn := "BadTown") G fx.x_BadTown rfl (wk_all rfl)))
 (jb_nil (.keep (.keep (.kill (.kill .nil)))))))) fun s8 =>
 (jb_nil (.kill (.keep (.keep (.keep .nil))))))) rfl⟩), hm, kp, hb⟩
abbrev N_Town_init : List Str := ["self", "quarters", "bridges"]
def b_Town_init (i : Int × (List (Int × Int))) : Fl Unit VTown VTown :=
 ((((Rs.ok i.1).b fun x23 => (Rs.ok i.2).b fun x24 => .ok (x23, x24)).b m_ask_town).f fun y22 =>
 ((Rs.ok i.1).f fun y25 =>
 ((Rs.ok i.2).f fun y26 =>
 (.nx (y25, y26)))))
def m_Town_init (i : Int × (List (Int × Int))) : Rs VTown := (b_Town_init i).fn (fun s => s)
abbrev T_Town_init (P : Program) (w : World) (K : PySem.W.Frag) (mg : Str → Option Value) (base : Heap) (cl : String → Addr) : Prop := MkR P w K mg base cl 2 "Town" "Town" ["self", "quarters", "bridges"] (fun i => [aI i.1, (lA (t2 aI aI)) i.2]) m_Town_init foTown
theorem sc_Town_init : FnScope ["self", "quarters", "bridges"] ["self", "quarters", "bridges"] (defScope (inClass (Hd.top 21) 0)) := ⟨rfl, rfl, rfl, by decide +kernel, rfl, by decide +kernel, by decide +kernel⟩
theorem w_Town_init (fx : Fx K mg cl) (d : DefM K (cl "Town") "Town.__init__" (inClass (Hd.top 21) 0) ["self", "quarters", "bridges"]) (c_ask_town : T_ask_town P w K mg base cl) : T_Town_init P w K mg base cl := by
  obtain ⟨f, fd, F, M, hb⟩ := d
  exact ⟨f, fd, M, fn_okO (Γn := fun vf s => some (atv (vf 0) (oCs (cl "Town") (foTown s))) :: List.replicate 2 none) (Γb := fun _ => []) (d := fun s => s) F sc_Town_init (fun _ => rfl) (fun vf s => ⟨fun _ => ⟨rfl, rfl⟩, .cons rfl .nil⟩) (fun cdv A outer s H E G i vf => ⟨_, JB.to (m := b_Town_init i) (jb_lin (jl_expr (JN.toE (jn_cal (m := ((Rs.ok i.1).b fun x23 => (Rs.ok i.2).b fun x24 => .ok (x23, x24))) G c_ask_town (jns_cons (jn_v 1 aI (y := i.1)) (jns_one (jn_v 2 (lA (t2 aI aI)) (y := i.2))))) (wk_all rfl))) fun y22 =>
 (jb_lin (jl_fst (K0 := K) 0 (some (vf 0)) (C := cl "Town") (l0 := []) fx.c_Town fx.n_Town_quarters (wk_all rfl) (jn_v 1 aI (y := i.1))) fun y25 =>
 (jb_lin (jl_fst (K0 := K) 0 (some (vf 0)) (C := cl "Town") (l0 := [("quarters", aI y25)]) fx.c_Town fx.n_Town_bridges (wk_all rfl) (jn_list (K0 := K) fx.bt.list (jn_v 2 (lA (t2 aI aI)) (y := i.2)))) fun y26 =>
 (jb_nil (.keep (.kill (.kill .nil))))))) rfl⟩), fx.g_Town, hb⟩
abbrev N_ask_wages : List Str := ["many", "wages", "wage"]
def b_ask_wages (i : Int × (List Int)) : Fl Unit Unit Unit :=
 ((((Rs.ok i.2).b fun x28 => .ok (x28.length : Int)).b fun x29 => (Rs.ok i.1).b fun x30 => .ok (!decide (x29 = x30))).f fun b31 => if b31 = true then Fl.v (.er "BadWages") else
 (Fl.b ((Rs.ok i.2).f fun xs39 => forM (fun (s32 : Unit) (v33 : Int) => ((orM ((Rs.ok v33).b fun x34 => (Rs.ok (0 : Int)).b fun x35 => .ok (decide (x34 < x35))) ((Rs.ok v33).b fun x36 => (Rs.ok (1000000000000000000000000000000000000000000000000000000000000 : Int)).b fun x37 => .ok (decide (x37 < x36)))).f fun b38 => if b38 = true then Fl.v (.er "BadWages") else
 (.nx ()))) xs39 ()) fun (s32 : Unit) =>
 (.nx ())))
def m_ask_wages (i : Int × (List Int)) : Rs Unit := (b_ask_wages i).fn (fun _ => ())
abbrev T_ask_wages (P : Program) (w : World) (K : PySem.W.Frag) (mg : Str → Option Value) (base : Heap) (cl : String → Addr) : Prop := CalR P w K mg base cl 1 "ask_wages" ["many", "wages"] (fun i => [aI i.1, (lA aI) i.2]) m_ask_wages aU
theorem sc_ask_wages : FnScope ["many", "wages", "wage"] ["many", "wages"] (defScope (Hd.top 16)) := ⟨rfl, rfl, rfl, by decide +kernel, rfl, by decide +kernel, by decide +kernel⟩
theorem w_ask_wages (fx : Fx K mg cl) (d : DefF K mg "ask_wages" (Hd.top 16) ["many", "wages"]) : T_ask_wages P w K mg base cl := by
  obtain ⟨f, fd, F, hm, kp, hb⟩ := d
  exact ⟨f, fd, fn_ok (Γn := fun _ => List.replicate 3 none) (Γb := fun _ => []) (d := (fun _ => ())) F sc_ask_wages (fun _ => rfl) (fun s _ => ⟨rfl, rfl⟩) (fun cdv A outer s H E G i => ⟨_, JB.to (m := b_ask_wages i) (jb_ifv (Γ0 := fun _ => []) (jt_ne (jn_len (K0 := K) fx.bt.len (jn_v 1 (lA aI) (y := i.2))) (jn_v 0 aI (y := i.1))) (wk_all rfl) (jb_one (js_raise (cn := "BadWages") G fx.x_BadWages rfl (wk_all rfl)))
 (jb_cons (Γu := fun (s32 : Unit) => [none, none, none]) (js_for (Γl := fun (s32 : Unit) => [none, none, none]) (Γt := fun (s32 : Unit) (v33 : Int) => [none, none, some (aI v33)]) (s0 := ()) (L := [2]) G (ji_list (K0 := K) (jn_v 1 (lA aI) (y := i.2))) (wk_all rfl) (.kill (.kill (.keep .nil))) (fun s32 => (jg_name 2 G.nd)) (fun s32 v33 => (jb_ifv (Γ0 := fun _ => []) (JW.t (jw_or (jt_lt (jn_v 2 aI (y := v33)) jn_int) (jw_or1 (jt_gt (jn_v 2 aI (y := v33)) (jn_gint rfl fx.i_DEAREST_WAGE))))) (wk_all rfl) (jb_one (js_raise (cn := "BadWages") G fx.x_BadWages rfl (wk_all rfl)))
 (jb_nil (.keep (.keep (.kill .nil))))))) fun s32 =>
 (jb_nil (.keep (.keep (.keep .nil)))))) rfl⟩), hm, kp, hb⟩
abbrev N_written_number : List Str := ["word", "most", "sign"]
def b_written_number (i : Str × Int) : Fl Unit Int Empty :=
 ((orM ((Rs.ok i.1).b fun x40 => (Rs.ok ("" : Str)).b fun x41 => .ok (decide (x40 = x41))) (orM (((Rs.ok i.1).b fun x42 => opt (slenO x42)).b fun x43 => (Rs.ok i.2).b fun x44 => .ok (decide (x44 < x43))) (andM (((Rs.ok i.1).b fun x45 => (Rs.ok (0 : Int)).b fun x46 => opt (sixO x45 x46)).b fun x47 => (Rs.ok ("0" : Str)).b fun x48 => .ok (decide (x47 = x48))) (((Rs.ok i.1).b fun x49 => opt (slenO x49)).b fun x50 => (Rs.ok (1 : Int)).b fun x51 => .ok (decide (x51 < x50)))))).f fun b52 => if b52 = true then Fl.v (.er "BadText") else
 (Fl.b (((Rs.ok i.1).b fun x53 => .ok (signs x53)).f fun xs61 => forM (fun (s54 : Unit) (v55 : Str) => (((Rs.ok v55).b fun x56 => (Rs.ok ("0123456789" : Str)).b fun x57 => opt ((sinO x56 x57).map fun b => if true then !b else b)).f fun b58 => if b58 = true then Fl.v (.er "BadText") else
 (.nx ()))) xs61 ()) fun (s54 : Unit) =>
 (((Rs.ok i.1).b fun x59 => opt (intO x59)).f fun x60 => .rt x60)))
def m_written_number (i : Str × Int) : Rs Int := (b_written_number i).fn (fun (e : Empty) => e.elim)
abbrev T_written_number (P : Program) (w : World) (K : PySem.W.Frag) (mg : Str → Option Value) (base : Heap) (cl : String → Addr) : Prop := CalR P w K mg base cl 1 "written_number" ["word", "most"] (fun i => [aS i.1, aI i.2]) m_written_number aI
theorem sc_written_number : FnScope ["word", "most", "sign"] ["word", "most"] (defScope (Hd.top 24)) := ⟨rfl, rfl, rfl, by decide +kernel, rfl, by decide +kernel, by decide +kernel⟩
theorem w_written_number (fx : Fx K mg cl) (d : DefF K mg "written_number" (Hd.top 24) ["word", "most"]) : T_written_number P w K mg base cl := by
  obtain ⟨f, fd, F, hm, kp, hb⟩ := d
  exact ⟨f, fd, fn_ok (Γn := fun _ => List.replicate 3 none) (Γb := fun _ => []) (d := (fun (e : Empty) => e.elim)) F sc_written_number (fun _ => rfl) (fun (s : Empty) _ => s.elim) (fun cdv A outer s H E G i => ⟨_, JB.to (m := b_written_number i) (jb_ifv (Γ0 := fun _ => []) (JW.t (jw_or (jt_eq (jn_v 0 aS (y := i.1)) jn_str) (jw_or (jt_gt (jn_slen fx.bt.len (jn_v 0 aS (y := i.1))) (jn_v 1 aI (y := i.2))) (jw_or1 (JW.t (jw_and (jt_eq (jn_six (jn_v 0 aS (y := i.1)) jn_int) jn_str) (jw_and1 (jt_gt (jn_slen fx.bt.len (jn_v 0 aS (y := i.1))) jn_int)))))))) (wk_all rfl) (jb_one (js_raise (cn := "BadText") G fx.x_BadText rfl (wk_all rfl)))
 (jb_cons (Γu := fun (s54 : Unit) => [some (aS i.1), none, none]) (js_for (Γl := fun (s54 : Unit) => [some (aS i.1), none, none]) (Γt := fun (s54 : Unit) (v55 : Str) => [some (aS i.1), none, some (aS v55)]) (s0 := ()) (L := [2]) G (ji_str (jn_v 0 aS (y := i.1))) (wk_all rfl) (.keep (.kill (.keep .nil))) (fun s54 => (jg_name 2 G.nd)) (fun s54 v55 => (jb_ifv (Γ0 := fun _ => []) (jt_ninS (jn_v 2 aS (y := v55)) (jn_gstr rfl fx.s_NUMBER_FIGURES)) (wk_all rfl) (jb_one (js_raise (cn := "BadText") G fx.x_BadText rfl (wk_all rfl)))
 (jb_nil (.keep (.keep (.kill .nil))))))) fun s54 =>
 (jb_one (js_ret (JN.toE (jn_intS fx.bt.int (jn_v 0 aS (y := i.1))) (wk_all rfl)))))) rfl⟩), hm, kp, hb⟩
abbrev N_bridge_line : List Str := ["line", "words", "wage"]
def b_bridge_line (i : Str) : Fl Unit (Int × Int × Int) Empty :=
 (((Rs.ok i).b fun x63 => (Rs.ok (" " : Str)).b fun x64 => opt (splO x63 x64)).f fun y62 =>
 ((orM (((Rs.ok y62).b fun x65 => (Rs.ok (0 : Int)).b fun x66 => opt (atI x65 x66)).b fun x67 => (Rs.ok ("bridge" : Str)).b fun x68 => .ok (!decide (x67 = x68))) (orM (((Rs.ok y62).b fun x69 => .ok (x69.length : Int)).b fun x70 => (Rs.ok (3 : Int)).b fun x71 => .ok (decide (x70 < x71))) (((Rs.ok y62).b fun x72 => .ok (x72.length : Int)).b fun x73 => (Rs.ok (4 : Int)).b fun x74 => .ok (decide (x74 < x73))))).f fun b75 => if b75 = true then Fl.v (.er "BadText") else
 ((Rs.ok (1 : Int)).f fun y76 =>
 (Fl.b ((((Rs.ok y62).b fun x77 => .ok (x77.length : Int)).b fun x78 => (Rs.ok (4 : Int)).b fun x79 => .ok (decide (x78 = x79))).f fun b80 => if b80 = true then (((((Rs.ok y62).b fun x83 => (Rs.ok (3 : Int)).b fun x84 => opt (atI x83 x84)).b fun x85 => (Rs.ok (61 : Int)).b fun x86 => .ok (x85, x86)).b m_written_number).f fun y82 =>
 (.nx y82)) else (.nx y76)) fun (s81 : Int) =>
 (((((((Rs.ok y62).b fun x87 => (Rs.ok (1 : Int)).b fun x88 => opt (atI x87 x88)).b fun x89 => (Rs.ok (2 : Int)).b fun x90 => .ok (x89, x90)).b m_written_number).b fun x97 => (((((Rs.ok y62).b fun x91 => (Rs.ok (2 : Int)).b fun x92 => opt (atI x91 x92)).b fun x93 => (Rs.ok (2 : Int)).b fun x94 => .ok (x93, x94)).b m_written_number).b fun x95 => (Rs.ok s81).b fun x96 => .ok (x95, x96)).b fun x98 => .ok (x97, x98)).b fun x99 => .ok x99).f fun x100 => .rt x100)))))
def m_bridge_line (i : Str) : Rs (Int × Int × Int) := (b_bridge_line i).fn (fun (e : Empty) => e.elim)
abbrev T_bridge_line (P : Program) (w : World) (K : PySem.W.Frag) (mg : Str → Option Value) (base : Heap) (cl : String → Addr) : Prop := CalR P w K mg base cl 2 "bridge_line" ["line"] (fun i => [aS i]) m_bridge_line (t3 aI aI aI)
theorem sc_bridge_line : FnScope ["line", "words", "wage"] ["line"] (defScope (Hd.top 25)) := ⟨rfl, rfl, rfl, by decide +kernel, rfl, by decide +kernel, by decide +kernel⟩
theorem w_bridge_line (fx : Fx K mg cl) (d : DefF K mg "bridge_line" (Hd.top 25) ["line"]) (c_written_number : T_written_number P w K mg base cl) : T_bridge_line P w K mg base cl := by
  obtain ⟨f, fd, F, hm, kp, hb⟩ := d
  exact ⟨f, fd, fn_ok (Γn := fun _ => List.replicate 3 none) (Γb := fun _ => []) (d := (fun (e : Empty) => e.elim)) F sc_bridge_line (fun _ => rfl) (fun (s : Empty) _ => s.elim) (fun cdv A outer s H E G i => ⟨_, JB.to (m := b_bridge_line i) (jb_lin (jl_set 1 G.nd (JN.toE (JN.frz (A := (oA aS)) (B := (lA aS)) (jn_split (jn_v 0 aS (y := i)) jn_str) fun _ => FrzF.frz _) (wk_all rfl))) fun y62 =>
 (jb_ifv (Γ0 := fun _ => []) (JW.t (jw_or (jt_ne (jn_ix (K0 := K) (jn_v 1 (lA aS) (y := y62)) jn_int) jn_str) (jw_or (jt_lt (jn_len (K0 := K) fx.bt.len (jn_v 1 (lA aS) (y := y62))) jn_int) (jw_or1 (jt_gt (jn_len (K0 := K) fx.bt.len (jn_v 1 (lA aS) (y := y62))) jn_int))))) (wk_all rfl) (jb_one (js_raise (cn := "BadText") G fx.x_BadText rfl (wk_all rfl)))
 (jb_lin (jl_set 2 G.nd (JN.toE jn_int (wk_all rfl))) fun y76 =>
 (jb_cons (Γu := fun (s81 : Int) => [none, some ((lA aS) y62), some (aI s81)]) (js_if (jt_eq (jn_len (K0 := K) fx.bt.len (jn_v 1 (lA aS) (y := y62))) jn_int) (wk_all rfl) (jb_lin (jl_set 2 G.nd (JN.toE (jn_cal (m := (((Rs.ok y62).b fun x83 => (Rs.ok (3 : Int)).b fun x84 => opt (atI x83 x84)).b fun x85 => (Rs.ok (61 : Int)).b fun x86 => .ok (x85, x86))) G c_written_number (jns_cons (jn_ix (K0 := K) (jn_v 1 (lA aS) (y := y62)) jn_int) (jns_one jn_int))) (wk_all rfl))) fun y82 =>
 (jb_nil (.kill (.keep (.keep .nil))))) (jb_nil (.kill (.keep (.keep .nil))))) fun s81 =>
 (jb_one (js_ret (JN.toE (JN.frz (A := (o3 aI aI aI)) (B := (t3 aI aI aI)) (jn_tup (C := (o3 aI aI aI)) (fun x99 => x99) (jns_cons (jn_cal (m := (((Rs.ok y62).b fun x87 => (Rs.ok (1 : Int)).b fun x88 => opt (atI x87 x88)).b fun x89 => (Rs.ok (2 : Int)).b fun x90 => .ok (x89, x90))) G c_written_number (jns_cons (jn_ix (K0 := K) (jn_v 1 (lA aS) (y := y62)) jn_int) (jns_one jn_int))) (jns_cons (jn_cal (m := (((Rs.ok y62).b fun x91 => (Rs.ok (2 : Int)).b fun x92 => opt (atI x91 x92)).b fun x93 => (Rs.ok (2 : Int)).b fun x94 => .ok (x93, x94))) G c_written_number (jns_cons (jn_ix (K0 := K) (jn_v 1 (lA aS) (y := y62)) jn_int) (jns_one jn_int))) (jns_one (jn_v 2 aI (y := s81)))))) fun _ => FrzF.frz _) (wk_all rfl)))))))) rfl⟩), hm, kp, hb⟩
abbrev N_read_town : List Str := ["text", "lines", "head", "quarters", "told", "wages", "line", "each"]
def b_read_town (i : Str) : Fl Unit (VTown × (List Int)) Empty :=
 (((Rs.ok i).b fun x102 => (Rs.ok ("\n" : Str)).b fun x103 => opt (splO x102 x103)).f fun y101 =>
 ((((Rs.ok y101).b fun x105 => (Rs.ok (0 : Int)).b fun x106 => opt (atI x105 x106)).b fun x107 => (Rs.ok (" " : Str)).b fun x108 => opt (splO x107 x108)).f fun y104 =>
 ((orM (((Rs.ok y104).b fun x109 => (Rs.ok (0 : Int)).b fun x110 => opt (atI x109 x110)).b fun x111 => (Rs.ok ("quarters" : Str)).b fun x112 => .ok (!decide (x111 = x112))) (((Rs.ok y104).b fun x113 => .ok (x113.length : Int)).b fun x114 => (Rs.ok (2 : Int)).b fun x115 => .ok (!decide (x114 = x115)))).f fun b116 => if b116 = true then Fl.v (.er "BadText") else
 (((((Rs.ok y104).b fun x118 => (Rs.ok (1 : Int)).b fun x119 => opt (atI x118 x119)).b fun x120 => (Rs.ok (2 : Int)).b fun x121 => .ok (x120, x121)).b m_written_number).f fun y117 =>
 ((((Rs.ok y101).b fun x124 => ((Rs.ok (1 : Int)).b fun x123 => .ok (some x123)).b fun x125 => (Rs.ok (none : Option Int)).b fun x126 => .ok (cut x124 x125 x126)).b fun xs128 => lcEN (fun v127 => (Rs.ok true)) (fun v127 => ((Rs.ok v127).b m_bridge_line)) xs128).f fun y122 =>
 (((Rs.ok y122).b fun xs132 => lcN (fun v130 => (Rs.ok true)) (fun v130 => ((Rs.ok v130).b fun x131 => .ok x131.2.2)) xs132).f fun y129 =>
 (((((Rs.ok y122).b fun x134 => .ok (x134.length : Int)).b fun x135 => (Rs.ok y129).b fun x136 => .ok (x135, x136)).b m_ask_wages).f fun y133 =>
 ((((((Rs.ok y117).b fun x144 => ((Rs.ok y122).b fun xs143 => lcN (fun v137 => (Rs.ok true)) (fun v137 => ((((Rs.ok v137).b fun x138 => .ok x138.1).b fun x140 => ((Rs.ok v137).b fun x139 => .ok x139.2.1).b fun x141 => .ok (x140, x141)).b fun x142 => .ok x142)) xs143).b fun x145 => .ok (x144, x145)).b m_Town_init).b fun x146 => (Rs.ok y129).b fun x147 => .ok (x146, x147)).b fun x148 => .ok x148).f fun x149 => .rt x149))))))))
def m_read_town (i : Str) : Rs (VTown × (List Int)) := (b_read_town i).fn (fun (e : Empty) => e.elim)
abbrev T_read_town (P : Program) (w : World) (K : PySem.W.Frag) (mg : Str → Option Value) (base : Heap) (cl : String → Addr) : Prop := CalR P w K mg base cl 4 "read_town" ["text"] (fun i => [aS i]) m_read_town (t2 (fTown cl) (lA aI))
theorem sc_read_town : FnScope ["text", "lines", "head", "quarters", "told", "wages", "line", "each"] ["text"] (defScope (Hd.top 26)) := ⟨rfl, rfl, rfl, by decide +kernel, rfl, by decide +kernel, by decide +kernel⟩
theorem w_read_town (fx : Fx K mg cl) (d : DefF K mg "read_town" (Hd.top 26) ["text"]) (c_Town_init : T_Town_init P w K mg base cl) (c_ask_wages : T_ask_wages P w K mg base cl) (c_bridge_line : T_bridge_line P w K mg base cl) (c_written_number : T_written_number P w K mg base cl) : T_read_town P w K mg base cl := by
  obtain ⟨f, fd, F, hm, kp, hb⟩ := d
  exact ⟨f, fd, fn_ok (Γn := fun _ => List.replicate 8 none) (Γb := fun _ => []) (d := (fun (e : Empty) => e.elim)) F sc_read_town (fun _ => rfl) (fun (s : Empty) _ => s.elim) (fun cdv A outer s H E G i => ⟨_, JB.to (m := b_read_town i) (jb_lin (jl_set 1 G.nd (JN.toE (JN.frz (A := (oA aS)) (B := (lA aS)) (jn_split (jn_v 0 aS (y := i)) jn_str) fun _ => FrzF.frz _) (wk_all rfl))) fun y101 =>
 (jb_lin (jl_set 2 G.nd (JN.toE (JN.frz (A := (oA aS)) (B := (lA aS)) (jn_split (jn_ix (K0 := K) (jn_v 1 (lA aS) (y := y101)) jn_int) jn_str) fun _ => FrzF.frz _) (wk_all rfl))) fun y104 =>
 (jb_ifv (Γ0 := fun _ => []) (JW.t (jw_or (jt_ne (jn_ix (K0 := K) (jn_v 2 (lA aS) (y := y104)) jn_int) jn_str) (jw_or1 (jt_ne (jn_len (K0 := K) fx.bt.len (jn_v 2 (lA aS) (y := y104))) jn_int)))) (wk_all rfl) (jb_one (js_raise (cn := "BadText") G fx.x_BadText rfl (wk_all rfl)))
 (jb_lin (jl_set 3 G.nd (JN.toE (jn_cal (m := (((Rs.ok y104).b fun x118 => (Rs.ok (1 : Int)).b fun x119 => opt (atI x118 x119)).b fun x120 => (Rs.ok (2 : Int)).b fun x121 => .ok (x120, x121))) G c_written_number (jns_cons (jn_ix (K0 := K) (jn_v 2 (lA aS) (y := y104)) jn_int) (jns_one jn_int))) (wk_all rfl))) fun y117 =>
 (jb_lin (jl_setLcR 4 [("line", 6)] (L := [6]) (E := (t3 aI aI aI)) (D := (lA (t3 aI aI aI))) (Γt := fun v127 => [some (aS i), some ((lA aS) y101), some ((lA aS) y104), some (aI y117), none, none, some (aS v127), none]) G (wk_all rfl) (fun _ => .inl (FrzF.frz _)) (ji_list (K0 := K) (jn_slice (K0 := K) (jn_v 1 (lA aS) (y := y101)) (jo_some jn_int) jo_none)) (fun _ _ _ _ _ _ => (jg_name 6 G.nd)) (fun _ _ _ _ _ _ _ G v127 => jts_nil) (fun _ _ _ _ _ _ _ G v127 => (jn_cal (m := (Rs.ok v127)) G c_bridge_line (jns_one (jn_v 6 aS (y := v127))))) (blkOk_by (N := N_read_town) (sc := defScope (Hd.top 26)) (by decide +kernel)) (by rfl) (by decide) (sw_true rfl rfl rfl (by decide +kernel))) fun y122 =>
 (jb_lin (jl_setLc 5 [("each", 7)] (L := [7]) (E := aI) (D := (lA aI)) (Γt := fun v130 => [some (aS i), some ((lA aS) y101), some ((lA aS) y104), some (aI y117), some ((lA (t3 aI aI aI)) y122), none, none, some ((t3 aI aI aI) v130)]) G (wk_all rfl) (fun _ => .inl (FrzF.frz _)) (ji_list (K0 := K) (jn_v 4 (lA (t3 aI aI aI)) (y := y122))) (fun _ _ _ _ _ G => (jg_name 7 G.nd)) (fun _ _ _ _ _ G v130 => jts_nil) (fun _ _ _ _ _ G v130 => (jn_part (K0 := K) (D := aI) 2 (fun x131 => x131.2.2) (jn_v 7 (t3 aI aI aI) (y := v130)))) (blkOk_by (N := N_read_town) (sc := defScope (Hd.top 26)) (by decide +kernel)) (by rfl) (by decide) (sw_true rfl rfl rfl (by decide +kernel))) fun y129 =>
 (jb_lin (jl_expr (JN.toE (jn_cal (m := (((Rs.ok y122).b fun x134 => .ok (x134.length : Int)).b fun x135 => (Rs.ok y129).b fun x136 => .ok (x135, x136))) G c_ask_wages (jns_cons (jn_len (K0 := K) fx.bt.len (jn_v 4 (lA (t3 aI aI aI)) (y := y122))) (jns_one (jn_v 5 (lA aI) (y := y129))))) (wk_all rfl))) fun y133 =>
 (jb_one (js_ret (JN.toE (JN.frz (A := (o2 (fTown cl) (lA aI))) (B := (t2 (fTown cl) (lA aI))) (jn_tup (C := (o2 (fTown cl) (lA aI))) (fun x148 => x148) (jns_cons (JN.frz (A := (oTown cl)) (B := (fTown cl)) (jn_make (m := ((Rs.ok y117).b fun x144 => ((Rs.ok y122).b fun xs143 => lcN (fun v137 => (Rs.ok true)) (fun v137 => ((((Rs.ok v137).b fun x138 => .ok x138.1).b fun x140 => ((Rs.ok v137).b fun x139 => .ok x139.2.1).b fun x141 => .ok (x140, x141)).b fun x142 => .ok x142)) xs143).b fun x145 => .ok (x144, x145))) G c_Town_init (jns_cons (jn_v 3 aI (y := y117)) (jns_one (JN.frz (A := (oA (t2 aI aI))) (B := (lA (t2 aI aI))) (jn_lc [("each", 7)] (L := [7]) (E := (t2 aI aI)) (Γt := fun v137 => [some (aS i), some ((lA aS) y101), some ((lA aS) y104), some (aI y117), some ((lA (t3 aI aI aI)) y122), some ((lA aI) y129), none, some ((t3 aI aI aI) v137)]) G (ji_list (K0 := K) (jn_v 4 (lA (t3 aI aI aI)) (y := y122))) (fun _ _ _ _ _ G => (jg_name 7 G.nd)) (fun _ _ _ _ _ G v137 => jts_nil) (fun _ _ _ _ _ G v137 => (JN.frz (A := (o2 aI aI)) (B := (t2 aI aI)) (jn_tup (C := (o2 aI aI)) (fun x142 => x142) (jns_cons (jn_part (K0 := K) (D := aI) 0 (fun x138 => x138.1) (jn_v 7 (t3 aI aI aI) (y := v137))) (jns_one (jn_part (K0 := K) (D := aI) 1 (fun x139 => x139.2.1) (jn_v 7 (t3 aI aI aI) (y := v137)))))) fun _ => FrzF.frz _)) (blkOk_by (N := N_read_town) (sc := defScope (Hd.top 26)) (by decide +kernel)) (by rfl) (by decide)) fun _ => FrzF.frz _)))) fun _ => FrzF.frz _) (jns_one (jn_v 5 (lA aI) (y := y129))))) fun _ => FrzF.frz _) (wk_all rfl))))))))))) rfl⟩), hm, kp, hb⟩
abbrev N_answers_to : List Str := ["text", "lines", "at", "questions", "town", "wages", "line"]
def b_answers_to (i : Str) : Fl Unit (List Int) Empty :=
 (((Rs.ok i).b fun x151 => (Rs.ok ("\n" : Str)).b fun x152 => opt (splO x151 x152)).f fun y150 =>
 (((Rs.ok ("" : Str)).b fun x153 => (Rs.ok y150).b fun x154 => .ok (!decide (x153 ∈ x154))).f fun b155 => if b155 = true then Fl.v (.er "BadText") else
 (((Rs.ok y150).b fun x157 => (Rs.ok ("" : Str)).b fun x158 => opt (ixOfO x157 x158)).f fun y156 =>
 ((((Rs.ok ("\n" : Str)).b fun x164 => ((Rs.ok y150).b fun x161 => (Rs.ok (none : Option Int)).b fun x162 => ((Rs.ok y156).b fun x160 => .ok (some x160)).b fun x163 => .ok (cut x161 x162 x163)).b fun x165 => opt (joiO x164 x165)).b m_read_town).f fun y159 =>
 (((Rs.ok y150).b fun x170 => (((Rs.ok y156).b fun x167 => (Rs.ok (1 : Int)).b fun x168 => .ok (x167 + x168)).b fun x169 => .ok (some x169)).b fun x171 => (Rs.ok (none : Option Int)).b fun x172 => .ok (cut x170 x171 x172)).f fun y166 =>
 (Fl.b ((andM (((Rs.ok y166).b fun x173 => .ok (x173.length : Int)).b fun x174 => (Rs.ok (0 : Int)).b fun x175 => .ok (decide (x175 < x174))) (((Rs.ok y166).b fun x177 => ((Rs.ok (1 : Int)).b fun x176 => .ok (-x176)).b fun x178 => opt (atI x177 x178)).b fun x179 => (Rs.ok ("" : Str)).b fun x180 => .ok (decide (x179 = x180)))).f fun b181 => if b181 = true then (((Rs.ok y166).b fun x186 => (Rs.ok (none : Option Int)).b fun x187 => (((Rs.ok (1 : Int)).b fun x184 => .ok (-x184)).b fun x185 => .ok (some x185)).b fun x188 => .ok (cut x186 x187 x188)).f fun y183 =>
 (.nx y183)) else (.nx y166)) fun (s182 : (List Str)) =>
 (((Rs.ok s182).b fun xs194 => lcN (fun v189 => (Rs.ok true)) (fun v189 => (((Rs.ok v189).b fun x192 => ((Rs.ok y159.1).b fun x190 => (Rs.ok y159.2).b fun x191 => .ok (x190, x191)).b fun x193 => .ok (x192, x193)).b m_answer_to)) xs194).f fun x195 => .rt x195)))))))
def m_answers_to (i : Str) : Rs (List Int) := (b_answers_to i).fn (fun (e : Empty) => e.elim)
abbrev T_answers_to (P : Program) (w : World) (K : PySem.W.Frag) (mg : Str → Option Value) (base : Heap) (cl : String → Addr) : Prop := CalR P w K mg base cl 5 "answers_to" ["text"] (fun i => [aS i]) m_answers_to (oA aI)
theorem sc_answers_to : FnScope ["text", "lines", "at", "questions", "town", "wages", "line"] ["text"] (defScope (Hd.top 103)) := ⟨rfl, rfl, rfl, by decide +kernel, rfl, by decide +kernel, by decide +kernel⟩
theorem w_answers_to (fx : Fx K mg cl) (d : DefF K mg "answers_to" (Hd.top 103) ["text"]) (c_answer_to : T_answer_to P w K mg base cl) (c_read_town : T_read_town P w K mg base cl) : T_answers_to P w K mg base cl := by
  obtain ⟨f, fd, F, hm, kp, hb⟩ := d
  exact ⟨f, fd, fn_ok (Γn := fun _ => List.replicate 7 none) (Γb := fun _ => []) (d := (fun (e : Empty) => e.elim)) F sc_answers_to (fun _ => rfl) (fun (s : Empty) _ => s.elim) (fun cdv A outer s H E G i => ⟨_, JB.to (m := b_answers_to i) (jb_lin (jl_set 1 G.nd (JN.toE (JN.frz (A := (oA aS)) (B := (lA aS)) (jn_split (jn_v 0 aS (y := i)) jn_str) fun _ => FrzF.frz _) (wk_all rfl))) fun y150 =>
 (jb_ifv (Γ0 := fun _ => []) (jt_ninL (K0 := K) jn_str (jn_v 1 (lA aS) (y := y150))) (wk_all rfl) (jb_one (js_raise (cn := "BadText") G fx.x_BadText rfl (wk_all rfl)))
 (jb_lin (jl_set 2 G.nd (JN.toE (jn_index (K0 := K) (jn_v 1 (lA aS) (y := y150)) jn_str) (wk_all rfl))) fun y156 =>
 (jb_lin (jl_two (K0 := K) 4 5 (fTown cl) (lA aI) (fun (z : (VTown × (List Int))) => z.1) (fun (z : (VTown × (List Int))) => z.2) G (JN.toE (jn_cal (m := ((Rs.ok ("\n" : Str)).b fun x164 => ((Rs.ok y150).b fun x161 => (Rs.ok (none : Option Int)).b fun x162 => ((Rs.ok y156).b fun x160 => .ok (some x160)).b fun x163 => .ok (cut x161 x162 x163)).b fun x165 => opt (joiO x164 x165))) G c_read_town (jns_one (jn_join (K0 := K) jn_str (JN.frz (A := (oA aS)) (B := (lA aS)) (jn_slice (K0 := K) (jn_v 1 (lA aS) (y := y150)) jo_none (jo_some (jn_v 2 aI (y := y156)))) fun _ => FrzF.frz _)))) (wk_all rfl))) fun y159 =>
 (jb_lin (jl_set 3 G.nd (JN.toE (JN.frz (A := (oA aS)) (B := (lA aS)) (jn_slice (K0 := K) (jn_v 1 (lA aS) (y := y150)) (jo_some (jn_add (jn_v 2 aI (y := y156)) jn_int)) jo_none) fun _ => FrzF.frz _) (wk_all rfl))) fun y166 =>
 (jb_cons (Γu := fun (s182 : (List Str)) => [none, none, none, some ((lA aS) s182), some ((fTown cl) y159.1), some ((lA aI) y159.2), none]) (js_if (JW.t (jw_and (jt_gt (jn_len (K0 := K) fx.bt.len (jn_v 3 (lA aS) (y := y166))) jn_int) (jw_and1 (jt_eq (jn_ix (K0 := K) (jn_v 3 (lA aS) (y := y166)) (jn_neg jn_int)) jn_str)))) (wk_all rfl) (jb_lin (jl_set 3 G.nd (JN.toE (JN.frz (A := (oA aS)) (B := (lA aS)) (jn_slice (K0 := K) (jn_v 3 (lA aS) (y := y166)) jo_none (jo_some (jn_neg jn_int))) fun _ => FrzF.frz _) (wk_all rfl))) fun y183 =>
 (jb_nil (.kill (.kill (.kill (.keep (.keep (.keep (.keep .nil))))))))) (jb_nil (.kill (.kill (.kill (.keep (.keep (.keep (.keep .nil))))))))) fun s182 =>
 (jb_one (js_ret (JN.toE (jn_lc [("line", 6)] (L := [6]) (E := aI) (Γt := fun v189 => [none, none, none, some ((lA aS) s182), some ((fTown cl) y159.1), some ((lA aI) y159.2), some (aS v189)]) G (ji_list (K0 := K) (jn_v 3 (lA aS) (y := s182))) (fun _ _ _ _ _ G => (jg_name 6 G.nd)) (fun _ _ _ _ _ G v189 => jts_nil) (fun _ _ _ _ _ G v189 => (jn_cal (m := ((Rs.ok v189).b fun x192 => ((Rs.ok y159.1).b fun x190 => (Rs.ok y159.2).b fun x191 => .ok (x190, x191)).b fun x193 => .ok (x192, x193))) G c_answer_to (jns_cons (jn_v 6 aS (y := v189)) (jns_cons (jn_v 4 (fTown cl) (y := y159.1)) (jns_one (jn_v 5 (lA aI) (y := y159.2))))))) (blkOk_by (N := N_answers_to) (sc := defScope (Hd.top 103)) (by decide +kernel)) (by rfl) (by decide)) (wk_all rfl)))))))))) rfl⟩), hm, kp, hb⟩
abbrev N_law_caught : List Str := ["way", "text", "caught", "found", "e"]
def b_law_caught (i : Int × Str) : Fl Unit ((Option String) × (Option ((List Int) ⊕ (VTown × (List Int))))) Empty :=
 ((Rs.ok (none : Option String)).f fun y196 =>
 ((Rs.ok (none : Option ((List Int) ⊕ (VTown × (List Int))))).f fun y197 =>
 (Fl.b (tryM ["CrewError", "BadTown", "BadQuarters", "BadCount", "BadWages", "BadDealing", "BadLimits", "BadText", "TooSmall", "TooLarge"] (fun c209 => (((Rs.ok c209).b fun x211 => .ok (some x211)).f fun y210 =>
 (.nx (y210, y197)))) (Fl.b (((Rs.ok i.1).b fun x199 => (Rs.ok (0 : Int)).b fun x200 => .ok (decide (x199 = x200))).f fun b201 => if b201 = true then (((((Rs.ok i.2).b m_read_town).b fun x204 => .ok (((fun x => (Sum.inr x)) : (VTown × (List Int)) → ((List Int) ⊕ (VTown × (List Int)))) x204)).b fun x205 => .ok (some x205)).f fun y203 =>
 (.nx y203)) else (((((Rs.ok i.2).b m_answers_to).b fun x207 => .ok (((fun x => (Sum.inl x)) : (List Int) → ((List Int) ⊕ (VTown × (List Int)))) x207)).b fun x208 => .ok (some x208)).f fun y206 =>
 (.nx y206))) fun (s202 : (Option ((List Int) ⊕ (VTown × (List Int))))) =>
 (.nx (y196, s202)))) fun (s198 : (Option String) × (Option ((List Int) ⊕ (VTown × (List Int))))) =>
 ((((Rs.ok s198.1).b fun x212 => (Rs.ok s198.2).b fun x213 => .ok (x212, x213)).b fun x214 => .ok x214).f fun x215 => .rt x215))))
def m_law_caught (i : Int × Str) : Rs ((Option String) × (Option ((List Int) ⊕ (VTown × (List Int))))) := (b_law_caught i).fn (fun (e : Empty) => e.elim)
abbrev T_law_caught (P : Program) (w : World) (K : PySem.W.Frag) (mg : Str → Option Value) (base : Heap) (cl : String → Addr) : Prop := CalR P w K mg base cl 6 "_law_caught" ["way", "text"] (fun i => [aI i.1, aS i.2]) m_law_caught (t2 (aO (aX cl)) (aO (aE (lA aI) (t2 (fTown cl) (lA aI)))))
theorem sc_law_caught : FnScope ["way", "text", "caught", "found", "e"] ["way", "text"] (defScope (Hd.top 112)) := ⟨rfl, rfl, rfl, by decide +kernel, rfl, by decide +kernel, by decide +kernel⟩
theorem w_law_caught (fx : Fx K mg cl) (d : DefF K mg "_law_caught" (Hd.top 112) ["way", "text"]) (c_answers_to : T_answers_to P w K mg base cl) (c_read_town : T_read_town P w K mg base cl) : T_law_caught P w K mg base cl := by
  obtain ⟨f, fd, F, hm, kp, hb⟩ := d
  exact ⟨f, fd, fn_ok (Γn := fun _ => List.replicate 5 none) (Γb := fun _ => []) (d := (fun (e : Empty) => e.elim)) F sc_law_caught (fun _ => rfl) (fun (s : Empty) _ => s.elim) (fun cdv A outer s H E G i => ⟨_, JB.to (m := b_law_caught i) (jb_lin (jl_set 2 G.nd (JN.toE (jn_nonO (A := (aX cl))) (wk_all rfl))) fun y196 =>
 (jb_lin (jl_set 3 G.nd (JN.toE (jn_nonO (A := (aE (lA aI) (t2 (fTown cl) (lA aI))))) (wk_all rfl))) fun y197 =>
 (jb_cons (Γu := fun (s198 : (Option String) × (Option ((List Int) ⊕ (VTown × (List Int))))) => [none, none, some ((aO (aX cl)) s198.1), some ((aO (aE (lA aI) (t2 (fTown cl) (lA aI)))) s198.2), none]) (js_try (i := 4) (names := ["CrewError", "BadTown", "BadQuarters", "BadCount", "BadWages", "BadDealing", "BadLimits", "BadText", "TooSmall", "TooLarge"]) (Γc := [none, none, none, some ((aO (aE (lA aI) (t2 (fTown cl) (lA aI)))) y197), none]) G ⟨rfl, rfl, .inl fx.g_CrewError⟩ fx.t_CrewError (fun W216 _ _ G => (jb_cons (Γu := fun (s202 : (Option ((List Int) ⊕ (VTown × (List Int))))) => [none, none, some ((aO (aX cl)) y196), some ((aO (aE (lA aI) (t2 (fTown cl) (lA aI)))) s202), none]) (js_if (jt_eq (jn_v 0 aI (y := i.1)) jn_int) (.kill (.kill (.kill (.keep (.keep .nil))))) (jb_lin (jl_set 3 G.nd (JN.toE (jn_opt (A := (aE (lA aI) (t2 (fTown cl) (lA aI)))) (jn_tcst (A := (t2 (fTown cl) (lA aI))) (C := (aE (lA aI) (t2 (fTown cl) (lA aI)))) (jn_cal (m := (Rs.ok i.2)) G c_read_town (jns_one (jn_v 1 aS (y := i.2)))) (t_inr t_id))) (.kill (.kill (.kill (.keep (.keep .nil))))))) fun y203 =>
 (jb_nil (.kill (.kill (.keep (.keep (.keep .nil))))))) (jb_lin (jl_set 3 G.nd (JN.toE (jn_opt (A := (aE (lA aI) (t2 (fTown cl) (lA aI)))) (jn_tcst (A := (lA aI)) (C := (aE (lA aI) (t2 (fTown cl) (lA aI)))) (JN.frz (A := (oA aI)) (B := (lA aI)) (jn_cal (m := (Rs.ok i.2)) G c_answers_to (jns_one (jn_v 1 aS (y := i.2)))) fun _ => FrzF.frz _) (t_inl t_id))) (.kill (.kill (.kill (.keep (.keep .nil))))))) fun y206 =>
 (jb_nil (.kill (.kill (.keep (.keep (.keep .nil)))))))) fun s202 =>
 (jb_nil (.keep (.keep (.keep (.keep (.keep .nil)))))))) (fun _ _ c209 => (jb_lin (jl_set 2 G.nd (JN.toE (jn_opt (A := (aX cl)) (jn_v 4 (aX cl) (y := c209))) (wk_all rfl))) fun y210 =>
 (jb_nil (.keep (.keep (.keep (.keep (.kill .nil))))))))) fun s198 =>
 (jb_one (js_ret (JN.toE (JN.frz (A := (o2 (aO (aX cl)) (aO (aE (lA aI) (t2 (fTown cl) (lA aI)))))) (B := (t2 (aO (aX cl)) (aO (aE (lA aI) (t2 (fTown cl) (lA aI)))))) (jn_tup (C := (o2 (aO (aX cl)) (aO (aE (lA aI) (t2 (fTown cl) (lA aI)))))) (fun x214 => x214) (jns_cons (jn_v 2 (aO (aX cl)) (y := s198.1)) (jns_one (jn_v 3 (aO (aE (lA aI) (t2 (fTown cl) (lA aI)))) (y := s198.2))))) fun _ => FrzF.frz _) (wk_all rfl))))))) rfl⟩), hm, kp, hb⟩
abbrev N_law_refused : List Str := ["caught", "word", "kinds"]
def b_law_refused (i : (Option String) × Str) : Fl Unit Bool Empty :=
 ((orM (((Rs.ok i.1).b (isXM ["CrewError", "BadTown", "BadQuarters", "BadCount", "BadWages", "BadDealing", "BadLimits", "BadText", "TooSmall", "TooLarge"] (fun c => decide (c ∈ (["CrewError", "BadTown", "BadQuarters", "BadCount", "BadWages", "BadDealing", "BadLimits", "BadText", "TooSmall", "TooLarge"] : List String))))).b fun x218 => .ok (!x218)) (orM (((Rs.ok i.1).b (isXM ["CrewError", "BadTown", "BadQuarters", "BadCount", "BadWages", "BadDealing", "BadLimits", "BadText", "TooSmall", "TooLarge"] (fun c => decide (c ∈ (["CrewError", "BadTown", "BadQuarters", "BadCount", "BadWages", "BadDealing", "BadLimits", "BadText", "TooSmall", "TooLarge"] : List String))))).b fun x220 => .ok (!x220)) ((((Rs.ok i.1).b opt).b fun x221 => if x221 ∈ (["CrewError", "BadTown", "BadQuarters", "BadCount", "BadWages", "BadDealing", "BadLimits", "BadText", "TooSmall", "TooLarge"] : List String) then .ok (x221 : Str) else .no).b fun x222 => (Rs.ok i.2).b fun x223 => .ok (!decide (x222 = x223))))).f fun b224 => if b224 = true then Fl.v ((Rs.ok false).f fun x225 => .rt x225) else
 (((((Rs.ok i.1).b (isXM ["CrewError", "BadTown", "BadQuarters", "BadCount", "BadWages", "BadDealing", "BadLimits", "BadText", "TooSmall", "TooLarge"] (fun c => decide (c ∈ (["BadText"] : List String))))).b fun x232 => (((Rs.ok i.1).b (isXM ["CrewError", "BadTown", "BadQuarters", "BadCount", "BadWages", "BadDealing", "BadLimits", "BadText", "TooSmall", "TooLarge"] (fun c => decide (c ∈ (["BadWages"] : List String))))).b fun x230 => ((Rs.ok i.1).b (isXM ["CrewError", "BadTown", "BadQuarters", "BadCount", "BadWages", "BadDealing", "BadLimits", "BadText", "TooSmall", "TooLarge"] (fun c => decide (c ∈ (["BadTown"] : List String))))).b fun x231 => .ok (x230, x231)).b fun x233 => .ok (x232, x233)).b fun x234 => .ok [x234.1, x234.2.1, x234.2.2]).f fun y226 =>
 (((Rs.ok y226).b fun x246 => ((((Rs.ok i.2).b fun x235 => (Rs.ok ("BadText" : Str)).b fun x236 => .ok (decide (x235 = x236))).b fun x243 => (((Rs.ok i.2).b fun x237 => (Rs.ok ("BadWages" : Str)).b fun x238 => .ok (decide (x237 = x238))).b fun x241 => ((Rs.ok i.2).b fun x239 => (Rs.ok ("BadTown" : Str)).b fun x240 => .ok (decide (x239 = x240))).b fun x242 => .ok (x241, x242)).b fun x244 => .ok (x243, x244)).b fun x245 => .ok [x245.1, x245.2.1, x245.2.2]).b fun x247 => .ok (decide (x246 = x247))).f fun x248 => .rt x248)))
def m_law_refused (i : (Option String) × Str) : Rs Bool := (b_law_refused i).fn (fun (e : Empty) => e.elim)
abbrev T_law_refused (P : Program) (w : World) (K : PySem.W.Frag) (mg : Str → Option Value) (base : Heap) (cl : String → Addr) : Prop := CalR P w K mg base cl 2 "_law_refused" ["caught", "word"] (fun i => [(aO (aX cl)) i.1, aS i.2]) m_law_refused aB
theorem sc_law_refused : FnScope ["caught", "word", "kinds"] ["caught", "word"] (defScope (Hd.top 111)) := ⟨rfl, rfl, rfl, by decide +kernel, rfl, by decide +kernel, by decide +kernel⟩
theorem w_law_refused (fx : Fx K mg cl) (d : DefF K mg "_law_refused" (Hd.top 111) ["caught", "word"]) (c_called : T_called P w K mg base cl) : T_law_refused P w K mg base cl := by
  obtain ⟨f, fd, F, hm, kp, hb⟩ := d
  exact ⟨f, fd, fn_ok (Γn := fun _ => List.replicate 3 none) (Γb := fun _ => []) (d := (fun (e : Empty) => e.elim)) F sc_law_refused (fun _ => rfl) (fun (s : Empty) _ => s.elim) (fun cdv A outer s H E G i => ⟨_, JB.to (m := b_law_refused i) (jb_ifv (Γ0 := fun _ => []) (JW.t (jw_or (jt_not (jt_v (jn_isX (K0 := K) (names := ["CrewError", "BadTown", "BadQuarters", "BadCount", "BadWages", "BadDealing", "BadLimits", "BadText", "TooSmall", "TooLarge"]) (fun c => decide (c ∈ (["CrewError", "BadTown", "BadQuarters", "BadCount", "BadWages", "BadDealing", "BadLimits", "BadText", "TooSmall", "TooLarge"] : List String))) fx.bt.isinstance fx.xs fx.is_1CrewError.1 fx.is_1CrewError.2 (jn_v 0 (aO (aX cl)) (y := i.1)) (jn_cls (cl := cl) (C := cl "CrewError") fx.g_CrewError) (fun u h => h)))) (jw_or (jt_not (jt_v (jn_isX (K0 := K) (names := ["CrewError", "BadTown", "BadQuarters", "BadCount", "BadWages", "BadDealing", "BadLimits", "BadText", "TooSmall", "TooLarge"]) (fun c => decide (c ∈ (["CrewError", "BadTown", "BadQuarters", "BadCount", "BadWages", "BadDealing", "BadLimits", "BadText", "TooSmall", "TooLarge"] : List String))) fx.bt.isinstance fx.xs fx.is_1ValueError.1 fx.is_1ValueError.2 (jn_v 0 (aO (aX cl)) (y := i.1)) (jn_bty "ValueError" fx.bt.valueError) (fun u h => h)))) (jw_or1 (jt_ne (jn_called (names := ["CrewError", "BadTown", "BadQuarters", "BadCount", "BadWages", "BadDealing", "BadLimits", "BadText", "TooSmall", "TooLarge"]) G c_called (jn_get (A := (aX cl)) (jn_v 0 (aO (aX cl)) (y := i.1)))) (jn_v 1 aS (y := i.2))))))) (wk_all rfl) (jb_one (js_ret (JN.toE jn_bl (wk_all rfl))))
 (jb_lin (jl_set 2 G.nd (JN.toE (JN.frz (A := (oA aB)) (B := (lA aB)) (jn_lst (A := aB) (fun x234 => [x234.1, x234.2.1, x234.2.2]) (jns_cons (jn_isX (K0 := K) (names := ["CrewError", "BadTown", "BadQuarters", "BadCount", "BadWages", "BadDealing", "BadLimits", "BadText", "TooSmall", "TooLarge"]) (fun c => decide (c ∈ (["BadText"] : List String))) fx.bt.isinstance fx.xs fx.is_1BadText.1 fx.is_1BadText.2 (jn_v 0 (aO (aX cl)) (y := i.1)) (jn_cls (cl := cl) (C := cl "BadText") fx.g_BadText) (fun u h => h)) (jns_cons (jn_isX (K0 := K) (names := ["CrewError", "BadTown", "BadQuarters", "BadCount", "BadWages", "BadDealing", "BadLimits", "BadText", "TooSmall", "TooLarge"]) (fun c => decide (c ∈ (["BadWages"] : List String))) fx.bt.isinstance fx.xs fx.is_1BadWages.1 fx.is_1BadWages.2 (jn_v 0 (aO (aX cl)) (y := i.1)) (jn_cls (cl := cl) (C := cl "BadWages") fx.g_BadWages) (fun u h => h)) (jns_one (jn_isX (K0 := K) (names := ["CrewError", "BadTown", "BadQuarters", "BadCount", "BadWages", "BadDealing", "BadLimits", "BadText", "TooSmall", "TooLarge"]) (fun c => decide (c ∈ (["BadTown"] : List String))) fx.bt.isinstance fx.xs fx.is_1BadTown.1 fx.is_1BadTown.2 (jn_v 0 (aO (aX cl)) (y := i.1)) (jn_cls (cl := cl) (C := cl "BadTown") fx.g_BadTown) (fun u h => h)))))) fun _ => FrzF.frz _) (wk_all rfl))) fun y226 =>
 (jb_one (js_ret (JN.toE (jn_eqD (K0 := K) G (jn_v 2 (lA aB) (y := y226)) (JN.frz (A := (oA aB)) (B := (lA aB)) (jn_lst (A := aB) (fun x245 => [x245.1, x245.2.1, x245.2.2]) (jns_cons (jn_eq (jn_v 1 aS (y := i.2)) jn_str) (jns_cons (jn_eq (jn_v 1 aS (y := i.2)) jn_str) (jns_one (jn_eq (jn_v 1 aS (y := i.2)) jn_str))))) fun _ => FrzF.frz _)) (wk_all rfl)))))) rfl⟩), hm, kp, hb⟩
abbrev N_law_asked_right : List Str := ["lines", "due", "told"]
def b_law_asked_right (i : (List Str) × Str) : Fl Unit Bool Empty :=
 ((((((((Rs.ok (1 : Int)).b fun x251 => ((Rs.ok ("\n" : Str)).b fun x249 => (Rs.ok i.1).b fun x250 => opt (joiO x249 x250)).b fun x252 => .ok (x251, x252)).b m_law_caught).b fun x253 => .ok x253.1).b fun x254 => (Rs.ok ("BadText" : Str)).b fun x255 => .ok (x254, x255)).b m_law_refused).b fun x256 => .ok (!x256)).f fun b257 => if b257 = true then Fl.v ((Rs.ok false).f fun x258 => .rt x258) else
 ((((Rs.ok (1 : Int)).b fun x265 => ((Rs.ok ("\n" : Str)).b fun x263 => ((Rs.ok i.1).b fun x261 => ((Rs.ok ("" : Str)).b fun x260 => .ok [x260]).b fun x262 => opt (catO x261 x262)).b fun x264 => opt (joiO x263 x264)).b fun x266 => .ok (x265, x266)).b m_law_caught).f fun y259 =>
 (((Rs.ok i.2).b fun x267 => (Rs.ok ("" : Str)).b fun x268 => .ok (decide (x267 = x268))).f fun b269 => if b269 = true then Fl.v ((andM (((Rs.ok y259).b fun x270 => .ok x270.1).b fun x271 => .ok x271.isNone) (((((Rs.ok y259).b fun x272 => .ok x272.2).b opt).b fun x273 => opt (((fun x => leftO (fun x => some x) x) : ((List Int) ⊕ (VTown × (List Int))) → (Option (List Int))) x273)).b fun x274 => ((Rs.ok ()).b fun _ => .ok ([] : List Int)).b fun x275 => .ok (decide (x274 = x275)))).f fun x276 => .rt x276) else
 ((andM ((((Rs.ok y259).b fun x277 => .ok x277.1).b fun x278 => (Rs.ok i.2).b fun x279 => .ok (x278, x279)).b m_law_refused) ((((((Rs.ok (1 : Int)).b fun x287 => ((Rs.ok ("\n" : Str)).b fun x285 => ((Rs.ok i.1).b fun x283 => (((Rs.ok ("" : Str)).b fun x280 => (Rs.ok ("signs" : Str)).b fun x281 => .ok (x280, x281)).b fun x282 => .ok [x282.1, x282.2]).b fun x284 => opt (catO x283 x284)).b fun x286 => opt (joiO x285 x286)).b fun x288 => .ok (x287, x288)).b m_law_caught).b fun x289 => .ok x289.1).b fun x290 => (Rs.ok i.2).b fun x291 => .ok (x290, x291)).b m_law_refused)).f fun x292 => .rt x292))))
def m_law_asked_right (i : (List Str) × Str) : Rs Bool := (b_law_asked_right i).fn (fun (e : Empty) => e.elim)
abbrev T_law_asked_right (P : Program) (w : World) (K : PySem.W.Frag) (mg : Str → Option Value) (base : Heap) (cl : String → Addr) : Prop := CalR P w K mg base cl 7 "_law_asked_right" ["lines", "due"] (fun i => [(lA aS) i.1, aS i.2]) m_law_asked_right aB
theorem sc_law_asked_right : FnScope ["lines", "due", "told"] ["lines", "due"] (defScope (Hd.top 113)) := ⟨rfl, rfl, rfl, by decide +kernel, rfl, by decide +kernel, by decide +kernel⟩
theorem w_law_asked_right (fx : Fx K mg cl) (d : DefF K mg "_law_asked_right" (Hd.top 113) ["lines", "due"]) (c_law_caught : T_law_caught P w K mg base cl) (c_law_refused : T_law_refused P w K mg base cl) : T_law_asked_right P w K mg base cl := by
  obtain ⟨f, fd, F, hm, kp, hb⟩ := d
  exact ⟨f, fd, fn_ok (Γn := fun _ => List.replicate 3 none) (Γb := fun _ => []) (d := (fun (e : Empty) => e.elim)) F sc_law_asked_right (fun _ => rfl) (fun (s : Empty) _ => s.elim) (fun cdv A outer s H E G i => ⟨_, JB.to (m := b_law_asked_right i) (jb_ifv (Γ0 := fun _ => []) (jt_not (jt_v (jn_cal (m := (((((Rs.ok (1 : Int)).b fun x251 => ((Rs.ok ("\n" : Str)).b fun x249 => (Rs.ok i.1).b fun x250 => opt (joiO x249 x250)).b fun x252 => .ok (x251, x252)).b m_law_caught).b fun x253 => .ok x253.1).b fun x254 => (Rs.ok ("BadText" : Str)).b fun x255 => .ok (x254, x255))) G c_law_refused (jns_cons (jn_part (K0 := K) (T := (t2 (aO (aX cl)) (aO (aE (lA aI) (t2 (fTown cl) (lA aI)))))) (D := (aO (aX cl))) 0 (fun x253 => x253.1) (jn_cal (m := ((Rs.ok (1 : Int)).b fun x251 => ((Rs.ok ("\n" : Str)).b fun x249 => (Rs.ok i.1).b fun x250 => opt (joiO x249 x250)).b fun x252 => .ok (x251, x252))) G c_law_caught (jns_cons jn_int (jns_one (jn_join (K0 := K) jn_str (jn_v 0 (lA aS) (y := i.1))))))) (jns_one jn_str))))) (wk_all rfl) (jb_one (js_ret (JN.toE jn_bl (wk_all rfl))))
 (jb_lin (jl_set 2 G.nd (JN.toE (jn_cal (m := ((Rs.ok (1 : Int)).b fun x265 => ((Rs.ok ("\n" : Str)).b fun x263 => ((Rs.ok i.1).b fun x261 => ((Rs.ok ("" : Str)).b fun x260 => .ok [x260]).b fun x262 => opt (catO x261 x262)).b fun x264 => opt (joiO x263 x264)).b fun x266 => .ok (x265, x266))) G c_law_caught (jns_cons jn_int (jns_one (jn_join (K0 := K) jn_str (JN.frz (A := (oA aS)) (B := (lA aS)) (jn_cat (jn_v 0 (lA aS) (y := i.1)) (jn_lst (A := aS) (fun x260 => [x260]) (jns_one jn_str))) fun _ => FrzF.frz _))))) (wk_all rfl))) fun y259 =>
 (jb_ifv (Γ0 := fun _ => []) (jt_eq (jn_v 1 aS (y := i.2)) jn_str) (wk_all rfl) (jb_one (js_ret (JN.toE (jn_and (jn_isN (A := (aX cl)) (jn_part (K0 := K) (D := (aO (aX cl))) 0 (fun x270 => x270.1) (jn_v 2 (t2 (aO (aX cl)) (aO (aE (lA aI) (t2 (fTown cl) (lA aI))))) (y := y259)))) (jn_one (jn_eqD (K0 := K) G (jn_cst (A := (aE (lA aI) (t2 (fTown cl) (lA aI)))) (C := (lA aI)) (jn_get (A := (aE (lA aI) (t2 (fTown cl) (lA aI)))) (jn_part (K0 := K) (D := (aO (aE (lA aI) (t2 (fTown cl) (lA aI))))) 1 (fun x272 => x272.2) (jn_v 2 (t2 (aO (aX cl)) (aO (aE (lA aI) (t2 (fTown cl) (lA aI))))) (y := y259)))) (c_left (c_of t_id))) (JN.frz (A := (oA aI)) (B := (lA aI)) (jn_lst (A := aI) (fun _ => []) jns_nil) fun _ => FrzF.frz _)))) (wk_all rfl))))
 (jb_one (js_ret (JN.toE (jn_and (jn_cal (m := (((Rs.ok y259).b fun x277 => .ok x277.1).b fun x278 => (Rs.ok i.2).b fun x279 => .ok (x278, x279))) G c_law_refused (jns_cons (jn_part (K0 := K) (D := (aO (aX cl))) 0 (fun x277 => x277.1) (jn_v 2 (t2 (aO (aX cl)) (aO (aE (lA aI) (t2 (fTown cl) (lA aI))))) (y := y259))) (jns_one (jn_v 1 aS (y := i.2))))) (jn_one (jn_cal (m := (((((Rs.ok (1 : Int)).b fun x287 => ((Rs.ok ("\n" : Str)).b fun x285 => ((Rs.ok i.1).b fun x283 => (((Rs.ok ("" : Str)).b fun x280 => (Rs.ok ("signs" : Str)).b fun x281 => .ok (x280, x281)).b fun x282 => .ok [x282.1, x282.2]).b fun x284 => opt (catO x283 x284)).b fun x286 => opt (joiO x285 x286)).b fun x288 => .ok (x287, x288)).b m_law_caught).b fun x289 => .ok x289.1).b fun x290 => (Rs.ok i.2).b fun x291 => .ok (x290, x291))) G c_law_refused (jns_cons (jn_part (K0 := K) (T := (t2 (aO (aX cl)) (aO (aE (lA aI) (t2 (fTown cl) (lA aI)))))) (D := (aO (aX cl))) 0 (fun x289 => x289.1) (jn_cal (m := ((Rs.ok (1 : Int)).b fun x287 => ((Rs.ok ("\n" : Str)).b fun x285 => ((Rs.ok i.1).b fun x283 => (((Rs.ok ("" : Str)).b fun x280 => (Rs.ok ("signs" : Str)).b fun x281 => .ok (x280, x281)).b fun x282 => .ok [x282.1, x282.2]).b fun x284 => opt (catO x283 x284)).b fun x286 => opt (joiO x285 x286)).b fun x288 => .ok (x287, x288))) G c_law_caught (jns_cons jn_int (jns_one (jn_join (K0 := K) jn_str (JN.frz (A := (oA aS)) (B := (lA aS)) (jn_cat (jn_v 0 (lA aS) (y := i.1)) (jn_lst (A := aS) (fun x282 => [x282.1, x282.2]) (jns_cons jn_str (jns_one jn_str)))) fun _ => FrzF.frz _)))))) (jns_one (jn_v 1 aS (y := i.2))))))) (wk_all rfl))))))) rfl⟩), hm, kp, hb⟩
abbrev N_law_odd_head : List Str := ["cell", "some"]
def b_law_odd_head (i : Int) : Fl Unit Str Empty :=
 ((((Rs.ok ("" : Str)).b fun x306 => ((Rs.ok ("quarters" : Str)).b fun x304 => ((Rs.ok ("quarters " : Str)).b fun x302 => ((Rs.ok ("quarters 03" : Str)).b fun x300 => ((Rs.ok ("quarters 3 3" : Str)).b fun x298 => ((Rs.ok (" quarters 3" : Str)).b fun x296 => ((Rs.ok ("quarters 100" : Str)).b fun x294 => (Rs.ok ("Quarters 3" : Str)).b fun x295 => .ok (x294, x295)).b fun x297 => .ok (x296, x297)).b fun x299 => .ok (x298, x299)).b fun x301 => .ok (x300, x301)).b fun x303 => .ok (x302, x303)).b fun x305 => .ok (x304, x305)).b fun x307 => .ok (x306, x307)).b fun x308 => .ok [x308.1, x308.2.1, x308.2.2.1, x308.2.2.2.1, x308.2.2.2.2.1, x308.2.2.2.2.2.1, x308.2.2.2.2.2.2.1, x308.2.2.2.2.2.2.2]).f fun y293 =>
 (((Rs.ok y293).b fun x321 => (((Rs.ok ("quarters +3" : Str)).b fun x318 => ((Rs.ok ("quarters 1_0" : Str)).b fun x316 => ((Rs.ok ("quarters -3" : Str)).b fun x314 => ((Rs.ok ("3" : Str)).b fun x312 => ((Rs.ok ("bridge 0 1" : Str)).b fun x310 => (Rs.ok ("quarters three" : Str)).b fun x311 => .ok (x310, x311)).b fun x313 => .ok (x312, x313)).b fun x315 => .ok (x314, x315)).b fun x317 => .ok (x316, x317)).b fun x319 => .ok (x318, x319)).b fun x320 => .ok [x320.1, x320.2.1, x320.2.2.1, x320.2.2.2.1, x320.2.2.2.2.1, x320.2.2.2.2.2]).b fun x322 => opt (catO x321 x322)).f fun y309 =>
 (((Rs.ok y309).b fun x326 => ((Rs.ok i).b fun x324 => ((Rs.ok y309).b fun x323 => .ok (x323.length : Int)).b fun x325 => opt (modO x324 x325)).b fun x327 => opt (atI x326 x327)).f fun x328 => .rt x328)))
def m_law_odd_head (i : Int) : Rs Str := (b_law_odd_head i).fn (fun (e : Empty) => e.elim)
abbrev T_law_odd_head (P : Program) (w : World) (K : PySem.W.Frag) (mg : Str → Option Value) (base : Heap) (cl : String → Addr) : Prop := CalR P w K mg base cl 1 "_law_odd_head" ["cell"] (fun i => [aI i]) m_law_odd_head aS
theorem sc_law_odd_head : FnScope ["cell", "some"] ["cell"] (defScope (Hd.top 108)) := ⟨rfl, rfl, rfl, by decide +kernel, rfl, by decide +kernel, by decide +kernel⟩
theorem w_law_odd_head (fx : Fx K mg cl) (d : DefF K mg "_law_odd_head" (Hd.top 108) ["cell"]) : T_law_odd_head P w K mg base cl := by
  obtain ⟨f, fd, F, hm, kp, hb⟩ := d
  exact ⟨f, fd, fn_ok (Γn := fun _ => List.replicate 2 none) (Γb := fun _ => []) (d := (fun (e : Empty) => e.elim)) F sc_law_odd_head (fun _ => rfl) (fun (s : Empty) _ => s.elim) (fun cdv A outer s H E G i => ⟨_, JB.to (m := b_law_odd_head i) (jb_lin (jl_set 1 G.nd (JN.toE (JN.frz (A := (oA aS)) (B := (lA aS)) (jn_lst (A := aS) (fun x308 => [x308.1, x308.2.1, x308.2.2.1, x308.2.2.2.1, x308.2.2.2.2.1, x308.2.2.2.2.2.1, x308.2.2.2.2.2.2.1, x308.2.2.2.2.2.2.2]) (jns_cons jn_str (jns_cons jn_str (jns_cons jn_str (jns_cons jn_str (jns_cons jn_str (jns_cons jn_str (jns_cons jn_str (jns_one jn_str))))))))) fun _ => FrzF.frz _) (wk_all rfl))) fun y293 =>
 (jb_lin (jl_set 1 G.nd (JN.toE (JN.frz (A := (oA aS)) (B := (lA aS)) (jn_cat (jn_v 1 (lA aS) (y := y293)) (jn_lst (A := aS) (fun x320 => [x320.1, x320.2.1, x320.2.2.1, x320.2.2.2.1, x320.2.2.2.2.1, x320.2.2.2.2.2]) (jns_cons jn_str (jns_cons jn_str (jns_cons jn_str (jns_cons jn_str (jns_cons jn_str (jns_one jn_str)))))))) fun _ => FrzF.frz _) (wk_all rfl))) fun y309 =>
 (jb_one (js_ret (JN.toE (jn_ix (K0 := K) (jn_v 1 (lA aS) (y := y309)) (jn_mod (jn_v 0 aI (y := i)) (jn_len (K0 := K) fx.bt.len (jn_v 1 (lA aS) (y := y309))))) (wk_all rfl)))))) rfl⟩), hm, kp, hb⟩
abbrev N_law_odd_line : List Str := ["cell", "some"]
def b_law_odd_line (i : Int) : Fl Unit Str Empty :=
 ((((Rs.ok ("" : Str)).b fun x344 => ((Rs.ok (" " : Str)).b fun x342 => ((Rs.ok ("bridge" : Str)).b fun x340 => ((Rs.ok ("bridge 0" : Str)).b fun x338 => ((Rs.ok ("bridge 0 1 2 3" : Str)).b fun x336 => ((Rs.ok ("bridge  0 1" : Str)).b fun x334 => ((Rs.ok (" bridge 0 1" : Str)).b fun x332 => ((Rs.ok ("bridge 0 1 " : Str)).b fun x330 => (Rs.ok ("Bridge 0 1" : Str)).b fun x331 => .ok (x330, x331)).b fun x333 => .ok (x332, x333)).b fun x335 => .ok (x334, x335)).b fun x337 => .ok (x336, x337)).b fun x339 => .ok (x338, x339)).b fun x341 => .ok (x340, x341)).b fun x343 => .ok (x342, x343)).b fun x345 => .ok (x344, x345)).b fun x346 => .ok [x346.1, x346.2.1, x346.2.2.1, x346.2.2.2.1, x346.2.2.2.2.1, x346.2.2.2.2.2.1, x346.2.2.2.2.2.2.1, x346.2.2.2.2.2.2.2.1, x346.2.2.2.2.2.2.2.2]).f fun y329 =>
 (((Rs.ok y329).b fun x359 => (((Rs.ok ("bridge 00 1" : Str)).b fun x356 => ((Rs.ok ("bridge 0 01" : Str)).b fun x354 => ((Rs.ok ("bridge 0 1 01" : Str)).b fun x352 => ((Rs.ok ("bridge 0 100" : Str)).b fun x350 => ((Rs.ok ("bridge 100 0" : Str)).b fun x348 => (Rs.ok ("bridge +0 1" : Str)).b fun x349 => .ok (x348, x349)).b fun x351 => .ok (x350, x351)).b fun x353 => .ok (x352, x353)).b fun x355 => .ok (x354, x355)).b fun x357 => .ok (x356, x357)).b fun x358 => .ok [x358.1, x358.2.1, x358.2.2.1, x358.2.2.2.1, x358.2.2.2.2.1, x358.2.2.2.2.2]).b fun x360 => opt (catO x359 x360)).f fun y347 =>
 (((Rs.ok y347).b fun x373 => (((Rs.ok ("bridge 0 -1" : Str)).b fun x370 => ((Rs.ok ("bridge 0 1 +5" : Str)).b fun x368 => ((Rs.ok ("bridge 0 1_0 3" : Str)).b fun x366 => ((Rs.ok ("bridge 0 1 1_0" : Str)).b fun x364 => ((Rs.ok ("bridge 0 1 -0" : Str)).b fun x362 => (Rs.ok ("bridge 0,1" : Str)).b fun x363 => .ok (x362, x363)).b fun x365 => .ok (x364, x365)).b fun x367 => .ok (x366, x367)).b fun x369 => .ok (x368, x369)).b fun x371 => .ok (x370, x371)).b fun x372 => .ok [x372.1, x372.2.1, x372.2.2.1, x372.2.2.2.1, x372.2.2.2.2.1, x372.2.2.2.2.2]).b fun x374 => opt (catO x373 x374)).f fun y361 =>
 (((Rs.ok y361).b fun x391 => ((((Rs.ok ("bridge 0 1 " : Str)).b fun x378 => ((Rs.ok ("9" : Str)).b fun x376 => (Rs.ok (62 : Int)).b fun x377 => opt (smulO x376 x377)).b fun x379 => opt (sadO x378 x379)).b fun x388 => ((Rs.ok ("bridge 0 1 1.0" : Str)).b fun x386 => ((Rs.ok ("street 0 1" : Str)).b fun x384 => ((Rs.ok ("bridge 0 1 x" : Str)).b fun x382 => ((Rs.ok ("quarters 3" : Str)).b fun x380 => (Rs.ok ("bridge a b" : Str)).b fun x381 => .ok (x380, x381)).b fun x383 => .ok (x382, x383)).b fun x385 => .ok (x384, x385)).b fun x387 => .ok (x386, x387)).b fun x389 => .ok (x388, x389)).b fun x390 => .ok [x390.1, x390.2.1, x390.2.2.1, x390.2.2.2.1, x390.2.2.2.2.1, x390.2.2.2.2.2]).b fun x392 => opt (catO x391 x392)).f fun y375 =>
 (((Rs.ok y375).b fun x396 => ((Rs.ok i).b fun x394 => ((Rs.ok y375).b fun x393 => .ok (x393.length : Int)).b fun x395 => opt (modO x394 x395)).b fun x397 => opt (atI x396 x397)).f fun x398 => .rt x398)))))
def m_law_odd_line (i : Int) : Rs Str := (b_law_odd_line i).fn (fun (e : Empty) => e.elim)
abbrev T_law_odd_line (P : Program) (w : World) (K : PySem.W.Frag) (mg : Str → Option Value) (base : Heap) (cl : String → Addr) : Prop := CalR P w K mg base cl 1 "_law_odd_line" ["cell"] (fun i => [aI i]) m_law_odd_line aS
theorem sc_law_odd_line : FnScope ["cell", "some"] ["cell"] (defScope (Hd.top 107)) := ⟨rfl, rfl, rfl, by decide +kernel, rfl, by decide +kernel, by decide +kernel⟩
theorem w_law_odd_line (fx : Fx K mg cl) (d : DefF K mg "_law_odd_line" (Hd.top 107) ["cell"]) : T_law_odd_line P w K mg base cl := by
  obtain ⟨f, fd, F, hm, kp, hb⟩ := d
  exact ⟨f, fd, fn_ok (Γn := fun _ => List.replicate 2 none) (Γb := fun _ => []) (d := (fun (e : Empty) => e.elim)) F sc_law_odd_line (fun _ => rfl) (fun (s : Empty) _ => s.elim) (fun cdv A outer s H E G i => ⟨_, JB.to (m := b_law_odd_line i) (jb_lin (jl_set 1 G.nd (JN.toE (JN.frz (A := (oA aS)) (B := (lA aS)) (jn_lst (A := aS) (fun x346 => [x346.1, x346.2.1, x346.2.2.1, x346.2.2.2.1, x346.2.2.2.2.1, x346.2.2.2.2.2.1, x346.2.2.2.2.2.2.1, x346.2.2.2.2.2.2.2.1, x346.2.2.2.2.2.2.2.2]) (jns_cons jn_str (jns_cons jn_str (jns_cons jn_str (jns_cons jn_str (jns_cons jn_str (jns_cons jn_str (jns_cons jn_str (jns_cons jn_str (jns_one jn_str)))))))))) fun _ => FrzF.frz _) (wk_all rfl))) fun y329 =>
 (jb_lin (jl_set 1 G.nd (JN.toE (JN.frz (A := (oA aS)) (B := (lA aS)) (jn_cat (jn_v 1 (lA aS) (y := y329)) (jn_lst (A := aS) (fun x358 => [x358.1, x358.2.1, x358.2.2.1, x358.2.2.2.1, x358.2.2.2.2.1, x358.2.2.2.2.2]) (jns_cons jn_str (jns_cons jn_str (jns_cons jn_str (jns_cons jn_str (jns_cons jn_str (jns_one jn_str)))))))) fun _ => FrzF.frz _) (wk_all rfl))) fun y347 =>
 (jb_lin (jl_set 1 G.nd (JN.toE (JN.frz (A := (oA aS)) (B := (lA aS)) (jn_cat (jn_v 1 (lA aS) (y := y347)) (jn_lst (A := aS) (fun x372 => [x372.1, x372.2.1, x372.2.2.1, x372.2.2.2.1, x372.2.2.2.2.1, x372.2.2.2.2.2]) (jns_cons jn_str (jns_cons jn_str (jns_cons jn_str (jns_cons jn_str (jns_cons jn_str (jns_one jn_str)))))))) fun _ => FrzF.frz _) (wk_all rfl))) fun y361 =>
 (jb_lin (jl_set 1 G.nd (JN.toE (JN.frz (A := (oA aS)) (B := (lA aS)) (jn_cat (jn_v 1 (lA aS) (y := y361)) (jn_lst (A := aS) (fun x390 => [x390.1, x390.2.1, x390.2.2.1, x390.2.2.2.1, x390.2.2.2.2.1, x390.2.2.2.2.2]) (jns_cons (jn_sadd jn_str (jn_smul jn_str jn_int)) (jns_cons jn_str (jns_cons jn_str (jns_cons jn_str (jns_cons jn_str (jns_one jn_str)))))))) fun _ => FrzF.frz _) (wk_all rfl))) fun y375 =>
 (jb_one (js_ret (JN.toE (jn_ix (K0 := K) (jn_v 1 (lA aS) (y := y375)) (jn_mod (jn_v 0 aI (y := i)) (jn_len (K0 := K) fx.bt.len (jn_v 1 (lA aS) (y := y375))))) (wk_all rfl)))))))) rfl⟩), hm, kp, hb⟩
abbrev N_law_changed : List Str := ["lines", "quarters", "cell", "way", "at", "rest", "far", "near"]
def b_law_changed (i : (List Str) × Int × Int) : Fl Unit (Str × (List Str)) Empty :=
 (((Rs.ok i.2.2).b fun x400 => .ok (x400 % (12 : Int))).f fun y399 =>
 (((Rs.ok (1 : Int)).b fun x406 => (((Rs.ok i.2.2).b fun x402 => .ok (x402 / (12 : Int))).b fun x404 => ((Rs.ok i.1).b fun x403 => .ok (x403.length : Int)).b fun x405 => opt (modO x404 x405)).b fun x407 => .ok (x406 + x407)).f fun y401 =>
 ((((Rs.ok i.2.2).b fun x409 => .ok (x409 / (12 : Int))).b fun x411 => ((Rs.ok i.1).b fun x410 => .ok (x410.length : Int)).b fun x412 => opt (divO x411 x412)).f fun y408 =>
 ((((Rs.ok y408).b fun x414 => .ok (x414 / (100 : Int))).b fun x417 => ((Rs.ok (8 : Int)).b fun x415 => (Rs.ok ((10 : Int) ^ (60 : Int).toNat)).b fun x416 => opt (mulO x415 x416)).b fun x418 => opt (modO x417 x418)).f fun y413 =>
 (((Rs.ok y399).b fun x419 => (Rs.ok (0 : Int)).b fun x420 => .ok (decide (x419 = x420))).f fun b421 => if b421 = true then Fl.v (((Rs.ok ()).b fun x423 => ((Rs.ok y401).b fun x427 => ((Rs.ok y408).b m_law_odd_line).b fun x428 => .ok (x427, x428)).b fun x424 => (opt (insO i.1 x424)).b fun x425 => .ok (x425.1, x425.2)).f fun y422 =>
 ((Rs.ok ("BadText" : Str)).f fun x429 => .rt (x429, y422.2))) else
 ((andM ((Rs.ok y399).b fun x430 => (Rs.ok (1 : Int)).b fun x431 => .ok (decide (x430 = x431))) (((Rs.ok i.1).b fun x432 => (Rs.ok (0 : Int)).b fun x433 => opt (atI x432 x433)).b fun x435 => ((Rs.ok i.2.1).b fun x434 => opt (fsI "quarters " x434)).b fun x436 => .ok (decide (x435 = x436)))).f fun b437 => if b437 = true then Fl.v ((((Rs.ok y408).b m_law_odd_head).b fun x440 => (Rs.ok ()).b fun x439 => (Rs.ok (0 : Int)).b fun x441 => (setM i.1 x441 x440).b fun x442 => .ok x442).f fun y438 =>
 ((Rs.ok ("BadText" : Str)).f fun x443 => .rt (x443, y438))) else
 (((Rs.ok y399).b fun x444 => (Rs.ok (2 : Int)).b fun x445 => .ok (decide (x444 = x445))).f fun b446 => if b446 = true then Fl.v (((Rs.ok ()).b fun x448 => ((Rs.ok y401).b fun x459 => ((Rs.ok ("bridge 0 1 " : Str)).b fun x457 => ((((Rs.ok ((10 : Int) ^ (60 : Int).toNat)).b fun x452 => (Rs.ok (1 : Int)).b fun x453 => .ok (x452 + x453)).b fun x454 => (Rs.ok y413).b fun x455 => .ok (x454 + x455)).b fun x456 => opt (strO x456)).b fun x458 => opt (sadO x457 x458)).b fun x460 => .ok (x459, x460)).b fun x449 => (opt (insO i.1 x449)).b fun x450 => .ok (x450.1, x450.2)).f fun y447 =>
 (((Rs.ok i.2.1).b fun x461 => (Rs.ok (2 : Int)).b fun x462 => .ok (decide (x461 < x462))).f fun b463 => if b463 = true then Fl.v ((Rs.ok ("BadWages BadTown" : Str)).f fun x464 => .rt (x464, y447.2)) else
 ((Rs.ok ("BadWages" : Str)).f fun x465 => .rt (x465, y447.2)))) else
 (((Rs.ok y399).b fun x466 => (Rs.ok (3 : Int)).b fun x467 => .ok (decide (x466 = x467))).f fun b468 => if b468 = true then Fl.v (((Rs.ok ()).b fun x470 => ((Rs.ok y401).b fun x484 => (((Rs.ok ("bridge 0 " : Str)).b fun x480 => (((Rs.ok (99 : Int)).b fun x477 => ((Rs.ok i.2.1).b fun x475 => ((Rs.ok y408).b fun x474 => .ok (x474 % (75 : Int))).b fun x476 => .ok (x475 + x476)).b fun x478 => .ok (min x477 x478)).b fun x479 => opt (strO x479)).b fun x481 => opt (sadO x480 x481)).b fun x482 => (Rs.ok (" 1" : Str)).b fun x483 => opt (sadO x482 x483)).b fun x485 => .ok (x484, x485)).b fun x471 => (opt (insO i.1 x471)).b fun x472 => .ok (x472.1, x472.2)).f fun y469 =>
 ((Rs.ok ("BadTown" : Str)).f fun x486 => .rt (x486, y469.2))) else
 (((Rs.ok y399).b fun x487 => (Rs.ok (4 : Int)).b fun x488 => .ok (decide (x487 = x488))).f fun b489 => if b489 = true then Fl.v ((((Rs.ok y408).b fun x491 => .ok (x491 % (100 : Int))).b fun x492 => opt (strO x492)).f fun y490 =>
 (((Rs.ok ()).b fun x494 => ((Rs.ok y401).b fun x504 => ((((Rs.ok ("bridge " : Str)).b fun x498 => (Rs.ok y490).b fun x499 => opt (sadO x498 x499)).b fun x500 => (Rs.ok (" " : Str)).b fun x501 => opt (sadO x500 x501)).b fun x502 => (Rs.ok y490).b fun x503 => opt (sadO x502 x503)).b fun x505 => .ok (x504, x505)).b fun x495 => (opt (insO i.1 x495)).b fun x496 => .ok (x496.1, x496.2)).f fun y493 =>
 ((Rs.ok ("BadTown" : Str)).f fun x506 => .rt (x506, y493.2)))) else
 ((andM ((Rs.ok y399).b fun x507 => (Rs.ok (5 : Int)).b fun x508 => .ok (decide (x507 = x508))) (((Rs.ok i.1).b fun x509 => (Rs.ok (0 : Int)).b fun x510 => opt (atI x509 x510)).b fun x512 => ((Rs.ok i.2.1).b fun x511 => opt (fsI "quarters " x511)).b fun x513 => .ok (decide (x512 = x513)))).f fun b514 => if b514 = true then Fl.v ((((Rs.ok ("quarters " : Str)).b fun x532 => (((((Rs.ok (0 : Int)).b fun x525 => ((Rs.ok (25 : Int)).b fun x523 => ((Rs.ok (26 : Int)).b fun x521 => ((Rs.ok y408).b fun x520 => .ok (x520 % (74 : Int))).b fun x522 => .ok (x521 + x522)).b fun x524 => .ok (x523, x524)).b fun x526 => .ok (x525, x526)).b fun x527 => .ok [x527.1, x527.2.1, x527.2.2]).b fun x529 => ((Rs.ok y408).b fun x528 => .ok (x528 % (3 : Int))).b fun x530 => opt (atI x529 x530)).b fun x531 => opt (strO x531)).b fun x533 => opt (sadO x532 x533)).b fun x517 => (Rs.ok ()).b fun x516 => (Rs.ok (0 : Int)).b fun x518 => (setM i.1 x518 x517).b fun x519 => .ok x519).f fun y515 =>
 ((Rs.ok ("BadTown" : Str)).f fun x534 => .rt (x534, y515))) else
 ((Rs.ok ("" : Str)).f fun x535 => .rt (x535, i.1))))))))))))
def m_law_changed (i : (List Str) × Int × Int) : Rs (Str × (List Str)) := (b_law_changed i).fn (fun (e : Empty) => e.elim)
abbrev T_law_changed (P : Program) (w : World) (K : PySem.W.Frag) (mg : Str → Option Value) (base : Heap) (cl : String → Addr) : Prop := CalRO P w K mg base cl 2 "_law_changed" ["lines", "quarters", "cell"] [0] (fun i => [(oA aS) i.1, aI i.2.1, aI i.2.2]) m_law_changed (fun r => aS r.1) (fun r => [(oA aS) r.2])
theorem sc_law_changed : FnScope ["lines", "quarters", "cell", "way", "at", "rest", "far", "near"] ["lines", "quarters", "cell"] (defScope (Hd.top 110)) := ⟨rfl, rfl, rfl, by decide +kernel, rfl, by decide +kernel, by decide +kernel⟩
theorem w_law_changed (fx : Fx K mg cl) (d : DefF K mg "_law_changed" (Hd.top 110) ["lines", "quarters", "cell"]) (c_law_odd_head : T_law_odd_head P w K mg base cl) (c_law_odd_line : T_law_odd_line P w K mg base cl) : T_law_changed P w K mg base cl := by
  obtain ⟨f, fd, F, hm, kp, hb⟩ := d
  exact ⟨f, fd, fn_okO (io := [0]) (Γn := (fun _ _ => [])) (Γb := fun _ => []) (d := (fun (e : Empty) => e.elim)) F sc_law_changed (fun _ => rfl) (fun vf (s : Empty) => s.elim) (fun cdv A outer s H E G i vf => ⟨_, JB.to (m := b_law_changed i) (jb_lin (jl_set 3 G.nd (JN.toE (jn_modc (jn_v 2 aI (y := i.2.2)) jn_int) (wk_all rfl))) fun y399 =>
 (jb_lin (jl_set 4 G.nd (JN.toE (jn_bor 0 (B := (fun z => atv (vf 0) ((oA aS) z))) (y := i.1) (jn_add jn_int (jn_mod (jn_divc (jn_v 2 aI (y := i.2.2)) jn_int) (jn_len (K0 := K) fx.bt.len (jn_v 0 (lA aS) (y := i.1)))))) (wk_all rfl))) fun y401 =>
 (jb_lin (jl_set 5 G.nd (JN.toE (jn_bor 0 (B := (fun z => atv (vf 0) ((oA aS) z))) (y := i.1) (jn_div (jn_divc (jn_v 2 aI (y := i.2.2)) jn_int) (jn_len (K0 := K) fx.bt.len (jn_v 0 (lA aS) (y := i.1))))) (wk_all rfl))) fun y408 =>
 (jb_lin (jl_set 6 G.nd (JN.toE (jn_mod (jn_divc (jn_v 5 aI (y := y408)) jn_int) (jn_mul jn_int (jn_powc jn_int jn_int))) (wk_all rfl))) fun y413 =>
 (jb_ifv (Γ0 := fun _ => []) (jt_eq (jn_v 3 aI (y := y399)) jn_int) (wk_all rfl) (jb_lin (jl_expr (je_lm (K0 := K) (C := aU) insO PySem.F.slot_list_insert PySem.F.type_list_insert mt_insert op_ins (wk_all rfl) (jp_slot 0 (some (vf 0)) (oA aS) (d0 := i.1)) (jns_cons (jn_v 4 aI (y := y401)) (jns_one (jn_cal (m := (Rs.ok y408)) G c_law_odd_line (jns_one (jn_v 5 aI (y := y408)))))))) fun y422 =>
 (jb_one (js_retO (fun x429 => (x429, y422.2)) (JN.toE jn_str (wk_all rfl)) (fun _ => (.cons rfl .nil)))))
 (jb_ifv (Γ0 := fun _ => []) (jt_bor 0 (B := (fun z => atv (vf 0) ((oA aS) z))) (y := i.1) (JW.t (jw_and (jt_eq (jn_v 3 aI (y := y399)) jn_int) (jw_and1 (jt_eq (jn_ix (K0 := K) (jn_v 0 (lA aS) (y := i.1)) jn_int) (jn_fsI (x := "quarters ") (jn_v 1 aI (y := i.2.1)))))))) (wk_all rfl) (jb_lin (jl_put (wk_all rfl) (jn_cal (m := (Rs.ok y408)) G c_law_odd_head (jns_one (jn_v 5 aI (y := y408)))) (jp_slot 0 (some (vf 0)) (oA aS) (d0 := i.1)) jn_int) fun y438 =>
 (jb_one (js_retO (fun x443 => (x443, y438)) (JN.toE jn_str (wk_all rfl)) (fun _ => (.cons rfl .nil)))))
 (jb_ifv (Γ0 := fun _ => []) (jt_eq (jn_v 3 aI (y := y399)) jn_int) (wk_all rfl) (jb_lin (jl_expr (je_lm (K0 := K) (C := aU) insO PySem.F.slot_list_insert PySem.F.type_list_insert mt_insert op_ins (wk_all rfl) (jp_slot 0 (some (vf 0)) (oA aS) (d0 := i.1)) (jns_cons (jn_v 4 aI (y := y401)) (jns_one (jn_sadd jn_str (jn_strI fx.bt.str (jn_add (jn_add (jn_powc jn_int jn_int) jn_int) (jn_v 6 aI (y := y413))))))))) fun y447 =>
 (jb_ifv (Γ0 := fun _ => []) (jt_lt (jn_v 1 aI (y := i.2.1)) jn_int) (wk_all rfl) (jb_one (js_retO (fun x464 => (x464, y447.2)) (JN.toE jn_str (wk_all rfl)) (fun _ => (.cons rfl .nil))))
 (jb_one (js_retO (fun x465 => (x465, y447.2)) (JN.toE jn_str (wk_all rfl)) (fun _ => (.cons rfl .nil))))))
 (jb_ifv (Γ0 := fun _ => []) (jt_eq (jn_v 3 aI (y := y399)) jn_int) (wk_all rfl) (jb_lin (jl_expr (je_lm (K0 := K) (C := aU) insO PySem.F.slot_list_insert PySem.F.type_list_insert mt_insert op_ins (wk_all rfl) (jp_slot 0 (some (vf 0)) (oA aS) (d0 := i.1)) (jns_cons (jn_v 4 aI (y := y401)) (jns_one (jn_sadd (jn_sadd jn_str (jn_strI fx.bt.str (jn_min2 G fx.bt.min jn_int (jn_add (jn_v 1 aI (y := i.2.1)) (jn_modc (jn_v 5 aI (y := y408)) jn_int))))) jn_str))))) fun y469 =>
 (jb_one (js_retO (fun x486 => (x486, y469.2)) (JN.toE jn_str (wk_all rfl)) (fun _ => (.cons rfl .nil)))))
 (jb_ifv (Γ0 := fun _ => []) (jt_eq (jn_v 3 aI (y := y399)) jn_int) (wk_all rfl) (jb_lin (jl_set 7 G.nd (JN.toE (jn_strI fx.bt.str (jn_modc (jn_v 5 aI (y := y408)) jn_int)) (wk_all rfl))) fun y490 =>
 (jb_lin (jl_expr (je_lm (K0 := K) (C := aU) insO PySem.F.slot_list_insert PySem.F.type_list_insert mt_insert op_ins (wk_all rfl) (jp_slot 0 (some (vf 0)) (oA aS) (d0 := i.1)) (jns_cons (jn_v 4 aI (y := y401)) (jns_one (jn_sadd (jn_sadd (jn_sadd jn_str (jn_v 7 aS (y := y490))) jn_str) (jn_v 7 aS (y := y490))))))) fun y493 =>
 (jb_one (js_retO (fun x506 => (x506, y493.2)) (JN.toE jn_str (wk_all rfl)) (fun _ => (.cons rfl .nil))))))
 (jb_ifv (Γ0 := fun _ => []) (jt_bor 0 (B := (fun z => atv (vf 0) ((oA aS) z))) (y := i.1) (JW.t (jw_and (jt_eq (jn_v 3 aI (y := y399)) jn_int) (jw_and1 (jt_eq (jn_ix (K0 := K) (jn_v 0 (lA aS) (y := i.1)) jn_int) (jn_fsI (x := "quarters ") (jn_v 1 aI (y := i.2.1)))))))) (wk_all rfl) (jb_lin (jl_put (wk_all rfl) (jn_sadd jn_str (jn_strI fx.bt.str (jn_ix (K0 := K) (jn_lst (A := aI) (fun x527 => [x527.1, x527.2.1, x527.2.2]) (jns_cons jn_int (jns_cons jn_int (jns_one (jn_add jn_int (jn_modc (jn_v 5 aI (y := y408)) jn_int)))))) (jn_modc (jn_v 5 aI (y := y408)) jn_int)))) (jp_slot 0 (some (vf 0)) (oA aS) (d0 := i.1)) jn_int) fun y515 =>
 (jb_one (js_retO (fun x534 => (x534, y515)) (JN.toE jn_str (wk_all rfl)) (fun _ => (.cons rfl .nil)))))
 (jb_one (js_retO (fun x535 => (x535, i.1)) (JN.toE jn_str (wk_all rfl)) (fun _ => (.cons rfl .nil)))))))))))))) rfl⟩), hm, kp, hb⟩
abbrev N_law_lines : List Str := ["quarters", "pairs", "wages", "lines", "k"]
def b_law_lines (i : Int × (List (Int × Int)) × (List Int)) : Fl Unit (List Str) Empty :=
 ((((Rs.ok ("quarters " : Str)).b fun x538 => ((Rs.ok i.1).b fun x537 => opt (strO x537)).b fun x539 => opt (sadO x538 x539)).b fun x540 => .ok [x540]).f fun y536 =>
 (Fl.b ((((Rs.ok i.2.1).b fun x541 => .ok (x541.length : Int)).b fun x542 => opt (rngO 0 x542)).f fun xs570 => forM (fun (s543 : (List Str)) (v544 : Int) => (((Rs.ok ()).b fun x546 => ((Rs.ok (" " : Str)).b fun x567 => (((Rs.ok ("bridge" : Str)).b fun x564 => (((((Rs.ok i.2.1).b fun x549 => (Rs.ok v544).b fun x550 => opt (atI x549 x550)).b fun x551 => .ok x551.1).b fun x552 => opt (strO x552)).b fun x562 => (((((Rs.ok i.2.1).b fun x553 => (Rs.ok v544).b fun x554 => opt (atI x553 x554)).b fun x555 => .ok x555.2).b fun x556 => opt (strO x556)).b fun x560 => (((Rs.ok i.2.2).b fun x557 => (Rs.ok v544).b fun x558 => opt (atI x557 x558)).b fun x559 => opt (strO x559)).b fun x561 => .ok (x560, x561)).b fun x563 => .ok (x562, x563)).b fun x565 => .ok (x564, x565)).b fun x566 => .ok [x566.1, x566.2.1, x566.2.2.1, x566.2.2.2]).b fun x568 => opt (joiO x567 x568)).b fun x547 => (appM s543 x547).b fun x548 => .ok x548).f fun y545 =>
 (.nx y545))) xs570 y536) fun (s543 : (List Str)) =>
 ((Rs.ok s543).f fun x569 => .rt x569)))
def m_law_lines (i : Int × (List (Int × Int)) × (List Int)) : Rs (List Str) := (b_law_lines i).fn (fun (e : Empty) => e.elim)
abbrev T_law_lines (P : Program) (w : World) (K : PySem.W.Frag) (mg : Str → Option Value) (base : Heap) (cl : String → Addr) : Prop := CalR P w K mg base cl 1 "_law_lines" ["quarters", "pairs", "wages"] (fun i => [aI i.1, (lA (t2 aI aI)) i.2.1, (lA aI) i.2.2]) m_law_lines (oA aS)
theorem sc_law_lines : FnScope ["quarters", "pairs", "wages", "lines", "k"] ["quarters", "pairs", "wages"] (defScope (Hd.top 109)) := ⟨rfl, rfl, rfl, by decide +kernel, rfl, by decide +kernel, by decide +kernel⟩
theorem w_law_lines (fx : Fx K mg cl) (d : DefF K mg "_law_lines" (Hd.top 109) ["quarters", "pairs", "wages"]) : T_law_lines P w K mg base cl := by
  obtain ⟨f, fd, F, hm, kp, hb⟩ := d
  exact ⟨f, fd, fn_ok (Γn := fun _ => List.replicate 5 none) (Γb := fun _ => []) (d := (fun (e : Empty) => e.elim)) F sc_law_lines (fun _ => rfl) (fun (s : Empty) _ => s.elim) (fun cdv A outer s H E G i => ⟨_, JB.to (m := b_law_lines i) (jb_lin (jl_set 3 G.nd (JN.toE (jn_lst (A := aS) (fun x540 => [x540]) (jns_one (jn_sadd jn_str (jn_strI fx.bt.str (jn_v 0 aI (y := i.1)))))) (wk_all rfl))) fun y536 =>
 (jb_cons (Γu := fun (s543 : (List Str)) => [none, some ((lA (t2 aI aI)) i.2.1), some ((lA aI) i.2.2), some ((oA aS) s543), none]) (js_for (Γl := fun (s543 : (List Str)) => [none, some ((lA (t2 aI aI)) i.2.1), some ((lA aI) i.2.2), some ((oA aS) s543), none]) (Γt := fun (s543 : (List Str)) (v544 : Int) => [none, some ((lA (t2 aI aI)) i.2.1), some ((lA aI) i.2.2), some ((oA aS) s543), some (aI v544)]) (s0 := y536) (L := [4]) G (ji_range fx.bt.range (jn_len (K0 := K) fx.bt.len (jn_v 1 (lA (t2 aI aI)) (y := i.2.1)))) (wk_all rfl) (.kill (.keep (.keep (.keep (.keep .nil))))) (fun s543 => (jg_name 4 G.nd)) (fun s543 v544 => (jb_lin (jl_app (K0 := K) (wk_all rfl) (jp_slot 3 none (oA aS) (d0 := s543)) (jn_join (K0 := K) jn_str (JN.frz (A := (oA aS)) (B := (lA aS)) (jn_lst (A := aS) (fun x566 => [x566.1, x566.2.1, x566.2.2.1, x566.2.2.2]) (jns_cons jn_str (jns_cons (jn_strI fx.bt.str (jn_part (K0 := K) (D := aI) 0 (fun x551 => x551.1) (jn_ix (K0 := K) (jn_v 1 (lA (t2 aI aI)) (y := i.2.1)) (jn_v 4 aI (y := v544))))) (jns_cons (jn_strI fx.bt.str (jn_part (K0 := K) (D := aI) 1 (fun x555 => x555.2) (jn_ix (K0 := K) (jn_v 1 (lA (t2 aI aI)) (y := i.2.1)) (jn_v 4 aI (y := v544))))) (jns_one (jn_strI fx.bt.str (jn_ix (K0 := K) (jn_v 2 (lA aI) (y := i.2.2)) (jn_v 4 aI (y := v544))))))))) fun _ => FrzF.frz _))) fun y545 =>
 (jb_nil (.keep (.keep (.keep (.keep (.kill .nil))))))))) fun s543 =>
 (jb_one (js_ret (je_move 3 (oA aS) (y := s543)))))) rfl⟩), hm, kp, hb⟩
abbrev N_law_at : List Str := ["script", "k"]
def b_law_at (i : (List Int) × Int) : Fl Unit Int Empty :=
 (((Rs.ok i.2).b fun x572 => ((Rs.ok i.1).b fun x571 => .ok (x571.length : Int)).b fun x573 => .ok (decide (x572 < x573))).f fun b574 => if b574 = true then Fl.v (((Rs.ok i.1).b fun x575 => (Rs.ok i.2).b fun x576 => opt (atI x575 x576)).f fun x577 => .rt x577) else
 ((Rs.ok (0 : Int)).f fun x578 => .rt x578))
def m_law_at (i : (List Int) × Int) : Rs Int := (b_law_at i).fn (fun (e : Empty) => e.elim)
abbrev T_law_at (P : Program) (w : World) (K : PySem.W.Frag) (mg : Str → Option Value) (base : Heap) (cl : String → Addr) : Prop := CalR P w K mg base cl 1 "_law_at" ["script", "k"] (fun i => [(lA aI) i.1, aI i.2]) m_law_at aI
theorem sc_law_at : FnScope ["script", "k"] ["script", "k"] (defScope (Hd.top 105)) := ⟨rfl, rfl, rfl, by decide +kernel, rfl, by decide +kernel, by decide +kernel⟩
theorem w_law_at (fx : Fx K mg cl) (d : DefF K mg "_law_at" (Hd.top 105) ["script", "k"]) : T_law_at P w K mg base cl := by
  obtain ⟨f, fd, F, hm, kp, hb⟩ := d
  exact ⟨f, fd, fn_ok (Γn := fun _ => List.replicate 2 none) (Γb := fun _ => []) (d := (fun (e : Empty) => e.elim)) F sc_law_at (fun _ => rfl) (fun (s : Empty) _ => s.elim) (fun cdv A outer s H E G i => ⟨_, JB.to (m := b_law_at i) (jb_ifv (Γ0 := fun _ => []) (jt_lt (jn_v 1 aI (y := i.2)) (jn_len (K0 := K) fx.bt.len (jn_v 0 (lA aI) (y := i.1)))) (wk_all rfl) (jb_one (js_ret (JN.toE (jn_ix (K0 := K) (jn_v 0 (lA aI) (y := i.1)) (jn_v 1 aI (y := i.2))) (wk_all rfl))))
 (jb_one (js_ret (JN.toE jn_int (wk_all rfl))))) rfl⟩), hm, kp, hb⟩
abbrev N_law_town : List Str := ["script", "head", "quarters", "pairs", "wages", "cell", "number", "one"]
def b_law_town (i : (List Int)) : Fl Unit (Int × (List (Int × Int)) × (List Int)) Empty :=
 ((((Rs.ok i).b fun x580 => (Rs.ok (0 : Int)).b fun x581 => .ok (x580, x581)).b m_law_at).f fun y579 =>
 (((Rs.ok (2 : Int)).b fun x584 => ((Rs.ok y579).b fun x583 => .ok (x583 % (6 : Int))).b fun x585 => .ok (x584 + x585)).f fun y582 =>
 (Fl.b (((((Rs.ok y579).b fun x586 => .ok (x586 / (6 : Int))).b fun x587 => .ok (x587 % (5 : Int))).b fun x588 => (Rs.ok (1 : Int)).b fun x589 => .ok (decide (x588 = x589))).f fun b590 => if b590 = true then (((Rs.ok (1 : Int)).b fun x595 => (((Rs.ok y579).b fun x593 => .ok (x593 / (30 : Int))).b fun x594 => .ok (x594 % (24 : Int))).b fun x596 => .ok (x595 + x596)).f fun y592 =>
 (.nx y592)) else (.nx y582)) fun (s591 : Int) =>
 (((Rs.ok ()).b fun _ => .ok ([] : List (Int × Int))).f fun y597 =>
 (((Rs.ok ()).b fun _ => .ok ([] : List Int)).f fun y598 =>
 (Fl.b (((Rs.ok s591).b fun x599 => (Rs.ok (1 : Int)).b fun x600 => .ok (decide (x600 < x599))).f fun b601 => if b601 = true then (Fl.b (((Rs.ok i).b fun x605 => ((Rs.ok (1 : Int)).b fun x603 => .ok (some x603)).b fun x606 => ((Rs.ok (61 : Int)).b fun x604 => .ok (some x604)).b fun x607 => .ok (cut x605 x606 x607)).f fun xs647 => forM (fun (s608 : (List (Int × Int)) × (List Int)) (v609 : Int) => (((Rs.ok v609).b fun x611 => .ok (x611 % ((10 : Int) ^ (61 : Int).toNat))).f fun y610 =>
 (((Rs.ok y610).b fun x613 => (Rs.ok s591).b fun x614 => opt (modO x613 x614)).f fun y612 =>
 (((Rs.ok y610).b fun x616 => (Rs.ok s591).b fun x617 => opt (divO x616 x617)).f fun y615 =>
 (((Rs.ok ()).b fun x619 => (((Rs.ok y612).b fun x632 => ((((Rs.ok y612).b fun x622 => (Rs.ok (1 : Int)).b fun x623 => .ok (x622 + x623)).b fun x628 => ((Rs.ok y615).b fun x626 => ((Rs.ok s591).b fun x624 => (Rs.ok (1 : Int)).b fun x625 => .ok (x624 - x625)).b fun x627 => opt (modO x626 x627)).b fun x629 => .ok (x628 + x629)).b fun x630 => (Rs.ok s591).b fun x631 => opt (modO x630 x631)).b fun x633 => .ok (x632, x633)).b fun x634 => .ok x634).b fun x620 => (appM s608.1 x620).b fun x621 => .ok x621).f fun y618 =>
 (((Rs.ok ()).b fun x636 => (((Rs.ok y615).b fun x641 => ((Rs.ok s591).b fun x639 => (Rs.ok (1 : Int)).b fun x640 => .ok (x639 - x640)).b fun x642 => opt (divO x641 x642)).b fun x645 => ((Rs.ok ((10 : Int) ^ (60 : Int).toNat)).b fun x643 => (Rs.ok (1 : Int)).b fun x644 => .ok (x643 + x644)).b fun x646 => opt (modO x645 x646)).b fun x637 => (appM s608.2 x637).b fun x638 => .ok x638).f fun y635 =>
 (.nx (y618, y635)))))))) xs647 (y597, y598)) fun (s608 : (List (Int × Int)) × (List Int)) =>
 (.nx (s608.1, s608.2))) else (.nx (y597, y598))) fun (s602 : (List (Int × Int)) × (List Int)) =>
 ((((Rs.ok s591).b fun x648 => ((Rs.ok s602.1).b fun x649 => ((Rs.ok s602.2).b fun x650 => (Rs.ok ()).b fun x651 => .ok (x650, x651)).b fun x652 => .ok (x649, x652)).b fun x653 => .ok (x648, x653)).b fun x654 => .ok (x654.1, x654.2.1, x654.2.2.1)).f fun x655 => .rt x655)))))))
def m_law_town (i : (List Int)) : Rs (Int × (List (Int × Int)) × (List Int)) := (b_law_town i).fn (fun (e : Empty) => e.elim)
abbrev T_law_town (P : Program) (w : World) (K : PySem.W.Frag) (mg : Str → Option Value) (base : Heap) (cl : String → Addr) : Prop := CalR P w K mg base cl 2 "_law_town" ["script"] (fun i => [(lA aI) i]) m_law_town (t3 aI (lA (t2 aI aI)) (lA aI))
theorem sc_law_town : FnScope ["script", "head", "quarters", "pairs", "wages", "cell", "number", "one"] ["script"] (defScope (Hd.top 106)) := ⟨rfl, rfl, rfl, by decide +kernel, rfl, by decide +kernel, by decide +kernel⟩
theorem w_law_town (fx : Fx K mg cl) (d : DefF K mg "_law_town" (Hd.top 106) ["script"]) (c_law_at : T_law_at P w K mg base cl) : T_law_town P w K mg base cl := by
  obtain ⟨f, fd, F, hm, kp, hb⟩ := d
  exact ⟨f, fd, fn_ok (Γn := fun _ => List.replicate 8 none) (Γb := fun _ => []) (d := (fun (e : Empty) => e.elim)) F sc_law_town (fun _ => rfl) (fun (s : Empty) _ => s.elim) (fun cdv A outer s H E G i => ⟨_, JB.to (m := b_law_town i) (jb_lin (jl_set 1 G.nd (JN.toE (jn_cal (m := ((Rs.ok i).b fun x580 => (Rs.ok (0 : Int)).b fun x581 => .ok (x580, x581))) G c_law_at (jns_cons (jn_v 0 (lA aI) (y := i)) (jns_one jn_int))) (wk_all rfl))) fun y579 =>
 (jb_lin (jl_set 2 G.nd (JN.toE (jn_add jn_int (jn_modc (jn_v 1 aI (y := y579)) jn_int)) (wk_all rfl))) fun y582 =>
 (jb_cons (Γu := fun (s591 : Int) => [some ((lA aI) i), none, some (aI s591), none, none, none, none, none]) (js_if (jt_eq (jn_modc (jn_divc (jn_v 1 aI (y := y579)) jn_int) jn_int) jn_int) (wk_all rfl) (jb_lin (jl_set 2 G.nd (JN.toE (jn_add jn_int (jn_modc (jn_divc (jn_v 1 aI (y := y579)) jn_int) jn_int)) (wk_all rfl))) fun y592 =>
 (jb_nil (.keep (.kill (.keep (.keep (.keep (.keep (.keep (.keep .nil)))))))))) (jb_nil (.keep (.kill (.keep (.keep (.keep (.keep (.keep (.keep .nil)))))))))) fun s591 =>
 (jb_lin (jl_set 3 G.nd (JN.toE (jn_lst (A := (t2 aI aI)) (fun _ => []) jns_nil) (wk_all rfl))) fun y597 =>
 (jb_lin (jl_set 4 G.nd (JN.toE (jn_lst (A := aI) (fun _ => []) jns_nil) (wk_all rfl))) fun y598 =>
 (jb_cons (Γu := fun (s602 : (List (Int × Int)) × (List Int)) => [none, none, some (aI s591), some ((oA (t2 aI aI)) s602.1), some ((oA aI) s602.2), none, none, none]) (js_if (jt_gt (jn_v 2 aI (y := s591)) jn_int) (wk_all rfl) (jb_cons (Γu := fun (s608 : (List (Int × Int)) × (List Int)) => [none, none, some (aI s591), some ((oA (t2 aI aI)) s608.1), some ((oA aI) s608.2), none, none, none]) (js_for (Γl := fun (s608 : (List (Int × Int)) × (List Int)) => [none, none, some (aI s591), some ((oA (t2 aI aI)) s608.1), some ((oA aI) s608.2), none, none, none]) (Γt := fun (s608 : (List (Int × Int)) × (List Int)) (v609 : Int) => [none, none, some (aI s591), some ((oA (t2 aI aI)) s608.1), some ((oA aI) s608.2), some (aI v609), none, none]) (s0 := (y597, y598)) (L := [5]) G (ji_list (K0 := K) (jn_slice (K0 := K) (jn_v 0 (lA aI) (y := i)) (jo_some jn_int) (jo_some jn_int))) (wk_all rfl) (.kill (.keep (.keep (.keep (.keep (.keep (.keep (.keep .nil)))))))) (fun s608 => (jg_name 5 G.nd)) (fun s608 v609 => (jb_lin (jl_set 6 G.nd (JN.toE (jn_modc (jn_v 5 aI (y := v609)) (jn_powc jn_int jn_int)) (wk_all rfl))) fun y610 =>
 (jb_lin (jl_set 7 G.nd (JN.toE (jn_mod (jn_v 6 aI (y := y610)) (jn_v 2 aI (y := s591))) (wk_all rfl))) fun y612 =>
 (jb_lin (jl_set 6 G.nd (JN.toE (jn_div (jn_v 6 aI (y := y610)) (jn_v 2 aI (y := s591))) (wk_all rfl))) fun y615 =>
 (jb_lin (jl_app (K0 := K) (wk_all rfl) (jp_slot 3 none (oA (t2 aI aI)) (d0 := s608.1)) (JN.frz (A := (o2 aI aI)) (B := (t2 aI aI)) (jn_tup (C := (o2 aI aI)) (fun x634 => x634) (jns_cons (jn_v 7 aI (y := y612)) (jns_one (jn_mod (jn_add (jn_add (jn_v 7 aI (y := y612)) jn_int) (jn_mod (jn_v 6 aI (y := y615)) (jn_sub (jn_v 2 aI (y := s591)) jn_int))) (jn_v 2 aI (y := s591)))))) fun _ => FrzF.frz _)) fun y618 =>
 (jb_lin (jl_app (K0 := K) (wk_all rfl) (jp_slot 4 none (oA aI) (d0 := s608.2)) (jn_mod (jn_div (jn_v 6 aI (y := y615)) (jn_sub (jn_v 2 aI (y := s591)) jn_int)) (jn_add (jn_powc jn_int jn_int) jn_int))) fun y635 =>
 (jb_nil (.keep (.keep (.keep (.keep (.keep (.kill (.kill (.kill .nil)))))))))))))))) fun s608 =>
 (jb_nil (.keep (.keep (.keep (.keep (.keep (.keep (.keep (.keep .nil)))))))))) (jb_nil (.kill (.keep (.keep (.keep (.keep (.keep (.keep (.keep .nil)))))))))) fun s602 =>
 (jb_one (js_ret (JE.frz (A := (o3 aI (lA (t2 aI aI)) (lA aI))) (A' := (t3 aI (lA (t2 aI aI)) (lA aI))) (je_tup (C := (o3 aI (lA (t2 aI aI)) (lA aI))) (fun (x654 : Int × (List (Int × Int)) × (List Int) × Unit) => (x654.1, x654.2.1, x654.2.2.1)) (Γ2 := fun _ => [none, none, some (aI s591), none, none, none, none, none]) (jes_cons (JN.toE (jn_v 2 aI (y := s591)) (wk_all rfl)) fun x648 => (jes_cons (JE.frz (A := (oA (t2 aI aI))) (A' := (lA (t2 aI aI))) (je_move 3 (oA (t2 aI aI)) (y := s602.1)) fun _ => FrzF.frz _) fun x649 => (jes_cons (JE.frz (A := (oA aI)) (A' := (lA aI)) (je_move 4 (oA aI) (y := s602.2)) fun _ => FrzF.frz _) fun x650 => (jes_nil))))) fun _ => FrzF.frz _))))))))) rfl⟩), hm, kp, hb⟩
abbrev N_law : List Str := ["script", "lines", "number", "cell", "due", "k", "first", "word", "quarters", "pairs", "wages", "caught", "found"]
def b_law (i : (List Int)) : Fl Unit Bool Empty :=
 ((((Rs.ok i).b fun x658 => (Rs.ok (none : Option Int)).b fun x659 => ((Rs.ok (31 : Int)).b fun x657 => .ok (some x657)).b fun x660 => .ok (cut x658 x659 x660)).b m_law_town).f fun y656 =>
 ((((Rs.ok y656.1).b fun x664 => ((Rs.ok y656.2.1).b fun x662 => (Rs.ok y656.2.2).b fun x663 => .ok (x662, x663)).b fun x665 => .ok (x664, x665)).b m_law_lines).f fun y661 =>
 ((Rs.ok (3 : Int)).f fun y666 =>
 (Fl.b ((Rs.ok i).f fun xs755 => forM (fun (s667 : Int) (v668 : Int) => (((((Rs.ok s667).b fun x670 => .ok (x670 * (48271 : Int))).b fun x671 => (Rs.ok v668).b fun x672 => .ok (x671 + x672)).b fun x675 => ((Rs.ok ((10 : Int) ^ (61 : Int).toNat)).b fun x673 => (Rs.ok (7 : Int)).b fun x674 => .ok (x673 + x674)).b fun x676 => opt (modO x675 x676)).f fun y669 =>
 (.nx y669))) xs755 y666) fun (s667 : Int) =>
 ((Rs.ok ("" : Str)).f fun y677 =>
 (Fl.b ((((Rs.ok s667).b fun x678 => .ok (x678 % (4 : Int))).b fun x679 => opt (rngO 0 x679)).f fun xs754 => forM (fun (s680 : (List Str) × Str) (v681 : Int) => ((((Rs.ok s680.2).b fun x683 => (Rs.ok (" " : Str)).b fun x684 => opt (sadO x683 x684)).b fun x701 => (((Rs.ok ()).b fun x699 => ((Rs.ok y656.1).b fun x697 => ((Rs.ok s667).b fun x693 => ((((Rs.ok (4 : Int)).b fun x688 => ((Rs.ok ((10 : Int) ^ (6 : Int).toNat)).b fun x686 => (Rs.ok ((10 : Int) ^ (12 : Int).toNat)).b fun x687 => .ok (x686, x687)).b fun x689 => .ok (x688, x689)).b fun x690 => .ok [x690.1, x690.2.1, x690.2.2]).b fun x691 => (Rs.ok v681).b fun x692 => opt (atI x691 x692)).b fun x694 => opt (divO x693 x694)).b fun x698 => .ok (x697, x698)).b fun x700 => .ok (x699, x700)).b fun x695 => m_law_changed (s680.1, x695.2.1, x695.2.2)).b fun x702 => (opt (sadO x701 x702.1)).b fun x703 => .ok (x703, x702)).f fun y682 =>
 (.nx (y682.2.2, y682.1)))) xs754 (y661, y677)) fun (s680 : (List Str) × Str) =>
 ((((Rs.ok (0 : Int)).b fun x713 => ((Rs.ok ("\n" : Str)).b fun x711 => (Rs.ok s680.1).b fun x712 => opt (joiO x711 x712)).b fun x714 => .ok (x713, x714)).b m_law_caught).f fun y710 =>
 ((Rs.ok ("" : Str)).f fun y715 =>
 (Fl.b ((((Rs.ok ("BadTown" : Str)).b fun x718 => ((Rs.ok ("BadWages" : Str)).b fun x716 => (Rs.ok ("BadText" : Str)).b fun x717 => .ok (x716, x717)).b fun x719 => .ok (x718, x719)).b fun x720 => .ok [x720.1, x720.2.1, x720.2.2]).f fun xs753 => forM (fun (s721 : Str) (v722 : Str) => (Fl.b (((Rs.ok v722).b fun x723 => (Rs.ok s680.2).b fun x724 => opt (some (subO x723 x724))).f fun b725 => if b725 = true then ((Rs.ok v722).f fun y727 =>
 (.nx y727)) else (.nx s721)) fun (s726 : Str) =>
 (.nx s726))) xs753 y715) fun (s721 : Str) =>
 ((andM ((Rs.ok ("" : Str)).b fun x728 => (Rs.ok s680.1).b fun x729 => .ok (!decide (x728 ∈ x729))) ((((Rs.ok s680.1).b fun x730 => (Rs.ok s721).b fun x731 => .ok (x730, x731)).b m_law_asked_right).b fun x732 => .ok (!x732))).f fun b733 => if b733 = true then Fl.v ((Rs.ok false).f fun x734 => .rt x734) else
 (((Rs.ok s721).b fun x735 => (Rs.ok ("" : Str)).b fun x736 => .ok (!decide (x735 = x736))).f fun b737 => if b737 = true then Fl.v ((((Rs.ok y710.1).b fun x738 => (Rs.ok s721).b fun x739 => .ok (x738, x739)).b m_law_refused).f fun x740 => .rt x740) else
 ((andM ((Rs.ok y710.1).b fun x741 => .ok x741.isNone) (andM ((((((Rs.ok y710.2).b opt).b fun x742 => opt (((fun x => rightO (fun x => some x) x) : ((List Int) ⊕ (VTown × (List Int))) → (Option (VTown × (List Int)))) x742)).b fun x743 => .ok x743.1).b fun x744 => .ok x744.1).b fun x745 => (Rs.ok y656.1).b fun x746 => .ok (decide (x745 = x746))) ((((((Rs.ok y710.2).b opt).b fun x747 => opt (((fun x => rightO (fun x => some x) x) : ((List Int) ⊕ (VTown × (List Int))) → (Option (VTown × (List Int)))) x747)).b fun x748 => .ok x748.1).b fun x749 => .ok x749.2).b fun x750 => (Rs.ok y656.2.1).b fun x751 => .ok (decide (x750 = x751))))).f fun x752 => .rt x752))))))))))))
def m_law (i : (List Int)) : Rs Bool := (b_law i).fn (fun (e : Empty) => e.elim)
abbrev T_law (P : Program) (w : World) (K : PySem.W.Frag) (mg : Str → Option Value) (base : Heap) (cl : String → Addr) : Prop := CalR P w K mg base cl 8 "law" ["script"] (fun i => [(sA K aI) i]) m_law aB
theorem sc_law : FnScope ["script", "lines", "number", "cell", "due", "k", "first", "word", "quarters", "pairs", "wages", "caught", "found"] ["script"] (defScope (Hd.top 114)) := ⟨rfl, rfl, rfl, by decide +kernel, rfl, by decide +kernel, by decide +kernel⟩
theorem w_law {f : Addr} {fd : FuncData} (fx : Fx K mg cl) (F : FnP K "law" "law" (Hd.top 114) f fd) (c_law_asked_right : T_law_asked_right P w K mg base cl) (c_law_caught : T_law_caught P w K mg base cl) (c_law_changed : T_law_changed P w K mg base cl) (c_law_lines : T_law_lines P w K mg base cl) (c_law_refused : T_law_refused P w K mg base cl) (c_law_town : T_law_town P w K mg base cl) : FnR P w K mg base cl 8 f fd ["script"] (fun i : List Int => [sA K aI i]) m_law aB :=
  fn_ok (Γn := fun _ => List.replicate 13 none) (Γb := fun _ => []) (d := (fun (e : Empty) => e.elim)) F sc_law (fun _ => rfl) (fun (s : Empty) _ => s.elim) (fun cdv A outer s H E G i => ⟨_, JB.to (m := b_law i) (jb_lin (jl_three (K0 := K) 8 9 10 aI (lA (t2 aI aI)) (lA aI) (fun (z : (Int × (List (Int × Int)) × (List Int))) => z.1) (fun (z : (Int × (List (Int × Int)) × (List Int))) => z.2.1) (fun (z : (Int × (List (Int × Int)) × (List Int))) => z.2.2) G (JN.toE (jn_cal (m := ((Rs.ok i).b fun x658 => (Rs.ok (none : Option Int)).b fun x659 => ((Rs.ok (31 : Int)).b fun x657 => .ok (some x657)).b fun x660 => .ok (cut x658 x659 x660))) G c_law_town (jns_one (JN.frz (A := (oA aI)) (B := (lA aI)) (jn_slice (K0 := K) (jn_v 0 (sA K aI) (y := i)) jo_none (jo_some jn_int)) fun _ => FrzF.frz _))) (wk_all rfl))) fun y656 =>
 (jb_lin (jl_set 1 G.nd (JN.toE (jn_cal (m := ((Rs.ok y656.1).b fun x664 => ((Rs.ok y656.2.1).b fun x662 => (Rs.ok y656.2.2).b fun x663 => .ok (x662, x663)).b fun x665 => .ok (x664, x665))) G c_law_lines (jns_cons (jn_v 8 aI (y := y656.1)) (jns_cons (jn_v 9 (lA (t2 aI aI)) (y := y656.2.1)) (jns_one (jn_v 10 (lA aI) (y := y656.2.2)))))) (wk_all rfl))) fun y661 =>
 (jb_lin (jl_set 2 G.nd (JN.toE jn_int (wk_all rfl))) fun y666 =>
 (jb_cons (Γu := fun (s667 : Int) => [none, some ((oA aS) y661), some (aI s667), none, none, none, none, none, some (aI y656.1), some ((lA (t2 aI aI)) y656.2.1), none, none, none]) (js_for (Γl := fun (s667 : Int) => [none, some ((oA aS) y661), some (aI s667), none, none, none, none, none, some (aI y656.1), some ((lA (t2 aI aI)) y656.2.1), none, none, none]) (Γt := fun (s667 : Int) (v668 : Int) => [none, some ((oA aS) y661), some (aI s667), some (aI v668), none, none, none, none, some (aI y656.1), some ((lA (t2 aI aI)) y656.2.1), none, none, none]) (s0 := y666) (L := [3]) G (ji_list (K0 := K) (jn_v 0 (sA K aI) (y := i))) (wk_all rfl) (.kill (.keep (.keep (.keep (.keep (.keep (.keep (.keep (.keep (.keep (.kill (.keep (.keep .nil))))))))))))) (fun s667 => (jg_name 3 G.nd)) (fun s667 v668 => (jb_lin (jl_set 2 G.nd (JN.toE (jn_mod (jn_add (jn_mulc (jn_v 2 aI (y := s667)) jn_int) (jn_v 3 aI (y := v668))) (jn_add (jn_powc jn_int jn_int) jn_int)) (wk_all rfl))) fun y669 =>
 (jb_nil (.keep (.keep (.keep (.kill (.keep (.keep (.keep (.keep (.keep (.keep (.keep (.keep (.keep .nil))))))))))))))))) fun s667 =>
 (jb_lin (jl_set 4 G.nd (JN.toE jn_str (wk_all rfl))) fun y677 =>
 (jb_cons (Γu := fun (s680 : (List Str) × Str) => [none, some ((oA aS) s680.1), some (aI s667), none, some (aS s680.2), none, none, none, some (aI y656.1), some ((lA (t2 aI aI)) y656.2.1), none, none, none]) (js_for (Γl := fun (s680 : (List Str) × Str) => [none, some ((oA aS) s680.1), some (aI s667), none, some (aS s680.2), none, none, none, some (aI y656.1), some ((lA (t2 aI aI)) y656.2.1), none, none, none]) (Γt := fun (s680 : (List Str) × Str) (v681 : Int) => [none, some ((oA aS) s680.1), some (aI s667), none, some (aS s680.2), some (aI v681), none, none, some (aI y656.1), some ((lA (t2 aI aI)) y656.2.1), none, none, none]) (s0 := (y661, y677)) (L := [5]) G (ji_range fx.bt.range (jn_modc (jn_v 2 aI (y := s667)) jn_int)) (wk_all rfl) (.keep (.keep (.keep (.keep (.keep (.keep (.keep (.keep (.keep (.keep (.keep (.keep (.keep .nil))))))))))))) (fun s680 => (jg_name 5 G.nd)) (fun s680 v681 => (jb_lin (jl_set 4 G.nd (je_saddc (fun (x702 : (Str × (List Str))) => x702.1) (jn_sadd (jn_v 4 aS (y := s680.2)) jn_str) (je_hole1 1 none (S := fun z => (oA aS) z) (Hl := fun vp685 => aV vp685) (A := (oA aS)) (y0 := s680.1) (C := fun (r : (Str × (List Str))) => aS r.1) (fun (r : (Str × (List Str))) => r.2) (wk_all rfl) spl_all (fun vp685 => (jh_call (fun (x695 : Unit × (Int) × (Int)) => (s680.1, x695.2.1, x695.2.2)) G c_law_changed (jns_cons (jn_v 1 (fun _ : Unit => aV vp685) (y := ())) (jns_cons (jn_v 8 aI (y := y656.1)) (jns_one (jn_div (jn_v 2 aI (y := s667)) (jn_ix (K0 := K) (jn_lst (A := aI) (fun x690 => [x690.1, x690.2.1, x690.2.2]) (jns_cons jn_int (jns_cons (jn_powc jn_int jn_int) (jns_one (jn_powc jn_int jn_int))))) (jn_v 5 aI (y := v681))))))) (fun _ => (Gives.hole Gives.nil)))) (fun _ => (wk_all rfl))) (wk_all rfl))) fun y682 =>
 (jb_nil (.keep (.keep (.keep (.keep (.keep (.kill (.keep (.keep (.keep (.keep (.keep (.keep (.keep .nil))))))))))))))))) fun s680 =>
 (jb_wk (Γ2 := [none, some ((lA aS) s680.1), some (aI s667), none, some (aS s680.2), none, none, none, some (aI y656.1), some ((lA (t2 aI aI)) y656.2.1), none, none, none]) (.keep (.frz (FrzF.frz (A := (oA aS)) (B := (lA aS)) _) (.keep (.keep (.keep (.keep (.keep (.keep (.keep (.keep (.keep (.keep (.keep .nil))))))))))))) (jb_lin (jl_two (K0 := K) 11 12 (aO (aX cl)) (aO (aE (lA aI) (t2 (fTown cl) (lA aI)))) (fun (z : ((Option String) × (Option ((List Int) ⊕ (VTown × (List Int)))))) => z.1) (fun (z : ((Option String) × (Option ((List Int) ⊕ (VTown × (List Int)))))) => z.2) G (JN.toE (jn_cal (m := ((Rs.ok (0 : Int)).b fun x713 => ((Rs.ok ("\n" : Str)).b fun x711 => (Rs.ok s680.1).b fun x712 => opt (joiO x711 x712)).b fun x714 => .ok (x713, x714))) G c_law_caught (jns_cons jn_int (jns_one (jn_join (K0 := K) jn_str (jn_v 1 (lA aS) (y := s680.1)))))) (wk_all rfl))) fun y710 =>
 (jb_lin (jl_set 6 G.nd (JN.toE jn_str (wk_all rfl))) fun y715 =>
 (jb_cons (Γu := fun (s721 : Str) => [none, some ((lA aS) s680.1), none, none, some (aS s680.2), none, some (aS s721), none, some (aI y656.1), some ((lA (t2 aI aI)) y656.2.1), none, some ((aO (aX cl)) y710.1), some ((aO (aE (lA aI) (t2 (fTown cl) (lA aI)))) y710.2)]) (js_for (Γl := fun (s721 : Str) => [none, some ((lA aS) s680.1), none, none, some (aS s680.2), none, some (aS s721), none, some (aI y656.1), some ((lA (t2 aI aI)) y656.2.1), none, some ((aO (aX cl)) y710.1), some ((aO (aE (lA aI) (t2 (fTown cl) (lA aI)))) y710.2)]) (Γt := fun (s721 : Str) (v722 : Str) => [none, some ((lA aS) s680.1), none, none, some (aS s680.2), none, some (aS s721), some (aS v722), some (aI y656.1), some ((lA (t2 aI aI)) y656.2.1), none, some ((aO (aX cl)) y710.1), some ((aO (aE (lA aI) (t2 (fTown cl) (lA aI)))) y710.2)]) (s0 := y715) (L := [7]) G (ji_list (K0 := K) (jn_lst (A := aS) (fun x720 => [x720.1, x720.2.1, x720.2.2]) (jns_cons jn_str (jns_cons jn_str (jns_one jn_str))))) (wk_all rfl) (.keep (.keep (.kill (.keep (.keep (.keep (.keep (.keep (.keep (.keep (.keep (.keep (.keep .nil))))))))))))) (fun s721 => (jg_name 7 G.nd)) (fun s721 v722 => (jb_cons (Γu := fun (s726 : Str) => [none, some ((lA aS) s680.1), none, none, some (aS s680.2), none, some (aS s726), none, some (aI y656.1), some ((lA (t2 aI aI)) y656.2.1), none, some ((aO (aX cl)) y710.1), some ((aO (aE (lA aI) (t2 (fTown cl) (lA aI)))) y710.2)]) (js_if (jt_sub_in (jn_v 7 aS (y := v722)) (jn_v 4 aS (y := s680.2))) (wk_all rfl) (jb_lin (jl_set 6 G.nd (JN.toE (jn_v 7 aS (y := v722)) (wk_all rfl))) fun y727 =>
 (jb_nil (.keep (.keep (.keep (.keep (.keep (.keep (.keep (.kill (.keep (.keep (.keep (.keep (.keep .nil))))))))))))))) (jb_nil (.keep (.keep (.keep (.keep (.keep (.keep (.keep (.kill (.keep (.keep (.keep (.keep (.keep .nil))))))))))))))) fun s726 =>
 (jb_nil (.keep (.keep (.keep (.keep (.keep (.keep (.keep (.keep (.keep (.keep (.keep (.keep (.keep .nil))))))))))))))))) fun s721 =>
 (jb_ifv (Γ0 := fun _ => []) (JW.t (jw_and (jt_ninL (K0 := K) jn_str (jn_v 1 (lA aS) (y := s680.1))) (jw_and1 (jt_not (jt_v (jn_cal (m := ((Rs.ok s680.1).b fun x730 => (Rs.ok s721).b fun x731 => .ok (x730, x731))) G c_law_asked_right (jns_cons (jn_v 1 (lA aS) (y := s680.1)) (jns_one (jn_v 6 aS (y := s721)))))))))) (wk_all rfl) (jb_one (js_ret (JN.toE jn_bl (wk_all rfl))))
 (jb_ifv (Γ0 := fun _ => []) (jt_ne (jn_v 6 aS (y := s721)) jn_str) (wk_all rfl) (jb_one (js_ret (JN.toE (jn_cal (m := ((Rs.ok y710.1).b fun x738 => (Rs.ok s721).b fun x739 => .ok (x738, x739))) G c_law_refused (jns_cons (jn_v 11 (aO (aX cl)) (y := y710.1)) (jns_one (jn_v 6 aS (y := s721))))) (wk_all rfl))))
 (jb_one (js_ret (JN.toE (jn_and (jn_isN (A := (aX cl)) (jn_v 11 (aO (aX cl)) (y := y710.1))) (jn_and (jn_eq (jn_fld (K0 := K) (C := cl "Town") (fl := ffTown) (Bf := aI) (fun x744 => x744.1) fx.c_Town fx.n_Town_quarters (jn_part (K0 := K) (D := (fTown cl)) 0 (fun x743 => x743.1) (jn_cst (A := (aE (lA aI) (t2 (fTown cl) (lA aI)))) (C := (t2 (fTown cl) (lA aI))) (jn_get (A := (aE (lA aI) (t2 (fTown cl) (lA aI)))) (jn_v 12 (aO (aE (lA aI) (t2 (fTown cl) (lA aI)))) (y := y710.2))) (c_right (c_of t_id))))) (jn_v 8 aI (y := y656.1))) (jn_one (jn_eqD (K0 := K) G (jn_fld (K0 := K) (C := cl "Town") (fl := ffTown) (Bf := (lA (t2 aI aI))) (fun x749 => x749.2) fx.c_Town fx.n_Town_bridges (jn_part (K0 := K) (D := (fTown cl)) 0 (fun x748 => x748.1) (jn_cst (A := (aE (lA aI) (t2 (fTown cl) (lA aI)))) (C := (t2 (fTown cl) (lA aI))) (jn_get (A := (aE (lA aI) (t2 (fTown cl) (lA aI)))) (jn_v 12 (aO (aE (lA aI) (t2 (fTown cl) (lA aI)))) (y := y710.2))) (c_right (c_of t_id))))) (jn_v 9 (lA (t2 aI aI)) (y := y656.2.1)))))) (wk_all rfl)))))))))))))))) rfl⟩)
end
theorem all_facts {h : Heap} {K : PySem.W.Frag} {mg : Str → Option Value} (X : K.In h) (G : h.Ns mainGlobals mg) (c : He.SaysD Hd.fa Hd.fn K) (fbk : ∀ (i : Nat) (f : FB), Hd.fb[i]? = some f → f K = true) : Fx K mg (fun n => He.ga K n) :=
  {
  bt := ⟨He.free_ok X G (c.fact 33 (f := .free "len") rfl), He.free_ok X G (c.fact 34 (f := .free "range") rfl), He.free_ok X G (c.fact 35 (f := .free "list") rfl), He.free_ok X G (c.fact 36 (f := .free "min") rfl), He.free_ok X G (c.fact 37 (f := .free "max") rfl), He.free_ok X G (c.fact 38 (f := .free "sum") rfl), He.free_ok X G (c.fact 39 (f := .free "sorted") rfl), He.free_ok X G (c.fact 40 (f := .free "enumerate") rfl), He.free_ok X G (c.fact 41 (f := .free "zip") rfl), He.free_ok X G (c.fact 42 (f := .free "isinstance") rfl), He.free_ok X G (c.fact 43 (f := .free "int") rfl), He.free_ok X G (c.fact 44 (f := .free "bool") rfl), He.free_ok X G (c.fact 45 (f := .free "str") rfl), He.free_ok X G (c.fact 46 (f := .free "tuple") rfl), He.free_ok X G (c.fact 47 (f := .free "dict") rfl), He.free_ok X G (c.fact 48 (f := .free "set") rfl), He.free_ok X G (c.fact 49 (f := .free "any") rfl), He.free_ok X G (c.fact 50 (f := .free "all") rfl), He.free_ok X G (c.fact 51 (f := .free "reversed") rfl), He.free_ok X G (c.fact 52 (f := .free "ValueError") rfl)⟩
  g_Town := He.glo_ok X G (c.fact 17 (f := .glo "Town") rfl)
  c_Town := He.cls_ok (c.fact 18 (f := .cls "Town") rfl)
  n_Town_quarters := He.noat_ok (c.fact 20 (f := .noat "Town" "quarters") rfl)
  n_Town_bridges := He.noat_ok (c.fact 21 (f := .noat "Town" "bridges") rfl)
  x_BadText := ⟨(He.exc_ok (c.fact 23 (f := .exc "BadText") rfl)).1, He.glo_ok X G (c.fact 22 (f := .glo "BadText") rfl), (He.exc_ok (c.fact 23 (f := .exc "BadText") rfl)).2.1, (He.exc_ok (c.fact 23 (f := .exc "BadText") rfl)).2.2.1, (He.exc_ok (c.fact 23 (f := .exc "BadText") rfl)).2.2.2⟩
  x_BadTown := ⟨(He.exc_ok (c.fact 25 (f := .exc "BadTown") rfl)).1, He.glo_ok X G (c.fact 24 (f := .glo "BadTown") rfl), (He.exc_ok (c.fact 25 (f := .exc "BadTown") rfl)).2.1, (He.exc_ok (c.fact 25 (f := .exc "BadTown") rfl)).2.2.1, (He.exc_ok (c.fact 25 (f := .exc "BadTown") rfl)).2.2.2⟩
  x_BadWages := ⟨(He.exc_ok (c.fact 27 (f := .exc "BadWages") rfl)).1, He.glo_ok X G (c.fact 26 (f := .glo "BadWages") rfl), (He.exc_ok (c.fact 27 (f := .exc "BadWages") rfl)).2.1, (He.exc_ok (c.fact 27 (f := .exc "BadWages") rfl)).2.2.1, (He.exc_ok (c.fact 27 (f := .exc "BadWages") rfl)).2.2.2⟩
  g_BadText := He.glo_ok X G (c.fact 22 (f := .glo "BadText") rfl)
  g_BadTown := He.glo_ok X G (c.fact 24 (f := .glo "BadTown") rfl)
  g_BadWages := He.glo_ok X G (c.fact 26 (f := .glo "BadWages") rfl)
  g_CrewError := He.glo_ok X G (c.fact 28 (f := .glo "CrewError") rfl)
  xs := excsB_ok (fbk 0 _ rfl)
  t_CrewError := exmB_ok (fbk 1 _ rfl)
  is_1BadText := isB_ok (fbk 2 _ rfl)
  is_1BadTown := isB_ok (fbk 3 _ rfl)
  is_1BadWages := isB_ok (fbk 4 _ rfl)
  is_1CrewError := isB_ok (fbk 5 _ rfl)
  is_1ValueError := isB_ok (fbk 6 _ rfl)
  i_DEAREST_WAGE := He.int_ok X G (c.fact 29 (f := .int "DEAREST_WAGE" 1000000000000000000000000000000000000000000000000000000000000) rfl)
  i_MOST_BRIDGES := He.int_ok X G (c.fact 30 (f := .int "MOST_BRIDGES" 60) rfl)
  i_MOST_QUARTERS := He.int_ok X G (c.fact 31 (f := .int "MOST_QUARTERS" 24) rfl)
  s_NUMBER_FIGURES := He.str_ok X G (c.fact 32 (f := .str "NUMBER_FIGURES" "0123456789") rfl)
  }
end
theorem law_of (plain : ∀ ns : List Int, ns.length ≤ 63 → m_law ns = .ok true) (w : World) (mg : Str → Option Value) (fa : Addr) (h : Heap) (K : PySem.W.Frag) (X : K.In h) (G : h.Ns mainGlobals mg) (cx : SaysX Hd.fa Hd.fn Hd.fb K) (hfa : mg ("law" : Str) = some (.ref fa)) :
   ∃ (fd : FuncData) (sp : L2.Sp), (∀ (s : Shared) (v : Value), BindsTo s fd ⟨[v], []⟩ [("script", v)]) ∧ (∀ (H : L2.Hp) (a : Addr) (ns : List Int), ns.length ≤ 63 → L2.SqL K H a (ns.map L2.V.int) → sp [.ref a] H (fun v _ => v = .bl true) (fun _ _ _ => False)) ∧ ∀ base : Heap, K.In base → base.Ns mainGlobals mg → L2.FnOk (PySem.Challenge.rw_bridgecrews_k61_texts_refused).prog w K mg base L2.CX0 40 fa fd ["script"] sp := by
  let tgi : Tbs := ⟨[], fun _ m => nomatch m⟩
  have c := cx.says
  have fbk : ∀ (i : Nat) (f : FB), Hd.fb[i]? = some f → f K = true := fun i f e => cx.fbk i e
  have fx := all_facts X G c fbk
  have d_answer_to : DefF K mg "answer_to" (Hd.top 102) ["line", "town", "wages"] := by
    obtain ⟨fd, F⟩ := c.def_ 0 rfl
    exact ⟨_, fd, F, He.glo_ok X G (c.fact 0 (f := .glo "answer_to") rfl), F.kp, FunD.bindsN F fun _ _ _ _ _ _ us hl => match us, hl with | [_, _, _], _ => rfl⟩
  have d_ask_town : DefF K mg "ask_town" (Hd.top 20) ["quarters", "pairs"] := by
    obtain ⟨fd, F⟩ := c.def_ 1 rfl
    exact ⟨_, fd, F, He.glo_ok X G (c.fact 1 (f := .glo "ask_town") rfl), F.kp, FunD.bindsN F fun _ _ _ _ _ _ us hl => match us, hl with | [_, _], _ => rfl⟩
  have d_Town_init : DefM K (He.ga K "Town") "Town.__init__" (inClass (Hd.top 21) 0) ["self", "quarters", "bridges"] := by
    obtain ⟨fd, F⟩ := c.def_ 2 rfl
    exact ⟨_, fd, F, He.mkr_ok (c.fact 19 (f := .mkr "Town") rfl), FunD.bindsN F fun _ _ _ _ _ _ us hl => match us, hl with | [_, _, _], _ => rfl⟩
  have d_ask_wages : DefF K mg "ask_wages" (Hd.top 16) ["many", "wages"] := by
    obtain ⟨fd, F⟩ := c.def_ 3 rfl
    exact ⟨_, fd, F, He.glo_ok X G (c.fact 2 (f := .glo "ask_wages") rfl), F.kp, FunD.bindsN F fun _ _ _ _ _ _ us hl => match us, hl with | [_, _], _ => rfl⟩
  have d_written_number : DefF K mg "written_number" (Hd.top 24) ["word", "most"] := by
    obtain ⟨fd, F⟩ := c.def_ 4 rfl
    exact ⟨_, fd, F, He.glo_ok X G (c.fact 3 (f := .glo "written_number") rfl), F.kp, FunD.bindsN F fun _ _ _ _ _ _ us hl => match us, hl with | [_, _], _ => rfl⟩
  have d_bridge_line : DefF K mg "bridge_line" (Hd.top 25) ["line"] := by
    obtain ⟨fd, F⟩ := c.def_ 5 rfl
    exact ⟨_, fd, F, He.glo_ok X G (c.fact 4 (f := .glo "bridge_line") rfl), F.kp, FunD.bindsN F fun _ _ _ _ _ _ us hl => match us, hl with | [_], _ => rfl⟩
  have d_read_town : DefF K mg "read_town" (Hd.top 26) ["text"] := by
    obtain ⟨fd, F⟩ := c.def_ 6 rfl
    exact ⟨_, fd, F, He.glo_ok X G (c.fact 5 (f := .glo "read_town") rfl), F.kp, FunD.bindsN F fun _ _ _ _ _ _ us hl => match us, hl with | [_], _ => rfl⟩
  have d_answers_to : DefF K mg "answers_to" (Hd.top 103) ["text"] := by
    obtain ⟨fd, F⟩ := c.def_ 7 rfl
    exact ⟨_, fd, F, He.glo_ok X G (c.fact 6 (f := .glo "answers_to") rfl), F.kp, FunD.bindsN F fun _ _ _ _ _ _ us hl => match us, hl with | [_], _ => rfl⟩
  have d_law_caught : DefF K mg "_law_caught" (Hd.top 112) ["way", "text"] := by
    obtain ⟨fd, F⟩ := c.def_ 8 rfl
    exact ⟨_, fd, F, He.glo_ok X G (c.fact 7 (f := .glo "_law_caught") rfl), F.kp, FunD.bindsN F fun _ _ _ _ _ _ us hl => match us, hl with | [_, _], _ => rfl⟩
  have d_law_refused : DefF K mg "_law_refused" (Hd.top 111) ["caught", "word"] := by
    obtain ⟨fd, F⟩ := c.def_ 9 rfl
    exact ⟨_, fd, F, He.glo_ok X G (c.fact 8 (f := .glo "_law_refused") rfl), F.kp, FunD.bindsN F fun _ _ _ _ _ _ us hl => match us, hl with | [_, _], _ => rfl⟩
  have d_law_asked_right : DefF K mg "_law_asked_right" (Hd.top 113) ["lines", "due"] := by
    obtain ⟨fd, F⟩ := c.def_ 10 rfl
    exact ⟨_, fd, F, He.glo_ok X G (c.fact 9 (f := .glo "_law_asked_right") rfl), F.kp, FunD.bindsN F fun _ _ _ _ _ _ us hl => match us, hl with | [_, _], _ => rfl⟩
  have d_law_odd_head : DefF K mg "_law_odd_head" (Hd.top 108) ["cell"] := by
    obtain ⟨fd, F⟩ := c.def_ 11 rfl
    exact ⟨_, fd, F, He.glo_ok X G (c.fact 10 (f := .glo "_law_odd_head") rfl), F.kp, FunD.bindsN F fun _ _ _ _ _ _ us hl => match us, hl with | [_], _ => rfl⟩
  have d_law_odd_line : DefF K mg "_law_odd_line" (Hd.top 107) ["cell"] := by
    obtain ⟨fd, F⟩ := c.def_ 12 rfl
    exact ⟨_, fd, F, He.glo_ok X G (c.fact 11 (f := .glo "_law_odd_line") rfl), F.kp, FunD.bindsN F fun _ _ _ _ _ _ us hl => match us, hl with | [_], _ => rfl⟩
  have d_law_changed : DefF K mg "_law_changed" (Hd.top 110) ["lines", "quarters", "cell"] := by
    obtain ⟨fd, F⟩ := c.def_ 13 rfl
    exact ⟨_, fd, F, He.glo_ok X G (c.fact 12 (f := .glo "_law_changed") rfl), F.kp, FunD.bindsN F fun _ _ _ _ _ _ us hl => match us, hl with | [_, _, _], _ => rfl⟩
  have d_law_lines : DefF K mg "_law_lines" (Hd.top 109) ["quarters", "pairs", "wages"] := by
    obtain ⟨fd, F⟩ := c.def_ 14 rfl
    exact ⟨_, fd, F, He.glo_ok X G (c.fact 13 (f := .glo "_law_lines") rfl), F.kp, FunD.bindsN F fun _ _ _ _ _ _ us hl => match us, hl with | [_, _, _], _ => rfl⟩
  have d_law_at : DefF K mg "_law_at" (Hd.top 105) ["script", "k"] := by
    obtain ⟨fd, F⟩ := c.def_ 15 rfl
    exact ⟨_, fd, F, He.glo_ok X G (c.fact 14 (f := .glo "_law_at") rfl), F.kp, FunD.bindsN F fun _ _ _ _ _ _ us hl => match us, hl with | [_, _], _ => rfl⟩
  have d_law_town : DefF K mg "_law_town" (Hd.top 106) ["script"] := by
    obtain ⟨fd, F⟩ := c.def_ 16 rfl
    exact ⟨_, fd, F, He.glo_ok X G (c.fact 15 (f := .glo "_law_town") rfl), F.kp, FunD.bindsN F fun _ _ _ _ _ _ us hl => match us, hl with | [_], _ => rfl⟩
  obtain ⟨fd, FL⟩ := c.def_ 17 rfl
  have ef := hfa.symm.trans (He.glo_ok X G (c.fact 16 (f := .glo "law") rfl))
  cases ef
  have bl := FunD.bindsA (ps := ["script"]) FL fun _ _ _ _ _ _ us hl => match us, hl with | [_], _ => rfl
  have bn := FunD.bindsN (ps := ["script"]) FL fun _ _ _ _ _ _ us hl => match us, hl with | [_], _ => rfl
  refine ⟨fd, (fun vs H Q _ => Fsp (fun n => He.ga K n) (fun i : List Int => [sA K aI i]) m_law aB vs H Q E0), fun s v => bl s [v] rfl, fun H a ns hl hS => script_sp (fun _ m => nomatch m) hS (plain ns hl), fun base KB GB => ?_⟩
  have c_called : T_called (PySem.Challenge.rw_bridgecrews_k61_texts_refused).prog w K mg base (fun n => He.ga K n) := ⟨fun c0 hc => by
    simp only [List.mem_cons, List.not_mem_nil, or_false] at hc
    rcases hc with rfl | rfl | rfl | rfl | rfl | rfl | rfl | rfl | rfl | rfl
    · obtain ⟨fd, F⟩ := c.def_ 18 rfl
      obtain ⟨m1, m2, m3⟩ := mthB_ok (fbk 7 _ rfl)
      exact ⟨_, fd, fx.xs _ (by simp), m1, m2, m3, w_called_CrewError F, FunD.bindsN F fun _ _ _ _ _ _ us hl => match us, hl with | [_], _ => rfl⟩
    · obtain ⟨fd, F⟩ := c.def_ 19 rfl
      obtain ⟨m1, m2, m3⟩ := mthB_ok (fbk 8 _ rfl)
      exact ⟨_, fd, fx.xs _ (by simp), m1, m2, m3, w_called_BadTown F, FunD.bindsN F fun _ _ _ _ _ _ us hl => match us, hl with | [_], _ => rfl⟩
    · obtain ⟨fd, F⟩ := c.def_ 20 rfl
      obtain ⟨m1, m2, m3⟩ := mthB_ok (fbk 9 _ rfl)
      exact ⟨_, fd, fx.xs _ (by simp), m1, m2, m3, w_called_BadQuarters F, FunD.bindsN F fun _ _ _ _ _ _ us hl => match us, hl with | [_], _ => rfl⟩
    · obtain ⟨fd, F⟩ := c.def_ 21 rfl
      obtain ⟨m1, m2, m3⟩ := mthB_ok (fbk 10 _ rfl)
      exact ⟨_, fd, fx.xs _ (by simp), m1, m2, m3, w_called_BadCount F, FunD.bindsN F fun _ _ _ _ _ _ us hl => match us, hl with | [_], _ => rfl⟩
    · obtain ⟨fd, F⟩ := c.def_ 22 rfl
      obtain ⟨m1, m2, m3⟩ := mthB_ok (fbk 11 _ rfl)
      exact ⟨_, fd, fx.xs _ (by simp), m1, m2, m3, w_called_BadWages F, FunD.bindsN F fun _ _ _ _ _ _ us hl => match us, hl with | [_], _ => rfl⟩
    · obtain ⟨fd, F⟩ := c.def_ 23 rfl
      obtain ⟨m1, m2, m3⟩ := mthB_ok (fbk 12 _ rfl)
      exact ⟨_, fd, fx.xs _ (by simp), m1, m2, m3, w_called_BadDealing F, FunD.bindsN F fun _ _ _ _ _ _ us hl => match us, hl with | [_], _ => rfl⟩
    · obtain ⟨fd, F⟩ := c.def_ 24 rfl
      obtain ⟨m1, m2, m3⟩ := mthB_ok (fbk 13 _ rfl)
      exact ⟨_, fd, fx.xs _ (by simp), m1, m2, m3, w_called_BadLimits F, FunD.bindsN F fun _ _ _ _ _ _ us hl => match us, hl with | [_], _ => rfl⟩
    · obtain ⟨fd, F⟩ := c.def_ 25 rfl
      obtain ⟨m1, m2, m3⟩ := mthB_ok (fbk 14 _ rfl)
      exact ⟨_, fd, fx.xs _ (by simp), m1, m2, m3, w_called_BadText F, FunD.bindsN F fun _ _ _ _ _ _ us hl => match us, hl with | [_], _ => rfl⟩
    · obtain ⟨fd, F⟩ := c.def_ 26 rfl
      obtain ⟨m1, m2, m3⟩ := mthB_ok (fbk 15 _ rfl)
      exact ⟨_, fd, fx.xs _ (by simp), m1, m2, m3, w_called_TooSmall F, FunD.bindsN F fun _ _ _ _ _ _ us hl => match us, hl with | [_], _ => rfl⟩
    · obtain ⟨fd, F⟩ := c.def_ 27 rfl
      obtain ⟨m1, m2, m3⟩ := mthB_ok (fbk 16 _ rfl)
      exact ⟨_, fd, fx.xs _ (by simp), m1, m2, m3, w_called_TooLarge F, FunD.bindsN F fun _ _ _ _ _ _ us hl => match us, hl with | [_], _ => rfl⟩
    ⟩
  have c_answer_to : T_answer_to (PySem.Challenge.rw_bridgecrews_k61_texts_refused).prog w K mg base (fun n => He.ga K n) := w_answer_to fx d_answer_to
  have c_ask_town : T_ask_town (PySem.Challenge.rw_bridgecrews_k61_texts_refused).prog w K mg base (fun n => He.ga K n) := w_ask_town fx d_ask_town
  have c_Town_init : T_Town_init (PySem.Challenge.rw_bridgecrews_k61_texts_refused).prog w K mg base (fun n => He.ga K n) := w_Town_init fx d_Town_init c_ask_town
  have c_ask_wages : T_ask_wages (PySem.Challenge.rw_bridgecrews_k61_texts_refused).prog w K mg base (fun n => He.ga K n) := w_ask_wages fx d_ask_wages
  have c_written_number : T_written_number (PySem.Challenge.rw_bridgecrews_k61_texts_refused).prog w K mg base (fun n => He.ga K n) := w_written_number fx d_written_number
  have c_bridge_line : T_bridge_line (PySem.Challenge.rw_bridgecrews_k61_texts_refused).prog w K mg base (fun n => He.ga K n) := w_bridge_line fx d_bridge_line c_written_number
  have c_read_town : T_read_town (PySem.Challenge.rw_bridgecrews_k61_texts_refused).prog w K mg base (fun n => He.ga K n) := w_read_town fx d_read_town c_Town_init c_ask_wages c_bridge_line c_written_number
  have c_answers_to : T_answers_to (PySem.Challenge.rw_bridgecrews_k61_texts_refused).prog w K mg base (fun n => He.ga K n) := w_answers_to fx d_answers_to c_answer_to c_read_town
  have c_law_caught : T_law_caught (PySem.Challenge.rw_bridgecrews_k61_texts_refused).prog w K mg base (fun n => He.ga K n) := w_law_caught fx d_law_caught c_answers_to c_read_town
  have c_law_refused : T_law_refused (PySem.Challenge.rw_bridgecrews_k61_texts_refused).prog w K mg base (fun n => He.ga K n) := w_law_refused fx d_law_refused c_called
  have c_law_asked_right : T_law_asked_right (PySem.Challenge.rw_bridgecrews_k61_texts_refused).prog w K mg base (fun n => He.ga K n) := w_law_asked_right fx d_law_asked_right c_law_caught c_law_refused
  have c_law_odd_head : T_law_odd_head (PySem.Challenge.rw_bridgecrews_k61_texts_refused).prog w K mg base (fun n => He.ga K n) := w_law_odd_head fx d_law_odd_head
  have c_law_odd_line : T_law_odd_line (PySem.Challenge.rw_bridgecrews_k61_texts_refused).prog w K mg base (fun n => He.ga K n) := w_law_odd_line fx d_law_odd_line
  have c_law_changed : T_law_changed (PySem.Challenge.rw_bridgecrews_k61_texts_refused).prog w K mg base (fun n => He.ga K n) := w_law_changed fx d_law_changed c_law_odd_head c_law_odd_line
  have c_law_lines : T_law_lines (PySem.Challenge.rw_bridgecrews_k61_texts_refused).prog w K mg base (fun n => He.ga K n) := w_law_lines fx d_law_lines
  have c_law_at : T_law_at (PySem.Challenge.rw_bridgecrews_k61_texts_refused).prog w K mg base (fun n => He.ga K n) := w_law_at fx d_law_at
  have c_law_town : T_law_town (PySem.Challenge.rw_bridgecrews_k61_texts_refused).prog w K mg base (fun n => He.ga K n) := w_law_town fx d_law_town c_law_at
  exact (fn_cx0 (w_law (P := (PySem.Challenge.rw_bridgecrews_k61_texts_refused).prog) (w := w) (base := base) fx FL c_law_asked_right c_law_caught c_law_changed c_law_lines c_law_refused c_law_town)).mono (by decide)
end Br
namespace Br
open PySem PySem.Spec L2
/-- behind the walk the tables are of no account -/
instance tgNone : Tbs := ⟨[], fun _ m => nomatch m⟩
section
variable {α β γ B R S T : Type}
@[simp] theorem ok_b (a : α) (f : α → Rs β) : (Rs.ok a).b f = f a := Eq.trans rfl rfl
@[simp] theorem er_b (c : String) (f : α → Rs β) : (Rs.er c : Rs α).b f = .er c := Eq.trans rfl rfl
@[simp] theorem no_b (f : α → Rs β) : (Rs.no : Rs α).b f = .no := Eq.trans rfl rfl
@[simp] theorem ok_f (a : α) (f : α → Fl B R S) : (Rs.ok a).f f = f a := Eq.trans rfl rfl
@[simp] theorem er_f (c : String) (f : α → Fl B R S) : (Rs.er c : Rs α).f f = .er c := Eq.trans rfl rfl
@[simp] theorem no_f (f : α → Fl B R S) : (Rs.no : Rs α).f f = .no := Eq.trans rfl rfl
@[simp] theorem nx_b (s : S) (f : S → Fl B R T) : (Fl.nx s : Fl B R S).b f = f s := Eq.trans rfl rfl
@[simp] theorem rt_b (r : R) (f : S → Fl B R T) : (Fl.rt r : Fl B R S).b f = .rt r := Eq.trans rfl rfl
@[simp] theorem bk_b (r : B) (f : S → Fl B R T) : (Fl.bk r : Fl B R S).b f = .bk r := Eq.trans rfl rfl
@[simp] theorem ct_b (r : B) (f : S → Fl B R T) : (Fl.ct r : Fl B R S).b f = .ct r := Eq.trans rfl rfl
@[simp] theorem erF_b (c : String) (f : S → Fl B R T) : (Fl.er c : Fl B R S).b f = .er c := Eq.trans rfl rfl
@[simp] theorem noF_b (f : S → Fl B R T) : (Fl.no : Fl B R S).b f = .no := Eq.trans rfl rfl
@[simp] theorem rt_v (r : R) : (Fl.rt r : Fl B R Empty).v = (.rt r : Fl B R S) := Eq.trans rfl rfl
@[simp] theorem er_v (c : String) : (Fl.er c : Fl B R Empty).v = (.er c : Fl B R S) := Eq.trans rfl rfl
@[simp] theorem bk_v (r : B) : (Fl.bk r : Fl B R Empty).v = (.bk r : Fl B R S) := Eq.trans rfl rfl
@[simp] theorem ct_v (r : B) : (Fl.ct r : Fl B R Empty).v = (.ct r : Fl B R S) := Eq.trans rfl rfl
@[simp] theorem no_v : (Fl.no : Fl B R Empty).v = (.no : Fl B R S) := Eq.trans rfl rfl
@[simp] theorem nx_fn (d : S → T) (s : S) : (Fl.nx s : Fl B T S).fn d = .ok (d s) := Eq.trans rfl rfl
@[simp] theorem rt_fn (d : S → T) (r : T) : (Fl.rt r : Fl B T S).fn d = .ok r := Eq.trans rfl rfl
@[simp] theorem er_fn (d : S → T) (c : String) : (Fl.er c : Fl B T S).fn d = .er c := Eq.trans rfl rfl
@[simp] theorem opt_some (a : α) : opt (some a) = .ok a := Eq.trans rfl rfl
@[simp] theorem opt_none : opt (none : Option α) = .no := Eq.trans rfl rfl
@[simp] theorem andM_ok (a : Bool) (n : Rs Bool) : andM (.ok a) n = if a = true then n else .ok false := Eq.trans rfl rfl
@[simp] theorem orM_ok (a : Bool) (n : Rs Bool) : orM (.ok a) n = if a = true then .ok true else n := Eq.trans rfl rfl
@[simp] theorem andM_ok2 (a b : Bool) : andM (.ok a) (.ok b) = .ok (a && b) := by cases a <;> rfl
@[simp] theorem orM_ok2 (a b : Bool) : orM (.ok a) (.ok b) = .ok (a || b) := by cases a <;> rfl
@[simp] theorem ite_okR (p : Prop) [Decidable p] (a b : α) : (if p then Rs.ok a else Rs.ok b) = Rs.ok (if p then a else b) := by split <;> rfl
@[simp] theorem ite_fR (p : Prop) [Decidable p] (a b : Rs α) (f : α → Fl B R S) : (if p then a else b).f f = if p then a.f f else b.f f := by split <;> rfl
@[simp] theorem ite_bR (p : Prop) [Decidable p] (a b : Rs α) (f : α → Rs β) : (if p then a else b).b f = if p then a.b f else b.b f := by split <;> rfl
@[simp] theorem ite_bF (p : Prop) [Decidable p] (a b : Fl B R S) (f : S → Fl B R T) : (if p then a else b).b f = if p then a.b f else b.b f := by split <;> rfl
@[simp] theorem ite_v (p : Prop) [Decidable p] (a b : Fl B R Empty) : ((if p then a else b).v : Fl B R S) = if p then a.v else b.v := by split <;> rfl
@[simp] theorem ite_fn (p : Prop) [Decidable p] (a b : Fl B T S) (d : S → T) : (if p then a else b).fn d = if p then a.fn d else b.fn d := by split <;> rfl
@[simp] theorem b_ok (m : Rs α) : (m.b fun a => .ok a) = m := by cases m <;> rfl
@[simp] theorem b_assoc (m : Rs α) (f : α → Rs β) (g : β → Rs γ) : (m.b f).b g = m.b fun a => (f a).b g := by cases m <;> rfl
@[simp] theorem b_f (m : Rs α) (f : α → Rs β) (g : β → Fl B R S) : (m.b f).f g = m.f fun a => (f a).f g := by cases m <;> rfl
@[simp] theorem try_nx (names : List String) (h : String → Fl B T S) (s : S) : tryM names h (.nx s) = .nx s := Eq.trans rfl rfl
@[simp] theorem try_rt (names : List String) (h : String → Fl B T S) (s : T) : tryM names h (.rt s) = .rt s := Eq.trans rfl rfl
@[simp] theorem try_er (names : List String) (h : String → Fl B T S) (c : String) : tryM names h (.er c) = if c ∈ names then h c else .no := Eq.trans rfl rfl
@[simp] theorem isX_none (names : List String) (f : String → Bool) : isXM names f none = .ok false := Eq.trans rfl rfl
@[simp] theorem isX_some (names : List String) (f : String → Bool) (c : String) : isXM names f (some c) = if c ∈ names then .ok (f c) else .no := Eq.trans rfl rfl
/-- a loop's turn, then the others -/
def Fl.lp (m : Fl S R S) (k : S → Fl B R S) : Fl B R S := match m with
  | .nx s => k s
  | .ct s => k s
  | .bk s => .nx s
  | .rt r => .rt r
  | .er c => .er c
  | .no => .no
@[simp] theorem nx_lp (s : S) (k : S → Fl B R S) : (Fl.nx s : Fl S R S).lp k = k s := Eq.trans rfl rfl
@[simp] theorem ct_lp (s : S) (k : S → Fl B R S) : (Fl.ct s : Fl S R S).lp k = k s := Eq.trans rfl rfl
@[simp] theorem bk_lp (s : S) (k : S → Fl B R S) : (Fl.bk s : Fl S R S).lp k = .nx s := Eq.trans rfl rfl
@[simp] theorem rt_lp (r : R) (k : S → Fl B R S) : (Fl.rt r : Fl S R S).lp k = .rt r := Eq.trans rfl rfl
@[simp] theorem er_lp (c : String) (k : S → Fl B R S) : (Fl.er c : Fl S R S).lp k = .er c := Eq.trans rfl rfl
@[simp] theorem no_lp (k : S → Fl B R S) : (Fl.no : Fl S R S).lp k = .no := Eq.trans rfl rfl
@[simp] theorem ite_lp (p : Prop) [Decidable p] (a b : Fl S R S) (k : S → Fl B R S) : (if p then a else b).lp k = if p then a.lp k else b.lp k := by split <;> rfl
@[simp] theorem forM_nil (f : S → α → Fl S T S) (s : S) : (forM f [] s : Fl B T S) = .nx s := Eq.trans rfl rfl
theorem forM_cons (f : S → α → Fl S T S) (x : α) (xs : List α) (s : S) : (forM f (x :: xs) s : Fl B T S) = (f s x).lp fun s' => forM f xs s' := by
  rw [forM]
  cases f s x <;> rfl
/-- a loop that goes through, by a state's law -/
theorem forM_inv {f : S → α → Fl S T S} (I : List α → S → Prop) : ∀ (xs pre : List α) (s : S), I pre s → (∀ pre s x post, pre ++ x :: post = pre ++ x :: post → I pre s → x ∈ xs → ∃ s', (f s x = .nx s' ∨ f s x = .ct s') ∧ I (pre ++ [x]) s') → ∃ s', (forM f xs s : Fl B T S) = .nx s' ∧ I (pre ++ xs) s'
  | [], pre, s, h, _ => ⟨s, rfl, by rw [List.append_nil]; exact h⟩
  | x :: xs, pre, s, h, k => by
    obtain ⟨s', e, h'⟩ := k pre s x xs rfl h List.mem_cons_self
    obtain ⟨s'', e2, h2⟩ := forM_inv I xs (pre ++ [x]) s' h' fun pre s y post e i m => k pre s y post e i (List.mem_cons_of_mem _ m)
    refine ⟨s'', ?_, by rw [List.append_assoc] at h2; exact h2⟩
    rw [forM_cons]
    rcases e with e | e <;> rw [e] <;> exact e2
/-- a fold -/
theorem forM_fold {f : S → α → Fl S T S} {g : S → α → S} (Q : S → Prop) : ∀ (xs : List α) (s : S), Q s → (∀ s x, x ∈ xs → Q s → f s x = .nx (g s x) ∧ Q (g s x)) → (forM f xs s : Fl B T S) = .nx (xs.foldl g s) ∧ Q (xs.foldl g s)
  | [], s, h, _ => ⟨rfl, h⟩
  | x :: xs, s, h, k => by
    obtain ⟨e, h'⟩ := k s x List.mem_cons_self h
    rw [forM_cons, e]
    exact forM_fold Q xs _ h' fun s y m q => k s y (List.mem_cons_of_mem _ m) q
/-- a search: leaves with r where p holds -/
theorem forM_find {f : Unit → α → Fl Unit T Unit} {p : α → Bool} {r : T} : ∀ (xs : List α), (∀ x ∈ xs, f () x = if p x = true then .rt r else .nx ()) → (forM f xs () : Fl B T Unit) = if xs.any p = true then .rt r else .nx ()
  | [], _ => rfl
  | x :: xs, k => by
    rw [forM_cons, k x List.mem_cons_self, List.any_cons]
    cases p x with
    | true => rfl
    | false => simpa using forM_find xs fun y m => k y (List.mem_cons_of_mem _ m)
theorem forM_raise {f : Unit → α → Fl Unit T Unit} {p : α → Bool} {c : String} : ∀ (xs : List α), (∀ x ∈ xs, f () x = if p x = true then .er c else .nx ()) → (forM f xs () : Fl B T Unit) = if xs.any p = true then .er c else .nx ()
  | [], _ => rfl
  | x :: xs, k => by
    rw [forM_cons, k x List.mem_cons_self, List.any_cons]
    cases p x with
    | true => rfl
    | false => simpa using forM_raise xs fun y m => k y (List.mem_cons_of_mem _ m)
theorem lcN_ok {c : α → Rs Bool} {f : α → Rs β} {p : α → Bool} {h : α → β} {xs : List α} (hl : xs.length ≤ 1000000) (hc : ∀ x ∈ xs, c x = .ok (p x)) (hf : ∀ x ∈ xs, p x = true → f x = .ok (h x)) : lcN c f xs = .ok ((xs.filter p).map h) := by
  unfold lcN
  rw [if_pos hl]
  clear hl
  induction xs with
  | nil => rfl
  | cons x xs ih =>
    have ih' := ih (fun y m => hc y (List.mem_cons_of_mem _ m)) fun y m => hf y (List.mem_cons_of_mem _ m)
    unfold lcM
    rw [hc x List.mem_cons_self, List.filter_cons]
    cases q : p x with
    | true => simp [hf x List.mem_cons_self q, ih']
    | false => simpa using ih'
theorem lcN_map {f : α → Rs β} {h : α → β} {xs : List α} (hl : xs.length ≤ 1000000) (hf : ∀ x ∈ xs, f x = .ok (h x)) : lcN (fun _ => .ok true) f xs = .ok (xs.map h) := by
  have := lcN_ok (c := fun _ => .ok true) (p := fun _ => true) hl (fun _ _ => rfl) fun x m _ => hf x m
  rwa [List.filter_eq_self.mpr (fun _ _ => rfl)] at this
theorem modO_pos {i j : Int} (h : 0 < j) : modO i j = some (i % j) := if_pos h
theorem divO_pos {i j : Int} (h : 0 < j) (h2 : j < 2 ^ 62) : divO i j = some (i / j) := if_pos ⟨h, by
  have : j.natAbs < 2 ^ 62 := by omega
  have hne : j.natAbs ≠ 0 := by omega
  have := (Nat.log2_lt hne).mpr this
  omega⟩
theorem mulO_l {i j : Int} (h : -(2 ^ 64) < i) (h2 : i < 2 ^ 64) : mulO i j = some (i * j) := if_pos (.inl ⟨h, h2⟩)
theorem mulO_r {i j : Int} (h : -(2 ^ 64) < j) (h2 : j < 2 ^ 64) : mulO i j = some (i * j) := if_pos (.inr ⟨h, h2⟩)
theorem rngO_ok {n : Int} (h : 0 ≤ n) (h2 : n < 2 ^ 62) : rngO 0 n = some (rng 0 n) := if_pos ⟨by omega, by omega, by omega, h2⟩
theorem rngO_ok2 {a n : Int} (h : -(2 ^ 62) ≤ a) (h2 : a < 2 ^ 62) (h3 : -(2 ^ 62) ≤ n) (h4 : n < 2 ^ 62) : rngO a n = some (rng a n) := if_pos ⟨h, h2, h3, h4⟩
theorem rgO_ok {n : Int} (h : 0 ≤ n) (h2 : n ≤ 16777216) : rgO 0 n = some (rng 0 n) := if_pos (RgOk.of_le (by omega) h2 (by omega) h)
theorem catO_ok {xs ys : List α} (h : xs.length + ys.length ≤ 1000000) : catO xs ys = some (xs ++ ys) := if_pos h
theorem repO_ok {xs : List α} {n : Int} (h : xs.length * n.toNat ≤ 1000000) (h2 : n < 2 ^ 40) (h3 : -(2 ^ 40) < n) : repO xs n = some (List.replicate n.toNat xs).flatten := if_pos ⟨h, h2, h3⟩
theorem rep1 {x : α} : ∀ {n : Nat}, (List.replicate n [x]).flatten = List.replicate n x
  | 0 => rfl
  | n + 1 => by rw [List.replicate_succ, List.flatten_cons, rep1, List.replicate_succ]; rfl
theorem appM_ok {xs : List α} {y : α} (h : xs.length ≤ 1000000) : appM xs y = .ok (xs ++ [y]) := if_pos h
theorem ixN_ok {n : Nat} {i : Int} (h : 0 ≤ i) (h2 : i < n) : ixN n i = some i.toNat := by unfold ixN; rw [if_pos h, if_pos h2]
theorem ixN_neg {n : Nat} {i : Int} (h : i < 0) (h2 : -(n : Int) ≤ i) : ixN n i = some (i + n).toNat := by unfold ixN; rw [if_neg (by omega), if_pos h2]
/-- the i-th one -/
def at0 [Inhabited α] (xs : List α) (i : Int) : α := xs.getD i.toNat default
theorem at0_mem [Inhabited α] {xs : List α} {i : Int} (h : 0 ≤ i) (h2 : i < xs.length) : at0 xs i ∈ xs := by
  unfold at0
  have : i.toNat < xs.length := by omega
  rw [List.getD_eq_getElem?_getD, List.getElem?_eq_getElem this]
  exact List.getElem_mem _
theorem at0_nat [Inhabited α] {xs : List α} {k : Nat} (h : k < xs.length) : at0 xs (k : Int) = xs[k] := by
  unfold at0
  rw [List.getD_eq_getElem?_getD, Int.toNat_natCast, List.getElem?_eq_getElem h]; rfl
theorem at0_get? [Inhabited α] {xs : List α} {i : Int} (h : 0 ≤ i) (h2 : i < xs.length) : xs[i.toNat]? = some (at0 xs i) := by
  have : i.toNat < xs.length := by omega
  unfold at0
  rw [List.getD_eq_getElem?_getD, List.getElem?_eq_getElem this]; rfl
theorem atI_ok [Inhabited α] {xs : List α} {i : Int} (h : 0 ≤ i) (h2 : i < xs.length) : atI xs i = some (at0 xs i) := by
  unfold atI
  rw [ixN_ok h h2, Option.bind_some, at0_get? h h2]
theorem pick2 {x y : α} {c : Bool} : opt (atI [x, y] (if c = true then (1 : Int) else 0)) = .ok (if c = true then y else x) := by cases c <;> rfl
theorem setM_ok {xs : List α} {j : Int} {y : α} (h : 0 ≤ j) (h2 : j < xs.length) : setM xs j y = .ok (xs.set j.toNat y) := by
  unfold setM
  rw [ixN_ok h h2]
theorem ixR_ok [Inhabited α] {xs : List α} {j : Int} (h : 0 ≤ j) (h2 : j < xs.length) : ixR xs j = .ok (j.toNat, at0 xs j) := by
  unfold ixR
  rw [ixN_ok h h2]
  show (match xs[j.toNat]? with | some x => _ | none => _) = _
  rw [at0_get? h h2]
theorem dputR_ok {d : List (Int × α)} {k : Int} {v : α} (h : d.length ≤ 1000000) : dputR d k v = .ok (dput d k v) := if_pos h
theorem cut_up {xs : List α} {k : Nat} : cut xs none (some (k : Int)) = xs.take k := by
  unfold cut
  rw [HT.sIx_none, HT.sIx_nat, List.drop_zero, Nat.sub_zero, List.take_eq_take_iff]
  omega
theorem cut_lo {xs : List α} {k : Nat} : cut xs (some (k : Int)) none = xs.drop k := by
  unfold cut
  rw [HT.sIx_none, HT.sIx_nat]
  rw [List.take_of_length_le (by rw [List.length_drop]; omega)]
  by_cases h : k ≤ xs.length
  · rw [Nat.min_eq_left h]
  · rw [Nat.min_eq_right (by omega), List.drop_of_length_le (Nat.le_refl _), List.drop_of_length_le (by omega)]
theorem cut_up' {xs : List α} {k : Int} (h : 0 ≤ k) : cut xs none (some k) = xs.take k.toNat := by
  obtain ⟨n, rfl⟩ := Int.eq_ofNat_of_zero_le h
  exact cut_up
theorem cut_lo' {xs : List α} {k : Int} (h : 0 ≤ k) : cut xs (some k) none = xs.drop k.toNat := by
  obtain ⟨n, rfl⟩ := Int.eq_ofNat_of_zero_le h
  exact cut_lo
theorem cut_all {xs : List α} : cut xs none none = xs := by
  unfold cut
  rw [HT.sIx_none, HT.sIx_none, List.drop_zero, Nat.sub_zero, List.take_length]
theorem rng_mem {a b x : Int} : x ∈ rng a b ↔ a ≤ x ∧ x < b := by
  unfold rng
  rw [List.mem_map]
  constructor
  · rintro ⟨k, hk, rfl⟩
    rw [List.mem_range] at hk
    omega
  · rintro ⟨h1, h2⟩
    exact ⟨(x - a).toNat, List.mem_range.mpr (by omega), by omega⟩
theorem rng_nil {a b : Int} (h : b ≤ a) : rng a b = [] := by
  unfold rng
  rw [show (b - a).toNat = 0 by omega]; rfl
theorem rng_cons {a b : Int} (h : a < b) : rng a b = a :: rng (a + 1) b := by
  unfold rng
  have : (b - a).toNat = (b - (a + 1)).toNat + 1 := by omega
  rw [this, List.range_succ_eq_map, List.map_cons, List.map_map]
  congr 1
  · omega
  · apply List.map_congr_left
    intro k _
    simp only [Function.comp]
    omega
theorem rng_snoc {a b : Int} (h : a ≤ b) : rng a (b + 1) = rng a b ++ [b] := by
  unfold rng
  have : (b + 1 - a).toNat = (b - a).toNat + 1 := by omega
  rw [this, List.range_succ, List.map_append]
  congr 1
  simp only [List.map_cons, List.map_nil]
  congr 1
  omega
theorem rng_nodup {a b : Int} : (rng a b).Nodup := by
  unfold rng
  rw [List.nodup_iff_pairwise_ne, List.pairwise_map]
  exact List.nodup_range.imp (by intro x y h e; omega)
theorem rng_lt {a b : Int} : (rng a b).Pairwise (· < ·) := by
  unfold rng
  rw [List.pairwise_map]
  exact List.pairwise_lt_range.imp (by intro x y h; omega)
theorem Out_ok {a : α} {P : α → Prop} {E : String → Prop} : Out (.ok a) P E = P a := Eq.trans rfl rfl
theorem Out_er {c : String} {P : α → Prop} {E : String → Prop} : Out (.er c) P E = E c := Eq.trans rfl rfl
theorem Out_no {P : α → Prop} {E : String → Prop} : Out .no P E = False := Eq.trans rfl rfl
theorem Out_b {m : Rs α} {f : α → Rs β} {P : β → Prop} {E : String → Prop} : Out (m.b f) P E = Out m (fun a => Out (f a) P E) E := by cases m <;> rfl
theorem OutF_nx {s : S} {D : FP B R S} : OutF (.nx s) D = D.nx s := Eq.trans rfl rfl
theorem OutF_rt {s : R} {D : FP B R S} : OutF (.rt s) D = D.rt s := Eq.trans rfl rfl
theorem OutF_bk {s : B} {D : FP B R S} : OutF (.bk s) D = D.bk s := Eq.trans rfl rfl
theorem OutF_ct {s : B} {D : FP B R S} : OutF (.ct s) D = D.ct s := Eq.trans rfl rfl
theorem OutF_er {s : String} {D : FP B R S} : OutF (.er s) D = D.er s := Eq.trans rfl rfl
theorem OutF_b {m : Fl B R S} {f : S → Fl B R T} {D : FP B R T} : OutF (m.b f) D = OutF m ⟨fun s => OutF (f s) D, D.rt, D.bk, D.ct, D.er⟩ := by cases m <;> rfl
theorem OutF_f {m : Rs α} {f : α → Fl B R T} {D : FP B R T} : OutF (m.f f) D = Out m (fun a => OutF (f a) D) D.er := by cases m <;> rfl
theorem Out_ite {p : Prop} [Decidable p] {a b : Rs α} {P : α → Prop} {E : String → Prop} : Out (if p then a else b) P E = if p then Out a P E else Out b P E := by split <;> rfl
theorem OutF_ite {p : Prop} [Decidable p] {a b : Fl B R S} {D : FP B R S} : OutF (if p then a else b) D = if p then OutF a D else OutF b D := by split <;> rfl
theorem OutF_v {m : Fl B R Empty} {D : FP B R S} : OutF (m.v : Fl B R S) D = OutF m ⟨fun _ => False, D.rt, D.bk, D.ct, D.er⟩ := by
  cases m with
  | nx s => exact s.elim
  | _ => rfl
theorem Out_fn {m : Fl B T S} {d : S → T} {P : T → Prop} {E : String → Prop} : Out (m.fn d) P E = OutF m ⟨fun s => P (d s), P, fun _ => False, fun _ => False, E⟩ := by cases m <;> rfl
theorem OutF_try {m : Fl B T S} {names : List String} {h : String → Fl B T S} {D : FP B T S} : OutF (tryM names h m) D = OutF m ⟨D.nx, D.rt, D.bk, D.ct, fun c => c ∈ names ∧ OutF (h c) D⟩ := by
  cases m with
  | er c =>
    show OutF (if c ∈ names then h c else .no) D = (c ∈ names ∧ OutF (h c) D)
    by_cases e : c ∈ names
    · rw [if_pos e]; simp [e]
    · rw [if_neg e]; simp only [e, false_and]; rfl
  | _ => rfl
theorem Out_and {m n : Rs Bool} {P : Bool → Prop} {E : String → Prop} : Out (andM m n) P E = Out m (fun a => if a = true then Out n P E else P false) E := by
  unfold andM
  rw [Out_b]
  congr 1
  funext a
  rw [Out_ite]; rfl
theorem Out_or {m n : Rs Bool} {P : Bool → Prop} {E : String → Prop} : Out (orM m n) P E = Out m (fun a => if a = true then P true else Out n P E) E := by
  unfold orM
  rw [Out_b]
  congr 1
  funext a
  rw [Out_ite]; rfl
theorem Out_opt {o : Option α} {P : α → Prop} {E : String → Prop} : Out (opt o) P E = ∃ a, o = some a ∧ P a := by
  cases o with
  | none => simp [opt, Out]
  | some a => simp [opt, Out]
theorem Out.get {m : Rs α} {P : α → Prop} (h : Out m P (fun _ => False)) : ∃ a, m = .ok a ∧ P a := by
  cases m with
  | ok a => exact ⟨a, rfl, h⟩
  | er c => exact h.elim
  | no => exact h.elim
theorem Out.of {m : Rs α} {P : α → Prop} {E : String → Prop} {a : α} (e : m = .ok a) (h : P a) : Out m P E := by rw [e]; exact h
theorem Out.imp {m : Rs α} {P P' : α → Prop} {E E' : String → Prop} (h : Out m P E) (k : ∀ a, P a → P' a) (e : ∀ c, E c → E' c) : Out m P' E' := h.mono (fun a _ => k a) e
theorem OutF_for {f : S → α → Fl S T S} {D : FP B T S} {xs : List α} {s : S} (I : List α → S → Prop) (h0 : I [] s) (hs : ∀ pre x post s, xs = pre ++ x :: post → I pre s → OutF (f s x) ⟨I (pre ++ [x]), D.rt, D.nx, I (pre ++ [x]), D.er⟩) (hf : ∀ s', I xs s' → D.nx s') : OutF (forM f xs s) D := by
  have : ∀ (ys pre : List α) (s : S), xs = pre ++ ys → I pre s → OutF (forM f ys s : Fl B T S) D := by
    intro ys
    induction ys with
    | nil => intro pre s e i; rw [List.append_nil] at e; subst e; exact hf s i
    | cons y ys ih =>
      intro pre s e i
      have := hs pre y ys s e i
      rw [forM_cons]
      cases q : f s y with
      | nx s' => rw [q] at this; exact ih (pre ++ [y]) s' (by rw [e]; simp) this
      | ct s' => rw [q] at this; exact ih (pre ++ [y]) s' (by rw [e]; simp) this
      | bk s' => rw [q] at this; exact this
      | rt s' => rw [q] at this; exact this
      | er s' => rw [q] at this; exact this
      | no => rw [q] at this; exact this
  exact this xs [] s rfl h0
theorem OutF_wh {c : S → Rs Bool} {f : S → Fl S T S} {D : FP B T S} (I : S → Prop) (μ : S → Nat) (hs : ∀ s, I s → Out (c s) (fun b => if b = true then OutF (f s) ⟨fun s' => I s' ∧ μ s' < μ s, D.rt, D.nx, fun s' => I s' ∧ μ s' < μ s, D.er⟩ else D.nx s) D.er) : ∀ (n : Nat) (s : S), I s → μ s < n → OutF (whM c f n s) D
  | 0, s, h, hn => absurd hn (Nat.not_lt_zero _)
  | n + 1, s, h, hn => by
    have := hs s h
    unfold whM
    cases q : c s with
    | ok b =>
      rw [q] at this
      cases b with
      | false => exact this
      | true =>
        replace this : OutF (f s) _ := this
        cases q2 : f s with
        | nx s' => rw [q2] at this; exact OutF_wh I μ hs n s' this.1 (by have := this.2; omega)
        | ct s' => rw [q2] at this; exact OutF_wh I μ hs n s' this.1 (by have := this.2; omega)
        | bk s' => rw [q2] at this; exact this
        | rt s' => rw [q2] at this; exact this
        | er s' => rw [q2] at this; exact this
        | no => rw [q2] at this; exact this
    | er b => rw [q] at this; exact this
    | no => rw [q] at this; exact this
/-- elements one by one -/
inductive All2 (Q : α → β → Prop) : List α → List β → Prop
  | nil : All2 Q [] []
  | cons {x y xs ys} : Q x y → All2 Q xs ys → All2 Q (x :: xs) (y :: ys)
theorem All2.len {Q : α → β → Prop} {xs : List α} {ys : List β} (h : All2 Q xs ys) : ys.length = xs.length := by
  induction h with
  | nil => rfl
  | cons _ _ ih => simp [ih]
theorem All2.mem {Q : α → β → Prop} {xs : List α} {ys : List β} (h : All2 Q xs ys) {y : β} (m : y ∈ ys) : ∃ x ∈ xs, Q x y := by
  induction h with
  | nil => cases m
  | cons q _ ih =>
    rcases List.mem_cons.mp m with rfl | m
    · exact ⟨_, List.mem_cons_self, q⟩
    · obtain ⟨x, hx, hq⟩ := ih m
      exact ⟨x, List.mem_cons_of_mem _ hx, hq⟩
theorem Out_lc {f : α → Rs β} {xs : List α} {P : List β → Prop} {E : String → Prop} (Q : α → β → Prop) (hl : xs.length ≤ 1000000) (hf : ∀ x ∈ xs, Out (f x) (Q x) fun _ => False) (k : ∀ ys, All2 Q xs ys → P ys) : Out (lcN (fun _ => .ok true) f xs) P E := by
  have : ∃ ys, lcM (fun _ => .ok true) f xs = .ok ys ∧ All2 Q xs ys := by
    clear hl k
    induction xs with
    | nil => exact ⟨[], rfl, .nil⟩
    | cons x xs ih =>
      obtain ⟨ys, e, h⟩ := ih fun y m => hf y (List.mem_cons_of_mem _ m)
      obtain ⟨y, e2, q⟩ := (hf x List.mem_cons_self).get
      refine ⟨y :: ys, ?_, .cons q h⟩
      unfold lcM
      simp [e, e2]
  obtain ⟨ys, e, h⟩ := this
  unfold lcN
  rw [if_pos hl, e]
  exact k ys h
theorem Out_lcF {c : α → Rs Bool} {f : α → Rs β} {xs : List α} {P : List β → Prop} {E : String → Prop} (p : α → Bool) (h : α → β) (hl : xs.length ≤ 1000000) (hc : ∀ x ∈ xs, c x = .ok (p x)) (hf : ∀ x ∈ xs, p x = true → f x = .ok (h x)) (k : P ((xs.filter p).map h)) : Out (lcN c f xs) P E := by
  rw [lcN_ok hl hc hf]; exact k
theorem iteI {c : Prop} [Decidable c] {a b : Prop} (h1 : c → a) (h2 : ¬c → b) : if c then a else b := by
  split
  · exact h1 (by assumption)
  · exact h2 (by assumption)
theorem OutF_cons {f : S → α → Fl S T S} {D : FP B T S} {x : α} {xs : List α} {s : S} (h : OutF (f s x) ⟨fun s' => OutF (forM f xs s' : Fl B T S) D, D.rt, D.nx, fun s' => OutF (forM f xs s' : Fl B T S) D, D.er⟩) : OutF (forM f (x :: xs) s) D := by
  rw [forM_cons]
  cases q : f s x with
  | nx s' => rw [q] at h; exact h
  | ct s' => rw [q] at h; exact h
  | bk s' => rw [q] at h; exact h
  | rt s' => rw [q] at h; exact h
  | er s' => rw [q] at h; exact h
  | no => rw [q] at h; exact h
theorem OutF_bI {m : Fl B R S} {k : S → Fl B R T} {D : FP B R T} (P : S → Prop) (h : OutF m ⟨P, D.rt, D.bk, D.ct, D.er⟩) (hk : ∀ s, P s → OutF (k s) D) : OutF (m.b k) D := by
  rw [OutF_b]
  exact OutF.mono h (fun s _ z => hk s z) (fun _ z => z) (fun _ z => z) (fun _ z => z) (fun _ z => z)
theorem OutF_nil {f : S → α → Fl S T S} {D : FP B T S} {s : S} (h : D.nx s) : OutF (forM f [] s) D := h
theorem Out.eq {m : Rs α} {a : α} (h : Out m (fun b => b = a) (fun _ => False)) : m = .ok a := by
  obtain ⟨b, e, rfl⟩ := h.get
  exact e
theorem emod_rng (a : Int) {q : Int} (h : 0 < q) : 0 ≤ a % q ∧ a % q < q := ⟨Int.emod_nonneg a (by omega), Int.emod_lt_of_pos a h⟩
theorem dhas_nil (k : Int) : dhas ([] : List (Int × α)) k = false := rfl
theorem dhas_cons (q : Int × α) (d : List (Int × α)) (k : Int) : dhas (q :: d) k = (decide (q.1 = k) || dhas d k) := rfl
theorem dhas_mem {d : List (Int × α)} {k : Int} : dhas d k = true ↔ k ∈ d.map (·.1) := by
  induction d with
  | nil => simp [dhas_nil]
  | cons q d ih => rw [dhas_cons, List.map_cons, List.mem_cons, ← ih, Bool.or_eq_true, decide_eq_true_eq, eq_comm]
theorem dput_keys {d : List (Int × α)} {k : Int} {v : α} : (dput d k v).map (·.1) = if dhas d k = true then d.map (·.1) else d.map (·.1) ++ [k] := by
  unfold dput
  by_cases h : dhas d k = true
  · rw [if_pos h, if_pos h, List.map_map]
    apply List.map_congr_left
    intro q _
    simp only [Function.comp]
    split <;> rfl
  · rw [if_neg h, if_neg h, List.map_append]; rfl
theorem dhas_dput {d : List (Int × α)} {k j : Int} {v : α} : dhas (dput d k v) j = (decide (j = k) || dhas d j) := by
  rw [Bool.eq_iff_iff, dhas_mem, dput_keys, Bool.or_eq_true, decide_eq_true_eq]
  by_cases h : dhas d k = true
  · rw [if_pos h, dhas_mem]
    constructor
    · exact .inr
    · rintro (rfl | m)
      · exact dhas_mem.mp h
      · exact m
  · rw [if_neg h, List.mem_append, List.mem_singleton, or_comm, dhas_mem]
theorem dput_len {d : List (Int × α)} {k : Int} {v : α} : (dput d k v).length ≤ d.length + 1 := by
  unfold dput
  split <;> simp
theorem dget_nil (k : Int) : dget ([] : List (Int × α)) k = none := rfl
theorem dget_cons (q : Int × α) (d : List (Int × α)) (k : Int) : dget (q :: d) k = if q.1 = k then some q.2 else dget d k := by
  unfold dget
  rw [List.find?_cons]
  by_cases h : q.1 = k
  · simp [h]
  · simp [h]
theorem dget_append {d e : List (Int × α)} {k : Int} : dget (d ++ e) k = (dget d k).or (dget e k) := by
  induction d with
  | nil => rfl
  | cons q d ih =>
    rw [List.cons_append, dget_cons, dget_cons, ih]
    split <;> rfl
theorem dget_none {d : List (Int × α)} {k : Int} : dget d k = none ↔ dhas d k = false := by
  rw [dhas_get]; cases dget d k <;> simp
theorem dget_dput {d : List (Int × α)} {k j : Int} {v : α} : dget (dput d k v) j = if j = k then some v else dget d j := by
  unfold dput
  by_cases h : dhas d k = true
  · rw [if_pos h]
    induction d with
    | nil => cases h
    | cons q d ih =>
      rw [List.map_cons, dget_cons, dget_cons]
      by_cases hq : q.1 = k
      · rw [if_pos hq]
        by_cases hj : j = k
        · rw [if_pos hj, if_pos (by show q.1 = j; rw [hq, hj])]
        · rw [if_neg hj, if_neg (fun e => hj (e.symm.trans hq)), if_neg (fun e => hj (e.symm.trans hq))]
          by_cases h2 : dhas d k = true
          · have := ih h2
            rw [if_neg hj] at this
            exact this
          · have : d.map (fun q => if q.1 = k then (q.1, v) else q) = d := by
              rw [List.map_congr_left (g := id)]
              · simp
              · intro p hp
                have : p.1 ≠ k := fun e => h2 (dhas_mem.mpr (List.mem_map.mpr ⟨p, hp, e⟩))
                simp [this]
            rw [this]
      · rw [if_neg hq]
        have h2 : dhas d k = true := by rw [dhas_cons, decide_eq_false hq, Bool.false_or] at h; exact h
        rw [ih h2]
        by_cases hj : j = k
        · rw [if_pos hj, if_pos hj, if_neg (fun e => hq (e.trans hj))]
        · rw [if_neg hj, if_neg hj]
  · rw [if_neg h, dget_append, dget_cons, dget_nil]
    by_cases hj : j = k
    · subst hj
      rw [if_pos rfl, if_pos rfl, dget_none.mpr (by simpa using h)]; rfl
    · rw [if_neg hj, if_neg (fun e => hj e.symm)]
      cases dget d j <;> rfl
end
end Br
namespace Br
open PySem PySem.Spec L2
/-- a pair of two different ones of so many -/
def okP (q : Int) (p : Int × Int) : Prop := 0 ≤ p.1 ∧ p.1 < q ∧ 0 ≤ p.2 ∧ p.2 < q ∧ p.1 ≠ p.2
instance {q p} : Decidable (okP q p) := by unfold okP; infer_instance
def fits (q : Int) (ps : List (Int × Int)) : Prop := 1 ≤ q ∧ q ≤ 24 ∧ ps.length ≤ 60 ∧ ∀ p ∈ ps, okP q p
instance {q ps} : Decidable (fits q ps) := by unfold fits; infer_instance
theorem ask_town_eq (q : Int) (ps : List (Int × Int)) : m_ask_town (q, ps) = if fits q ps then .ok () else .er "BadTown" := by
  unfold m_ask_town b_ask_town
  simp only [ok_b, ok_f, orM_ok2, ite_fn]
  by_cases h1 : (decide (q < 1) || (decide (24 < q) || decide (60 < (ps.length : Int)))) = true
  · rw [if_pos h1, if_neg]
    · rfl
    · rintro ⟨a, b, c, _⟩
      simp at h1
      omega
  · rw [if_neg h1]
    rw [forM_raise (p := fun p => !decide (okP q p)) (c := "BadTown") ps]
    · by_cases h2 : (ps.any fun p => !decide (okP q p)) = true
      · rw [if_pos h2, if_neg]
        · rfl
        · rintro ⟨_, _, _, d⟩
          simp at h2
          obtain ⟨a, b, hm, hn⟩ := h2
          exact hn (d _ hm)
      · rw [if_neg h2, if_pos]
        · rfl
        · simp at h1 h2
          exact ⟨by omega, by omega, by omega, fun p hp => h2 p.1 p.2 hp⟩
    · intro p _
      have e : (decide (p.1 = p.2) || (decide (min p.1 p.2 < 0) || decide (q ≤ max p.1 p.2))) = !decide (okP q p) := by
        rw [Bool.eq_iff_iff]
        simp only [Bool.or_eq_true, decide_eq_true_eq, Bool.not_eq_true', decide_eq_false_iff_not]
        unfold okP
        omega
      simp only [e]
      cases (!decide (okP q p)) <;> rfl
end Br

namespace Br
open PySem PySem.Spec L2
theorem town_eq (q : Int) (ps : List (Int × Int)) : m_Town_init (q, ps) = if fits q ps then .ok (q, ps) else .er "BadTown" := by
  unfold m_Town_init b_Town_init
  simp only [ok_b, ok_f, ask_town_eq]
  split <;> rfl
end Br

namespace Br
open PySem PySem.Spec L2
theorem nodup_len : ∀ (n : Nat) (xs : List Int), xs.Nodup → (∀ x ∈ xs, 0 ≤ x ∧ x < n) → xs.length ≤ n
  | 0, xs, _, h => by
    cases xs with
    | nil => exact Nat.le_refl _
    | cons x xs => have := h x List.mem_cons_self; omega
  | n + 1, xs, nd, h => by
    by_cases hm : (n : Int) ∈ xs
    · have h1 := nodup_len n (xs.erase n) (nd.erase _) fun x hx => by
        have h2 := (nd.mem_erase_iff).mp hx
        have := h x h2.2
        have := h2.1
        omega
      rw [List.length_erase_of_mem hm] at h1
      have := List.length_pos_of_mem hm
      omega
    · have h1 := nodup_len n xs nd fun x hx => by
        have := h x hx
        have : x ≠ n := fun e => hm (e ▸ hx)
        omega
      omega
theorem srtL_perm {α : Type} [LtO α] (xs : List α) : (srtL xs).Perm xs := List.mergeSort_perm _ _
theorem srtL_le (xs : List Int) : (srtL xs).Pairwise (· ≤ ·) := by
  have := List.pairwise_mergeSort (le := fun a b : Int => !LtO.lt b a) (fun a b c => by simp [LtO.lt]; omega) (fun a b => by simp [LtO.lt]; omega) xs
  exact this.imp fun h => by simpa [LtO.lt] using h
theorem srtL_lt {xs : List Int} (nd : xs.Nodup) : (srtL xs).Pairwise (· < ·) := by
  have h1 := srtL_le xs
  have h2 : (srtL xs).Nodup := (srtL_perm xs).nodup_iff.mpr nd
  have := h1.and h2
  exact this.imp fun h => by omega
theorem mem_srtL {α : Type} [LtO α] {xs : List α} {x : α} : x ∈ srtL xs ↔ x ∈ xs := (srtL_perm xs).mem_iff
theorem len_srtL {α : Type} [LtO α] {xs : List α} : (srtL xs).length = xs.length := (srtL_perm xs).length_eq
theorem at0_snoc {α : Type} [Inhabited α] {xs : List α} {y : α} {i : Int} (h : 0 ≤ i) (h2 : i < xs.length) : at0 (xs ++ [y]) i = at0 xs i := by
  unfold at0
  rw [List.getD_eq_getElem?_getD, List.getD_eq_getElem?_getD, List.getElem?_append_left (by omega)]
theorem filter_rises {n : Int} (p : Int → Bool) : ((rng 0 n).filter p).Pairwise (· < ·) := rng_lt.sublist List.filter_sublist
theorem step_ne {a b q : Int} (a0 : 0 ≤ a) (a1 : a < q) (b0 : 1 ≤ b) (b1 : b < q) : a ≠ (a + b) % q := fun e => by
  by_cases hh : a + b < q
  · rw [Int.emod_eq_of_lt (by omega) hh] at e; omega
  · have : (a + b) % q = a + b - q := by
      rw [← Int.sub_emod_right, Int.emod_eq_of_lt (by omega) (by omega)]
    omega
end Br

namespace Br
open PySem PySem.Spec L2
def goodW (n : Int) (ws : List Int) : Prop := (ws.length : Int) = n ∧ ∀ w ∈ ws, 0 ≤ w ∧ w ≤ 1000000000000000000000000000000000000000000000000000000000000
instance {n ws} : Decidable (goodW n ws) := by unfold goodW; infer_instance
theorem ask_wages_eq (n : Int) (ws : List Int) : m_ask_wages (n, ws) = if goodW n ws then .ok () else .er "BadWages" := by
  unfold m_ask_wages b_ask_wages
  simp only [ok_b, ok_f, orM_ok2, ite_fn]
  by_cases h1 : (ws.length : Int) = n
  · rw [if_neg (by simp [h1])]
    rw [forM_raise (p := fun w => decide (w < 0) || decide ((1000000000000000000000000000000000000000000000000000000000000 : Int) < w)) (c := "BadWages") ws]
    · by_cases h2 : (ws.any fun w => decide (w < 0) || decide ((1000000000000000000000000000000000000000000000000000000000000 : Int) < w)) = true
      · rw [if_pos h2, if_neg]
        · rfl
        · rintro ⟨_, d⟩
          obtain ⟨w, m, hw⟩ := List.any_eq_true.mp h2
          have := d w m
          simp only [Bool.or_eq_true, decide_eq_true_eq] at hw
          omega
      · rw [if_neg h2, if_pos]
        · rfl
        · refine ⟨h1, fun w m => ?_⟩
          have : ¬((decide (w < 0) || decide ((1000000000000000000000000000000000000000000000000000000000000 : Int) < w)) = true) := fun hw => h2 (List.any_eq_true.mpr ⟨w, m, hw⟩)
          simp only [Bool.or_eq_true, decide_eq_true_eq] at this
          omega
    · intro w _
      cases (decide (w < 0) || decide ((1000000000000000000000000000000000000000000000000000000000000 : Int) < w)) <;> rfl
  · rw [if_pos (by simp [h1]), if_neg fun h => h1 h.1]
    rfl
end Br
namespace Br
open PySem PySem.Spec L2
theorem sadO_S {a b : List Nat} (h : a.length + b.length ≤ 1000000) : sadO (SX.S a) (SX.S b) = some (SX.S (a ++ b)) := by
  unfold sadO
  rw [SX.S_len, SX.S_len, if_pos (Nat.le_trans h (by decide)), SX.S_cat]
theorem splO_S {a : List Nat} {s : Nat} (hs : s < 256) (h : a.length ≤ 1000000) : splO (SX.S a) (SX.S [s]) = some ((TL.spl [s] 0 [] a).map SX.S) := by
  unfold splO
  rw [if_pos, SX.split_S (by simp) (by simpa using hs)]
  refine ⟨by simp [SX.S_len], ?_⟩
  rw [SX.S_len]
  exact Nat.le_trans (Nat.add_le_add_right h 2) (by decide)
theorem joiO_S {s : Nat} {ys : List (List Nat)} (h : (ys.map (·.length)).sum + ys.length ≤ 1000000) : joiO (SX.S [s]) (ys.map SX.S) = some (SX.S (TL.joinL [s] ys)) := by
  unfold joiO
  rw [if_pos, SX.join_S]
  rw [SX.lens, List.length_map, SX.S_len]
  simp only [List.length_singleton, Nat.mul_one]
  omega
theorem slenO_S {a : List Nat} (h : a.length ≤ 1000000) : slenO (SX.S a) = some (a.length : Int) := by
  unfold slenO
  rw [SX.S_len, if_pos (Nat.le_trans h (by decide))]
theorem numL_len {n k : Nat} (hk : 1 ≤ k) (h : n < 10 ^ k) : (TL.numL n).length ≤ k := by
  unfold TL.numL
  rw [List.length_map]
  exact PySem.toDigits_len_pow (by omega) hk h
theorem strO_num {n : Nat} (h : n < 10 ^ 70) : strO (n : Int) = some (SX.S (TL.numL n)) := by
  unfold strO
  rw [if_pos, SX.num_S]
  rw [Int.natAbs_natCast]
  by_cases z : n = 0
  · rw [z]; decide
  · exact Nat.lt_trans ((Nat.log2_lt z).mpr (Nat.lt_of_lt_of_le h (by decide : 10 ^ 70 ≤ 2 ^ 240))) (by omega)
theorem S_inj {a b : List Nat} (h : SX.S a = SX.S b) : a = b := by
  have := congrArg (fun x : Str => x.cps.toList) h
  simpa using this
theorem sixO_S {c : Nat} {a : List Nat} (h : a.length ≤ 1000000) : sixO (SX.S (c :: a)) 0 = some (SX.S [c]) := by
  unfold sixO
  rw [SX.S_len, if_pos (by rw [List.length_cons]; exact Nat.le_trans (Nat.add_le_add_right h 1) (by decide))]
  simp [atI, ixN]
end Br

namespace Br
open PySem PySem.Spec L2
def numI (i : Int) : List Nat := TL.numL i.toNat
theorem numI_ne (i : Int) : numI i ≠ [] := TL.numL_ne _
theorem numI_free {i : Int} {s : Nat} (h : s < 48 ∨ 57 < s) : s ∉ numI i := TL.numL_free h
theorem numI_len {i : Int} {k : Nat} (hk : 1 ≤ k) (h0 : 0 ≤ i) (h : i < (10 : Int) ^ k) : (numI i).length ≤ k := by
  refine numL_len hk ?_
  have : ((i.toNat : Nat) : Int) < ((10 ^ k : Nat) : Int) := by
    rw [Int.toNat_of_nonneg h0]
    exact_mod_cast h
  exact_mod_cast this
theorem strO_int {i : Int} (h0 : 0 ≤ i) (h : i < (10 : Int) ^ 70) : strO i = some (SX.S (numI i)) := by
  have : i.toNat < 10 ^ 70 := by
    have : ((i.toNat : Nat) : Int) < ((10 ^ 70 : Nat) : Int) := by
      rw [Int.toNat_of_nonneg h0]
      exact_mod_cast h
    exact_mod_cast this
  have e := strO_num this
  rw [Int.toNat_of_nonneg h0] at e
  exact e
/-- no nought ahead -/
theorem numL_head : ∀ n : Nat, 1 ≤ n → ∃ c r, TL.numL n = c :: r ∧ 49 ≤ c
  | n, h => by
    by_cases k : n < 10
    · exact ⟨48 + n, [], TL.numL_lt k, by omega⟩
    · have ⟨c, r, e, l⟩ := numL_head (n / 10) (by omega)
      rw [TL.numL_step (by omega), e]
      exact ⟨c, r ++ [48 + n % 10], rfl, l⟩
termination_by n => n
decreasing_by omega
theorem figs_eq : ("0123456789" : Str) = SX.S [48, 49, 50, 51, 52, 53, 54, 55, 56, 57] := by decide +kernel
theorem zero_eq : ("0" : Str) = SX.S [48] := by decide +kernel
theorem empty_eq : ("" : Str) = SX.S [] := by decide +kernel
theorem nl_eq : ("\n" : Str) = SX.S [10] := by decide +kernel
theorem sp_eq : (" " : Str) = SX.S [32] := by decide +kernel
theorem sinO_S {c : Nat} {a : List Nat} : sinO (SX.S [c]) (SX.S a) = some (decide (c ∈ a)) := rfl
theorem signs_S (a : List Nat) : signs (SX.S a) = a.map fun c => SX.S [c] := rfl
theorem written_ok {i : Int} {m : Nat} (hm : 1 ≤ m) (hm2 : m ≤ 70) (h0 : 0 ≤ i) (h : i < (10 : Int) ^ m) : m_written_number (SX.S (numI i), (m : Int)) = .ok i := by
  have ll := numI_len hm h0 h
  have hd := TL.numL_digits i.toNat
  have ne := numI_ne i
  have hi : intO (SX.S (numI i)) = some i := by
    unfold intO
    rw [SX.S_len, if_pos (by omega)]
    have := TL.int_num (n := i.toNat) (by show (numI i).length ≤ 4300; omega)
    rw [SX.num_S] at this
    show intText? (SX.S (TL.numL i.toNat)) = _
    rw [this, Int.toNat_of_nonneg h0]
  have n1 : ¬SX.S (numI i) = SX.S [] := fun z => ne (S_inj z)
  have nz : ∃ c r, numI i = c :: r ∧ ¬(SX.S [c] = SX.S [48] ∧ (1 : Int) < ((c :: r).length : Int)) := by
    by_cases k : i.toNat = 0
    · refine ⟨48, [], by unfold numI; rw [k]; exact TL.numL_lt (by omega), fun z => ?_⟩
      have := z.2
      simp at this
    · have ⟨c, r, e, l⟩ := numL_head i.toNat (by omega)
      refine ⟨c, r, e, fun z => ?_⟩
      have := S_inj z.1
      simp at this
      omega
  have ⟨c, r, e, nn⟩ := nz
  apply Out.eq
  unfold m_written_number b_written_number
  simp only [b_ok, ok_b, ok_f, opt_some, Out_b, Out_ok, Out_er, OutF_b, OutF_f, OutF_nx, OutF_rt, OutF_bk, OutF_ct, OutF_er, Out_ite, OutF_ite, OutF_v, Out_fn, OutF_try, Out_and, Out_or, andM_ok2, orM_ok2, isX_none, isX_some, figs_eq, zero_eq, empty_eq]
  rw [slenO_S (by omega), show sixO (SX.S (numI i)) 0 = some (SX.S [c]) from by rw [e]; exact sixO_S (by rw [e, List.length_cons] at ll; omega)]
  simp only [b_ok, ok_b, ok_f, opt_some, Out_b, Out_ok, Out_er, OutF_b, OutF_f, OutF_nx, OutF_rt, OutF_bk, OutF_ct, OutF_er, Out_ite, OutF_ite, OutF_v, Out_fn, OutF_try, Out_and, Out_or, andM_ok2, orM_ok2, isX_none, isX_some]
  have hl1 : ¬((m : Int) < ((numI i).length : Int)) := by omega
  simp only [decide_eq_false n1, decide_eq_false hl1, Bool.false_eq_true, if_false]
  by_cases hz : SX.S [c] = SX.S [48]
  · have hl : ¬((1 : Int) < ((numI i).length : Int)) := fun k => nn ⟨hz, by rw [e] at k; exact k⟩
    simp only [decide_eq_true hz, decide_eq_false hl, if_true, Bool.false_eq_true, if_false]
    rw [signs_S]
    refine OutF_for (fun _ _ => True) trivial (fun pre s post t e2 _ => ?_) (fun _ _ => ?_)
    · have ms : s ∈ (numI i).map fun c => SX.S [c] := by rw [e2]; simp
      have ⟨d, md, ed⟩ := List.mem_map.mp ms
      have dd := hd d md
      subst ed
      rw [sinO_S]
      simp only [b_ok, ok_b, ok_f, opt_some, Out_b, Out_ok, Out_er, OutF_b, OutF_f, OutF_nx, OutF_rt, OutF_bk, OutF_ct, OutF_er, Out_ite, OutF_ite, OutF_v, Out_fn, OutF_try, Out_and, Out_or, andM_ok2, orM_ok2, isX_none, isX_some, Option.map_some]
      rw [if_neg]
      · trivial
      · have : d ∈ [48, 49, 50, 51, 52, 53, 54, 55, 56, 57] := by
          simp only [List.mem_cons, List.not_mem_nil, or_false]
          have := dd.1; have := dd.2
          omega
        simp [this]
    · rw [hi]
      simp only [b_ok, ok_b, ok_f, opt_some, Out_b, Out_ok, Out_er, OutF_b, OutF_f, OutF_nx, OutF_rt, OutF_bk, OutF_ct, OutF_er, Out_ite, OutF_ite, OutF_v, Out_fn, OutF_try, Out_and, Out_or, andM_ok2, orM_ok2, isX_none, isX_some]
  · simp only [decide_eq_false hz, Bool.false_eq_true, if_false]
    rw [signs_S]
    refine OutF_for (fun _ _ => True) trivial (fun pre s post t e2 _ => ?_) (fun _ _ => ?_)
    · have ms : s ∈ (numI i).map fun c => SX.S [c] := by rw [e2]; simp
      have ⟨d, md, ed⟩ := List.mem_map.mp ms
      have dd := hd d md
      subst ed
      rw [sinO_S]
      simp only [b_ok, ok_b, ok_f, opt_some, Out_b, Out_ok, Out_er, OutF_b, OutF_f, OutF_nx, OutF_rt, OutF_bk, OutF_ct, OutF_er, Out_ite, OutF_ite, OutF_v, Out_fn, OutF_try, Out_and, Out_or, andM_ok2, orM_ok2, isX_none, isX_some, Option.map_some]
      rw [if_neg]
      · trivial
      · have : d ∈ [48, 49, 50, 51, 52, 53, 54, 55, 56, 57] := by
          simp only [List.mem_cons, List.not_mem_nil, or_false]
          have := dd.1; have := dd.2
          omega
        simp [this]
    · rw [hi]
      simp only [b_ok, ok_b, ok_f, opt_some, Out_b, Out_ok, Out_er, OutF_b, OutF_f, OutF_nx, OutF_rt, OutF_bk, OutF_ct, OutF_er, Out_ite, OutF_ite, OutF_v, Out_fn, OutF_try, Out_and, Out_or, andM_ok2, orM_ok2, isX_none, isX_some]
def cQ : List Nat := [113, 117, 97, 114, 116, 101, 114, 115]
def cB : List Nat := [98, 114, 105, 100, 103, 101]
theorem cQ_eq : ("quarters" : Str) = SX.S cQ := by decide +kernel
theorem cB_eq : ("bridge" : Str) = SX.S cB := by decide +kernel
def lnQ (q : Int) : List Nat := cQ ++ 32 :: numI q
def wTl : Option Int → List Nat
  | none => []
  | some w => 32 :: numI w
def lnB (r : (Int × Int) × Option Int) : List Nat := cB ++ 32 :: (numI r.1.1 ++ 32 :: (numI r.1.2 ++ wTl r.2))
def txt (q : Int) (rows : List ((Int × Int) × Option Int)) : List Nat := TL.joinL [10] (lnQ q :: rows.map lnB)
def okR (q : Int) (r : (Int × Int) × Option Int) : Prop := okP q r.1 ∧ ∀ w ∈ r.2, 0 ≤ w ∧ w ≤ 1000000000000000000000000000000000000000000000000000000000000
def wOf (r : (Int × Int) × Option Int) : Int := r.2.getD 1
theorem lnB_len {q : Int} (q2 : q ≤ 24) {r : (Int × Int) × Option Int} (h : okR q r) : (lnB r).length ≤ 80 := by
  have ⟨⟨a1, a2, a3, a4, _⟩, w⟩ := h
  have l1 := numI_len (k := 2) (i := r.1.1) (by omega) a1 (by omega)
  have l2 := numI_len (k := 2) (i := r.1.2) (by omega) a3 (by omega)
  unfold lnB
  have l3 : (wTl r.2).length ≤ 62 := by
    cases e : r.2 with
    | none => simp [wTl]
    | some x =>
      have := w x (by rw [e]; rfl)
      have l := numI_len (k := 61) (i := x) (by omega) this.1 (by omega)
      simp only [wTl, List.length_cons]
      omega
  simp only [List.length_append, List.length_cons]
  have : cB.length = 6 := rfl
  omega
theorem wTl_free {o : Option Int} : (10 : Nat) ∉ wTl o := by
  cases o with
  | none => simp [wTl]
  | some w => simp [wTl, numI_free (i := w) (s := 10) (by omega)]
theorem lnB_free (r : (Int × Int) × Option Int) : (10 : Nat) ∉ lnB r := by
  unfold lnB
  simp only [List.mem_append, List.mem_cons]
  have h1 := numI_free (i := r.1.1) (s := 10) (by omega)
  have h2 := numI_free (i := r.1.2) (s := 10) (by omega)
  have h3 := wTl_free (o := r.2)
  have h4 : (10 : Nat) ∉ cB := by decide
  rintro (z | z | z | z | z | z)
  · exact h4 z
  · omega
  · exact h1 z
  · omega
  · exact h2 z
  · exact h3 z
theorem lnQ_free (q : Int) : (10 : Nat) ∉ lnQ q := by
  unfold lnQ
  simp only [List.mem_append, List.mem_cons]
  have h1 := numI_free (i := q) (s := 10) (by omega)
  have h4 : (10 : Nat) ∉ cQ := by decide
  rintro (z | z | z)
  · exact h4 z
  · omega
  · exact h1 z
theorem split2 {p : List Nat} {rest : List Nat} (h : (32 : Nat) ∉ p) : TL.spl [32] 0 [] (p ++ 32 :: rest) = p :: TL.spl [32] 0 [] rest := by
  have := TL.spl_part1 (s := 32) (S := []) (p := p) (rest := rest) (acc := []) h
  simpa using this
theorem split1 {p : List Nat} (h : (32 : Nat) ∉ p) : TL.spl [32] 0 [] p = [p] := by
  have := TL.spl_last1 (s := 32) (S := []) (p := p) (acc := []) h
  simpa using this
theorem bridge_ok {q : Int} (q2 : q ≤ 24) {r : (Int × Int) × Option Int} (h : okR q r) : m_bridge_line (SX.S (lnB r)) = .ok (r.1.1, r.1.2, wOf r) := by
  have ll := lnB_len q2 h
  have ⟨⟨a1, a2, a3, a4, _⟩, w⟩ := h
  have w1 := written_ok (m := 2) (i := r.1.1) (by omega) (by omega) a1 (by omega)
  have w2 := written_ok (m := 2) (i := r.1.2) (by omega) (by omega) a3 (by omega)
  have f1 := numI_free (i := r.1.1) (s := 32) (by omega)
  have f2 := numI_free (i := r.1.2) (s := 32) (by omega)
  have fB : (32 : Nat) ∉ cB := by decide
  obtain ⟨⟨x, y⟩, o⟩ := r
  have u1 : m_written_number (SX.S (numI x), 2) = .ok x := w1
  have u2 : m_written_number (SX.S (numI y), 2) = .ok y := w2
  have g1 : (32 : Nat) ∉ numI x := f1
  have g2 : (32 : Nat) ∉ numI y := f2
  apply Out.eq
  unfold m_bridge_line b_bridge_line
  try simp only [b_ok, ok_b, ok_f, opt_some, Out_b, Out_ok, Out_er, OutF_f, OutF_nx, OutF_rt, OutF_bk, OutF_ct, OutF_er, Out_ite, OutF_ite, OutF_v, Out_fn, OutF_try, Out_and, Out_or, andM_ok2, orM_ok2, isX_none, isX_some]
  rw [sp_eq, splO_S (by omega) (by omega)]
  cases o with
  | none =>
    have e : TL.spl [32] 0 [] (lnB ((x, y), none)) = [cB, numI x, numI y] := by
      unfold lnB
      rw [split2 fB, split2 g1]
      simp only [wTl, List.append_nil]
      rw [split1 g2]
    rw [e]
    try simp only [b_ok, ok_b, ok_f, opt_some, Out_b, Out_ok, Out_er, OutF_f, OutF_nx, OutF_rt, OutF_bk, OutF_ct, OutF_er, Out_ite, OutF_ite, OutF_v, Out_fn, OutF_try, Out_and, Out_or, andM_ok2, orM_ok2, isX_none, isX_some]
    rw [show atI ([cB, numI x, numI y].map SX.S) 0 = some (SX.S cB) from rfl, show atI ([cB, numI x, numI y].map SX.S) 1 = some (SX.S (numI x)) from rfl, show atI ([cB, numI x, numI y].map SX.S) 2 = some (SX.S (numI y)) from rfl]
    simp only [b_ok, ok_b, ok_f, opt_some, Out_b, Out_ok, Out_er, OutF_b, OutF_f, OutF_nx, OutF_rt, OutF_bk, OutF_ct, OutF_er, Out_ite, OutF_ite, OutF_v, Out_fn, OutF_try, Out_and, Out_or, andM_ok2, orM_ok2, isX_none, isX_some, cB_eq, u1, u2]
    simp [wOf]
  | some z =>
    have hz := w z rfl
    have w3 := written_ok (m := 61) (i := z) (by omega) (by omega) hz.1 (by omega)
    have u3 : m_written_number (SX.S (numI z), 61) = .ok z := w3
    have f3 := numI_free (i := z) (s := 32) (by omega)
    have e : TL.spl [32] 0 [] (lnB ((x, y), some z)) = [cB, numI x, numI y, numI z] := by
      unfold lnB
      rw [split2 fB, split2 g1]
      simp only [wTl]
      rw [split2 g2, split1 f3]
    rw [e]
    try simp only [b_ok, ok_b, ok_f, opt_some, Out_b, Out_ok, Out_er, OutF_f, OutF_nx, OutF_rt, OutF_bk, OutF_ct, OutF_er, Out_ite, OutF_ite, OutF_v, Out_fn, OutF_try, Out_and, Out_or, andM_ok2, orM_ok2, isX_none, isX_some]
    rw [show atI ([cB, numI x, numI y, numI z].map SX.S) 0 = some (SX.S cB) from rfl, show atI ([cB, numI x, numI y, numI z].map SX.S) 1 = some (SX.S (numI x)) from rfl, show atI ([cB, numI x, numI y, numI z].map SX.S) 2 = some (SX.S (numI y)) from rfl, show atI ([cB, numI x, numI y, numI z].map SX.S) 3 = some (SX.S (numI z)) from rfl]
    simp only [b_ok, ok_b, ok_f, opt_some, Out_b, Out_ok, Out_er, OutF_b, OutF_f, OutF_nx, OutF_rt, OutF_bk, OutF_ct, OutF_er, Out_ite, OutF_ite, OutF_v, Out_fn, OutF_try, Out_and, Out_or, andM_ok2, orM_ok2, isX_none, isX_some, cB_eq, u1, u2, u3]
    simp [wOf, u3]
end Br

namespace Br
open PySem PySem.Spec L2
def badW (m : Nat) (x : List Nat) : Bool := x.isEmpty || (decide (m < x.length) || (decide (x.head? = some 48) && decide (1 < x.length) || x.any fun c => decide (c < 48) || decide (57 < c)))
def dvI (x : List Nat) : Int := ((PySem.NumText.digitsVal x : Nat) : Int)
theorem sgn_dec (c : Nat) : (opt ((sinO (SX.S [c]) (SX.S [48, 49, 50, 51, 52, 53, 54, 55, 56, 57])).map fun b => if true then !b else b) : Rs Bool) = .ok (decide (c < 48) || decide (57 < c)) := by
  rw [sinO_S]
  simp only [Option.map_some, if_true]
  show Rs.ok _ = _
  congr 1
  by_cases h : c < 48 ∨ 57 < c
  · have : c ∉ [48, 49, 50, 51, 52, 53, 54, 55, 56, 57] := by simp; omega
    rw [decide_eq_false this]
    simpa using h
  · have : c ∈ [48, 49, 50, 51, 52, 53, 54, 55, 56, 57] := by simp; omega
    rw [decide_eq_true this]
    simp at h ⊢
    exact h
theorem written_all {x : List Nat} {m : Nat} (hm : m ≤ 70) (hl : x.length ≤ 1000) : m_written_number (SX.S x, (m : Int)) = if badW m x = true then .er "BadText" else .ok (dvI x) := by
  cases x with
  | nil =>
    unfold m_written_number b_written_number
    simp only [b_ok, ok_b, er_b, no_b, ok_f, er_f, no_f, nx_b, rt_b, bk_b, ct_b, erF_b, noF_b, rt_v, er_v, bk_v, ct_v, no_v, nx_fn, rt_fn, er_fn, opt_some, opt_none, nx_lp, ct_lp, bk_lp, rt_lp, er_lp, forM_nil, try_nx, try_rt, try_er, isX_none, isX_some, andM_ok2, orM_ok2, ite_fn, ite_lp, empty_eq]
    rfl
  | cons c r =>
    have n1 : decide (SX.S (c :: r) = SX.S []) = false := decide_eq_false fun z => by have := S_inj z; cases this
    have n2 : decide (SX.S [c] = SX.S [48]) = decide (c = 48) := by
      by_cases k : c = 48
      · rw [decide_eq_true k, k]; simp
      · rw [decide_eq_false k]; exact decide_eq_false fun z => k (by have := S_inj z; simpa using this)
    have key : ∀ b : Bool, (b = (decide (m < (c :: r).length) || (decide (c = 48) && decide (1 < (c :: r).length)))) → m_written_number (SX.S (c :: r), (m : Int)) = if (b || (c :: r).any fun c => decide (c < 48) || decide (57 < c)) = true then .er "BadText" else .ok (dvI (c :: r)) := by
      intro b hb
      unfold m_written_number b_written_number
      simp only [b_ok, ok_b, er_b, no_b, ok_f, er_f, no_f, nx_b, rt_b, bk_b, ct_b, erF_b, noF_b, rt_v, er_v, bk_v, ct_v, no_v, nx_fn, rt_fn, er_fn, opt_some, opt_none, nx_lp, ct_lp, bk_lp, rt_lp, er_lp, forM_nil, try_nx, try_rt, try_er, isX_none, isX_some, andM_ok2, orM_ok2, ite_fn, ite_lp, figs_eq, zero_eq, empty_eq, n1, slenO_S (show (c :: r).length ≤ 1000000 by omega), sixO_S (c := c) (a := r) (by simp at hl; omega), n2]
      have e1 : (decide ((m : Int) < ((c :: r).length : Int)) || decide (c = 48) && decide ((1 : Int) < ((c :: r).length : Int))) = b := by
        rw [hb]
        congr 1
        · simp only [Int.ofNat_lt]
        · congr 1
          exact decide_eq_decide.mpr (by omega)
      rw [Bool.false_or, e1]
      cases b with
      | true => rw [if_pos rfl, Bool.true_or, if_pos rfl]
      | false =>
        rw [if_neg (by simp), Bool.false_or]
        rw [forM_raise (B := Unit) (c := "BadText") (p := fun v : Str => v.cps.toList.any fun c => decide (c < 48) || decide (57 < c))]
        · have ea : ((signs (SX.S (c :: r))).any fun v : Str => v.cps.toList.any fun c => decide (c < 48) || decide (57 < c)) = (c :: r).any fun c => decide (c < 48) || decide (57 < c) := by
            rw [signs_S, List.any_map]
            congr 1
            funext d
            simp
          rw [ea]
          by_cases hk : ((c :: r).any fun c => decide (c < 48) || decide (57 < c)) = true
          · rw [if_pos hk, if_pos hk]; rfl
          · rw [if_neg hk, if_neg hk]
            have hd : PySem.NumText.AllDigits (c :: r) := fun d md => by
              have : ¬((decide (d < 48) || decide (57 < d)) = true) := fun z => hk (List.any_eq_true.mpr ⟨d, md, z⟩)
              simp at this
              exact this
            have hlen : (c :: r).length ≤ 70 := by
              have : decide (m < (c :: r).length) = false := by
                cases h : decide (m < (c :: r).length)
                · rfl
                · rw [h] at hb; simp at hb
              have := of_decide_eq_false this
              omega
            have : intO (SX.S (c :: r)) = some (dvI (c :: r)) := by
              unfold intO
              rw [SX.S_len, if_pos (by omega)]
              exact PySem.intText_digits (x := SX.S (c :: r)) hd (by simp) (by rw [SX.S_len]; omega)
            rw [this]
            rfl
        · intro v mv
          rw [signs_S] at mv
          have ⟨d, md, ed⟩ := List.mem_map.mp mv
          subst ed
          have := sgn_dec d
          simp only [if_true] at this ⊢
          rw [this]
          simp only [ok_f]
          simp
    have := key _ rfl
    rw [this]
    unfold badW
    simp [Bool.or_assoc]
end Br

namespace Br
open PySem PySem.Spec L2
theorem spl_len : ∀ (l acc : List Nat), ∀ p ∈ TL.spl [32] 0 acc l, p.length ≤ acc.length + l.length
  | [], acc, p, m => by
    rw [TL.spl_nil] at m
    rw [List.mem_singleton.mp m]; simp
  | c :: r, acc, p, m => by
    cases h : TL.pre [32] (c :: r) with
    | true =>
      rw [TL.spl_hit h] at m
      rcases List.mem_cons.mp m with m | m
      · rw [m]; omega
      · have := spl_len r [] p m
        simp only [List.length_cons, List.length_nil] at *
        omega
    | false =>
      rw [TL.spl_miss h] at m
      have := spl_len r (acc ++ [c]) p m
      simp only [List.length_append, List.length_cons, List.length_nil] at *
      omega
theorem spl_ne : ∀ (l acc : List Nat), TL.spl [32] 0 acc l ≠ []
  | [], acc => by rw [TL.spl_nil]; simp
  | c :: r, acc => by
    cases h : TL.pre [32] (c :: r) with
    | true => rw [TL.spl_hit h]; simp
    | false => rw [TL.spl_miss h]; exact spl_ne r _
def brW : List (List Nat) → Option (Int × Int × Int)
  | [w, a, b] => if w = cB ∧ badW 2 a = false ∧ badW 2 b = false then some (dvI a, dvI b, 1) else none
  | [w, a, b, c] => if w = cB ∧ badW 61 c = false ∧ badW 2 a = false ∧ badW 2 b = false then some (dvI a, dvI b, dvI c) else none
  | _ => none
def brO (l : List Nat) : Option (Int × Int × Int) := brW (TL.spl [32] 0 [] l)
def btO {α : Type} (o : Option α) : Rs α := match o with
  | some t => .ok t
  | none => .er "BadText"
theorem bridge_all {l : List Nat} (hl : l.length ≤ 1000) : m_bridge_line (SX.S l) = btO (brO l) := by
  have hp := spl_len l []
  have ne := spl_ne l []
  unfold brO m_bridge_line b_bridge_line
  simp only [b_ok, ok_b, er_b, no_b, ok_f, er_f, no_f, nx_b, rt_b, bk_b, ct_b, erF_b, noF_b, rt_v, er_v, bk_v, ct_v, no_v, nx_fn, rt_fn, er_fn, opt_some, opt_none, nx_lp, ct_lp, bk_lp, rt_lp, er_lp, forM_nil, try_nx, try_rt, try_er, isX_none, isX_some, andM_ok2, orM_ok2, ite_fn, ite_lp, sp_eq, cB_eq]
  rw [splO_S (by omega) (by omega)]
  generalize TL.spl [32] 0 [] l = ws at *
  have at0_ : ∀ w r, atI ((w :: r : List (List Nat)).map SX.S) 0 = some (SX.S w) := fun w r => by rw [atI_ok (Int.le_refl _) (by simp)]; rfl
  have hW : ∀ w : List Nat, decide (SX.S w = SX.S cB) = decide (w = cB) := fun w => decide_eq_decide.mpr ⟨S_inj, fun h => by rw [h]⟩
  have w2 : ∀ x ∈ ws, m_written_number (SX.S x, 2) = if badW 2 x = true then .er "BadText" else .ok (dvI x) := fun x m => written_all (m := 2) (by omega) (by have := hp x m; simp at this; omega)
  have w61 : ∀ x ∈ ws, m_written_number (SX.S x, 61) = if badW 61 x = true then .er "BadText" else .ok (dvI x) := fun x m => written_all (m := 61) (by omega) (by have := hp x m; simp at this; omega)
  match ws, ne with
  | [w], _ =>
    simp only [b_ok, ok_b, er_b, no_b, ok_f, er_f, no_f, nx_b, rt_b, bk_b, ct_b, erF_b, noF_b, rt_v, er_v, bk_v, ct_v, no_v, nx_fn, rt_fn, er_fn, opt_some, opt_none, nx_lp, ct_lp, bk_lp, rt_lp, er_lp, forM_nil, try_nx, try_rt, try_er, isX_none, isX_some, andM_ok2, orM_ok2, ite_fn, ite_lp, at0_, hW]
    cases decide (w = cB) <;> rfl
  | [w, a], _ =>
    simp only [b_ok, ok_b, er_b, no_b, ok_f, er_f, no_f, nx_b, rt_b, bk_b, ct_b, erF_b, noF_b, rt_v, er_v, bk_v, ct_v, no_v, nx_fn, rt_fn, er_fn, opt_some, opt_none, nx_lp, ct_lp, bk_lp, rt_lp, er_lp, forM_nil, try_nx, try_rt, try_er, isX_none, isX_some, andM_ok2, orM_ok2, ite_fn, ite_lp, at0_, hW]
    cases decide (w = cB) <;> rfl
  | [w, a, b], _ =>
    simp only [b_ok, ok_b, er_b, no_b, ok_f, er_f, no_f, nx_b, rt_b, bk_b, ct_b, erF_b, noF_b, rt_v, er_v, bk_v, ct_v, no_v, nx_fn, rt_fn, er_fn, opt_some, opt_none, nx_lp, ct_lp, bk_lp, rt_lp, er_lp, forM_nil, try_nx, try_rt, try_er, isX_none, isX_some, andM_ok2, orM_ok2, ite_fn, ite_lp, at0_, hW]
    by_cases hw : w = cB
    · simp only [decide_eq_true hw]
      simp only [show atI ([w, a, b].map SX.S) 1 = some (SX.S a) from rfl, show atI ([w, a, b].map SX.S) 2 = some (SX.S b) from rfl, b_ok, ok_b, er_b, no_b, ok_f, er_f, no_f, nx_b, rt_b, bk_b, ct_b, erF_b, noF_b, rt_v, er_v, bk_v, ct_v, no_v, nx_fn, rt_fn, er_fn, opt_some, opt_none, nx_lp, ct_lp, bk_lp, rt_lp, er_lp, forM_nil, try_nx, try_rt, try_er, isX_none, isX_some, andM_ok2, orM_ok2, ite_fn, ite_lp, w2 a (by simp), w2 b (by simp), brW]
      rw [if_neg (by simp), if_neg (by simp)]
      cases ha : badW 2 a <;> cases hb : badW 2 b <;> simp [hw, btO]
    · simp only [decide_eq_false hw]
      simp [brW, hw, btO]
  | [w, a, b, c], _ =>
    simp only [b_ok, ok_b, er_b, no_b, ok_f, er_f, no_f, nx_b, rt_b, bk_b, ct_b, erF_b, noF_b, rt_v, er_v, bk_v, ct_v, no_v, nx_fn, rt_fn, er_fn, opt_some, opt_none, nx_lp, ct_lp, bk_lp, rt_lp, er_lp, forM_nil, try_nx, try_rt, try_er, isX_none, isX_some, andM_ok2, orM_ok2, ite_fn, ite_lp, at0_, hW]
    by_cases hw : w = cB
    · simp only [decide_eq_true hw]
      simp only [show atI ([w, a, b, c].map SX.S) 1 = some (SX.S a) from rfl, show atI ([w, a, b, c].map SX.S) 2 = some (SX.S b) from rfl, show atI ([w, a, b, c].map SX.S) 3 = some (SX.S c) from rfl, b_ok, ok_b, er_b, no_b, ok_f, er_f, no_f, nx_b, rt_b, bk_b, ct_b, erF_b, noF_b, rt_v, er_v, bk_v, ct_v, no_v, nx_fn, rt_fn, er_fn, opt_some, opt_none, nx_lp, ct_lp, bk_lp, rt_lp, er_lp, forM_nil, try_nx, try_rt, try_er, isX_none, isX_some, andM_ok2, orM_ok2, ite_fn, ite_lp, w2 a (by simp), w2 b (by simp), w61 c (by simp), brW]
      rw [if_neg (by simp), if_pos (by simp)]
      cases ha : badW 2 a <;> cases hb : badW 2 b <;> cases hc : badW 61 c <;> simp [hw, btO]
    · simp only [decide_eq_false hw]
      simp [brW, hw, btO]
  | w :: a :: b :: c :: d :: r, _ =>
    simp only [b_ok, ok_b, er_b, no_b, ok_f, er_f, no_f, nx_b, rt_b, bk_b, ct_b, erF_b, noF_b, rt_v, er_v, bk_v, ct_v, no_v, nx_fn, rt_fn, er_fn, opt_some, opt_none, nx_lp, ct_lp, bk_lp, rt_lp, er_lp, forM_nil, try_nx, try_rt, try_er, isX_none, isX_some, andM_ok2, orM_ok2, ite_fn, ite_lp, at0_, hW]
    rw [if_pos (by simp; omega)]
    rfl
theorem numI_dv {i : Int} (h : 0 ≤ i) : dvI (numI i) = i := by
  unfold dvI numI
  rw [TL.numL_val]
  exact Int.toNat_of_nonneg h
theorem numI_bad {i : Int} {k : Nat} (hk : 1 ≤ k) (h0 : 0 ≤ i) (h : i < (10 : Int) ^ k) : badW k (numI i) = false := by
  have ll := numI_len hk h0 h
  have ne := numI_ne i
  have hd := TL.numL_digits i.toNat
  unfold badW
  have e1 : (numI i).isEmpty = false := by cases e : numI i with
    | nil => exact absurd e ne
    | cons _ _ => rfl
  have e2 : decide (k < (numI i).length) = false := decide_eq_false (by omega)
  have e3 : ((numI i).any fun c => decide (c < 48) || decide (57 < c)) = false := by
    rw [List.any_eq_false]
    intro c mc
    have := hd c mc
    simp
    omega
  have e4 : (decide ((numI i).head? = some 48) && decide (1 < (numI i).length)) = false := by
    by_cases k : i.toNat = 0
    · unfold numI
      rw [k, TL.numL_lt (by omega)]
      rfl
    · have ⟨c, r, e, l⟩ := numL_head i.toNat (by omega)
      have : (numI i).head? = some c := by unfold numI; rw [e]; rfl
      rw [this, decide_eq_false]
      · rfl
      · intro z
        cases z
        omega
  rw [e1, e2, e3, e4]
  rfl
/-- a line of two numbers of at most two figures, and a wage of at most 61 -/
theorem brO_row {x y : Int} {o : Option Int} (a1 : 0 ≤ x) (a2 : x < 100) (b1 : 0 ≤ y) (b2 : y < 100) (w : ∀ z ∈ o, 0 ≤ z ∧ z < (10 : Int) ^ 61) : brO (lnB ((x, y), o)) = some (x, y, o.getD 1) := by
  have g1 : (32 : Nat) ∉ numI x := numI_free (by omega)
  have g2 : (32 : Nat) ∉ numI y := numI_free (by omega)
  have fB : (32 : Nat) ∉ cB := by decide
  have d1 := numI_bad (k := 2) (i := x) (by omega) a1 (by omega)
  have d2 := numI_bad (k := 2) (i := y) (by omega) b1 (by omega)
  unfold brO
  cases o with
  | none =>
    have e : TL.spl [32] 0 [] (lnB ((x, y), none)) = [cB, numI x, numI y] := by
      unfold lnB
      rw [split2 fB, split2 g1]
      simp only [wTl, List.append_nil]
      rw [split1 g2]
    rw [e]
    simp [brW, d1, d2, numI_dv a1, numI_dv b1]
  | some z =>
    have hz := w z rfl
    have d3 := numI_bad (k := 61) (i := z) (by omega) hz.1 hz.2
    have f3 : (32 : Nat) ∉ numI z := numI_free (by omega)
    have e : TL.spl [32] 0 [] (lnB ((x, y), some z)) = [cB, numI x, numI y, numI z] := by
      unfold lnB
      rw [split2 fB, split2 g1]
      simp only [wTl]
      rw [split2 g2, split1 f3]
    rw [e]
    simp [brW, d1, d2, d3, numI_dv a1, numI_dv b1, numI_dv hz.1]
end Br

namespace Br
open PySem PySem.Spec L2
def hdW : List (List Nat) → Option Int
  | [w, x] => if w = cQ ∧ badW 2 x = false then some (dvI x) else none
  | _ => none
def hdO (l : List Nat) : Option Int := hdW (TL.spl [32] 0 [] l)
def allO {α : Type} : List (Option α) → Option (List α)
  | [] => some []
  | none :: _ => none
  | some x :: r => (allO r).map (x :: ·)
def rdR (hd : List Nat) (ls : List (List Nat)) : Rs ((Int × List (Int × Int)) × List Int) :=
  match hdO hd, allO (ls.map brO) with
  | some q, some ts => if goodW ts.length (ts.map (·.2.2)) then (if fits q (ts.map fun v => (v.1, v.2.1)) then .ok ((q, ts.map fun v => (v.1, v.2.1)), ts.map (·.2.2)) else .er "BadTown") else .er "BadWages"
  | _, _ => .er "BadText"
theorem lines_len : ∀ ls : List (List Nat), (∀ l ∈ ls, l.length ≤ 1000) → (ls.map (·.length)).sum ≤ 1000 * ls.length
  | [], _ => by simp
  | l :: ls, h => by
    have a := h l List.mem_cons_self
    have b := lines_len ls fun l m => h l (List.mem_cons_of_mem _ m)
    simp only [List.map_cons, List.sum_cons, List.length_cons]
    omega
theorem joinL_len : ∀ ps : List (List Nat), (TL.joinL [10] ps).length ≤ (ps.map (·.length)).sum + ps.length
  | [] => by simp [TL.joinL]
  | [p] => by simp [TL.joinL]
  | p :: p2 :: ps => by
    have ih := joinL_len (p2 :: ps)
    simp only [TL.joinL, List.length_append, List.map_cons, List.sum_cons, List.length_cons, List.length_nil] at *
    omega
theorem told_all : ∀ ls : List (List Nat), (∀ l ∈ ls, l.length ≤ 1000) → lcE (fun _ => .ok true) (fun v => m_bridge_line v) (ls.map SX.S) = btO (allO (ls.map brO))
  | [], _ => rfl
  | l :: ls, h => by
    have ih := told_all ls fun l m => h l (List.mem_cons_of_mem _ m)
    rw [List.map_cons, lcE, bridge_all (h l List.mem_cons_self), ih, List.map_cons]
    cases eb : brO l with
    | none => simp [allO, btO]
    | some t =>
      cases e : allO (ls.map brO) with
      | none => simp [allO, e, btO]
      | some ts => simp [allO, e, btO]
theorem allO_len {α : Type} : ∀ {xs : List (Option α)} {ys : List α}, allO xs = some ys → ys.length = xs.length
  | [], ys, h => by cases h; rfl
  | none :: _, ys, h => nomatch h
  | some x :: r, ys, h => by
    cases e : allO r with
    | none => rw [allO, e] at h; cases h
    | some zs =>
      rw [allO, e] at h
      cases h
      simp [allO_len e]
theorem read_all {hd : List Nat} {ls : List (List Nat)} (h1 : (10 : Nat) ∉ hd) (h2 : ∀ l ∈ ls, (10 : Nat) ∉ l) (h3 : hd.length ≤ 1000) (h4 : ∀ l ∈ ls, l.length ≤ 1000) (h5 : ls.length ≤ 60) : m_read_town (SX.S (TL.joinL [10] (hd :: ls))) = rdR hd ls := by
  have jl := joinL_len (hd :: ls)
  have sl := lines_len (hd :: ls) fun l m => by
    rcases List.mem_cons.mp m with rfl | m
    · exact h3
    · exact h4 l m
  simp only [List.length_cons] at jl sl
  have hp := spl_len hd []
  have ne := spl_ne hd []
  have at0_ : ∀ w r, atI ((w :: r : List (List Nat)).map SX.S) 0 = some (SX.S w) := fun w r => by rw [atI_ok (Int.le_refl _) (by simp)]; rfl
  have hW : ∀ w : List Nat, decide (SX.S w = SX.S cQ) = decide (w = cQ) := fun w => decide_eq_decide.mpr ⟨S_inj, fun h => by rw [h]⟩
  have fin : ∀ q : Int, hdO hd = some q → Fl.fn (fun (e : Empty) => e.elim) ((lcEN (fun _ => .ok true) (fun v => m_bridge_line v) (ls.map SX.S)).f fun y256 => ((lcN (fun _ => .ok true) (fun v : Int × Int × Int => .ok v.2.2) y256).f fun y263 => ((m_ask_wages ((y256.length : Int), y263)).f fun _ => (((((lcN (fun _ => .ok true) (fun v : Int × Int × Int => .ok (v.1, v.2.1)) y256).b fun x279 => .ok (q, x279)).b m_Town_init).b fun x280 => .ok (x280, y263)).f fun x283 => (.rt x283 : Fl Unit _ Empty))))) = rdR hd ls := by
    intro q hq
    unfold rdR
    rw [hq]
    have lc : lcEN (fun _ => .ok true) (fun v => m_bridge_line v) (ls.map SX.S) = btO (allO (ls.map brO)) := by
      unfold lcEN
      rw [if_pos (by rw [List.length_map]; omega), told_all ls h4]
    rw [lc]
    cases e : allO (ls.map brO) with
    | none => rfl
    | some ts =>
      have tl : ts.length ≤ 60 := by rw [allO_len e, List.length_map]; exact h5
      simp only [btO, ok_f]
      rw [lcN_map (h := fun v : Int × Int × Int => v.2.2) (by omega) (fun _ _ => rfl)]
      simp only [ok_f]
      rw [ask_wages_eq]
      by_cases g : goodW ts.length (ts.map (·.2.2))
      · rw [if_pos g, if_pos g]
        simp only [ok_f]
        rw [lcN_map (h := fun v : Int × Int × Int => (v.1, v.2.1)) (by omega) (fun _ _ => rfl)]
        simp only [ok_b]
        rw [town_eq]
        by_cases f : fits q (ts.map fun v => (v.1, v.2.1))
        · rw [if_pos f, if_pos f]; rfl
        · rw [if_neg f, if_neg f]; rfl
      · rw [if_neg g, if_neg g]; rfl
  have spj : TL.spl [10] 0 [] (TL.joinL [10] (hd :: ls)) = hd :: ls := TL.spl_join (by simp) fun p m => by
    rcases List.mem_cons.mp m with rfl | m
    · exact h1
    · exact h2 p m
  have ct : cut ((hd :: ls).map SX.S) (some (1 : Int)) none = ls.map SX.S := by
    have := cut_lo (xs := (hd :: ls).map SX.S) (k := 1)
    rw [show ((1 : Nat) : Int) = 1 from rfl] at this
    rw [this]; rfl
  unfold m_read_town b_read_town
  simp only [b_ok, ok_b, er_b, no_b, ok_f, er_f, no_f, nx_b, rt_b, bk_b, ct_b, erF_b, noF_b, rt_v, er_v, bk_v, ct_v, no_v, nx_fn, rt_fn, er_fn, opt_some, opt_none, nx_lp, ct_lp, bk_lp, rt_lp, er_lp, forM_nil, try_nx, try_rt, try_er, isX_none, isX_some, andM_ok2, orM_ok2, ite_fn, ite_lp, sp_eq, nl_eq, cQ_eq]
  rw [splO_S (by omega) (by omega), spj]
  simp only [b_ok, ok_b, er_b, no_b, ok_f, er_f, no_f, nx_b, rt_b, bk_b, ct_b, erF_b, noF_b, rt_v, er_v, bk_v, ct_v, no_v, nx_fn, rt_fn, er_fn, opt_some, opt_none, nx_lp, ct_lp, bk_lp, rt_lp, er_lp, forM_nil, try_nx, try_rt, try_er, isX_none, isX_some, andM_ok2, orM_ok2, ite_fn, ite_lp, at0_, ct]
  rw [splO_S (by omega) (by omega)]
  have w2 : ∀ x ∈ TL.spl [32] 0 [] hd, m_written_number (SX.S x, 2) = if badW 2 x = true then .er "BadText" else .ok (dvI x) := fun x m => written_all (m := 2) (by omega) (by have := hp x m; simp at this; omega)
  unfold hdO at fin
  have no : hdW (TL.spl [32] 0 [] hd) = none → rdR hd ls = .er "BadText" := fun h => by
    unfold rdR hdO
    rw [h]
  generalize TL.spl [32] 0 [] hd = ws at *
  match ws, ne with
  | [w], _ =>
    simp only [b_ok, ok_b, er_b, no_b, ok_f, er_f, no_f, nx_b, rt_b, bk_b, ct_b, erF_b, noF_b, rt_v, er_v, bk_v, ct_v, no_v, nx_fn, rt_fn, er_fn, opt_some, opt_none, nx_lp, ct_lp, bk_lp, rt_lp, er_lp, forM_nil, try_nx, try_rt, try_er, isX_none, isX_some, andM_ok2, orM_ok2, ite_fn, ite_lp, at0_, hW]
    rw [no rfl, if_pos (by simp)]
  | [w, x], _ =>
    simp only [b_ok, ok_b, er_b, no_b, ok_f, er_f, no_f, nx_b, rt_b, bk_b, ct_b, erF_b, noF_b, rt_v, er_v, bk_v, ct_v, no_v, nx_fn, rt_fn, er_fn, opt_some, opt_none, nx_lp, ct_lp, bk_lp, rt_lp, er_lp, forM_nil, try_nx, try_rt, try_er, isX_none, isX_some, andM_ok2, orM_ok2, ite_fn, ite_lp, at0_, hW]
    by_cases hw : w = cQ
    · rw [if_neg (by simp [hw])]
      simp only [show atI ([w, x].map SX.S) 1 = some (SX.S x) from rfl, b_ok, ok_b, er_b, no_b, ok_f, er_f, no_f, nx_b, rt_b, bk_b, ct_b, erF_b, noF_b, rt_v, er_v, bk_v, ct_v, no_v, nx_fn, rt_fn, er_fn, opt_some, opt_none, nx_lp, ct_lp, bk_lp, rt_lp, er_lp, forM_nil, try_nx, try_rt, try_er, isX_none, isX_some, andM_ok2, orM_ok2, ite_fn, ite_lp, w2 x (by simp)]
      cases hx : badW 2 x with
      | true =>
        rw [no (by simp [hdW, hx])]
        rfl
      | false =>
        have := fin (dvI x) (by simp [hdW, hx, hw])
        rw [← this]
        simp only [Bool.false_eq_true, if_false, b_ok, ok_b, er_b, no_b, ok_f, er_f, no_f, nx_b, rt_b, bk_b, ct_b, erF_b, noF_b, rt_v, er_v, bk_v, ct_v, no_v, nx_fn, rt_fn, er_fn, opt_some, opt_none, nx_lp, ct_lp, bk_lp, rt_lp, er_lp, forM_nil, try_nx, try_rt, try_er, isX_none, isX_some, andM_ok2, orM_ok2, ite_fn, ite_lp]
    · rw [no (by simp [hdW, hw]), if_pos (by simp [hw])]
  | w :: x :: y :: r, _ =>
    simp only [b_ok, ok_b, er_b, no_b, ok_f, er_f, no_f, nx_b, rt_b, bk_b, ct_b, erF_b, noF_b, rt_v, er_v, bk_v, ct_v, no_v, nx_fn, rt_fn, er_fn, opt_some, opt_none, nx_lp, ct_lp, bk_lp, rt_lp, er_lp, forM_nil, try_nx, try_rt, try_er, isX_none, isX_some, andM_ok2, orM_ok2, ite_fn, ite_lp, at0_, hW]
    rw [no rfl, if_pos (by simp; omega)]
end Br

namespace Br
open PySem PySem.Spec L2
/-- a line that is none -/
def oddL (y : Str) : Bool := decide (10 ∉ y.cps.toList) && decide (y.cps.toList.length ≤ 200) && (brO y.cps.toList).isNone
def oddH (y : Str) : Bool := decide (10 ∉ y.cps.toList) && decide (y.cps.toList.length ≤ 200) && (hdO y.cps.toList).isNone
theorem nines : smulO "9" 62 = some (SX.S (List.replicate 62 57)) := by decide +kernel
theorem odd_line_ok (i : Int) : Out (m_law_odd_line i) (fun y => oddL y = true) fun _ => False := by
  unfold m_law_odd_line b_law_odd_line
  simp only [b_ok, ok_b, ok_f, opt_some, Out_b, Out_ok, Out_er, OutF_b, OutF_f, OutF_nx, OutF_rt, OutF_bk, OutF_ct, OutF_er, Out_ite, OutF_ite, OutF_v, Out_fn, OutF_try, Out_and, Out_or, andM_ok2, orM_ok2, isX_none, isX_some, nines]
  rw [catO_ok (by decide)]
  simp only [b_ok, ok_b, ok_f, opt_some, Out_b, Out_ok, Out_er, OutF_b, OutF_f, OutF_nx, OutF_rt, OutF_bk, OutF_ct, OutF_er, Out_ite, OutF_ite, OutF_v, Out_fn, OutF_try, Out_and, Out_or, andM_ok2, orM_ok2, isX_none, isX_some]
  rw [catO_ok (by decide)]
  simp only [b_ok, ok_b, ok_f, opt_some, Out_b, Out_ok, Out_er, OutF_b, OutF_f, OutF_nx, OutF_rt, OutF_bk, OutF_ct, OutF_er, Out_ite, OutF_ite, OutF_v, Out_fn, OutF_try, Out_and, Out_or, andM_ok2, orM_ok2, isX_none, isX_some]
  rw [show (sadO ("bridge 0 1 " : Str) (SX.S (List.replicate 62 57))) = some (SX.S ([98, 114, 105, 100, 103, 101, 32, 48, 32, 49, 32] ++ List.replicate 62 57)) from by decide +kernel]
  simp only [b_ok, ok_b, ok_f, opt_some, Out_b, Out_ok, Out_er, OutF_b, OutF_f, OutF_nx, OutF_rt, OutF_bk, OutF_ct, OutF_er, Out_ite, OutF_ite, OutF_v, Out_fn, OutF_try, Out_and, Out_or, andM_ok2, orM_ok2, isX_none, isX_some]
  rw [catO_ok (by decide)]
  simp only [b_ok, ok_b, ok_f, opt_some, Out_b, Out_ok, Out_er, OutF_b, OutF_f, OutF_nx, OutF_rt, OutF_bk, OutF_ct, OutF_er, Out_ite, OutF_ite, OutF_v, Out_fn, OutF_try, Out_and, Out_or, andM_ok2, orM_ok2, isX_none, isX_some]
  generalize hl : ((_ ++ _) : List Str) = l
  have al : l.all oddL = true := by rw [← hl]; decide +kernel
  have ll : l.length = 27 := by rw [← hl]; rfl
  clear hl
  have a := emod_rng i (show (0 : Int) < l.length by omega)
  rw [modO_pos (by omega)]
  simp only [b_ok, ok_b, ok_f, opt_some, Out_b, Out_ok, Out_er, OutF_b, OutF_f, OutF_nx, OutF_rt, OutF_bk, OutF_ct, OutF_er, Out_ite, OutF_ite, OutF_v, Out_fn, OutF_try, Out_and, Out_or, andM_ok2, orM_ok2, isX_none, isX_some]
  rw [atI_ok a.1 a.2]
  simp only [b_ok, ok_b, ok_f, opt_some, Out_b, Out_ok, Out_er, OutF_b, OutF_f, OutF_nx, OutF_rt, OutF_bk, OutF_ct, OutF_er, Out_ite, OutF_ite, OutF_v, Out_fn, OutF_try, Out_and, Out_or, andM_ok2, orM_ok2, isX_none, isX_some]
  exact List.all_eq_true.mp al _ (at0_mem a.1 a.2)
theorem odd_head_ok (i : Int) : Out (m_law_odd_head i) (fun y => oddH y = true) fun _ => False := by
  unfold m_law_odd_head b_law_odd_head
  simp only [b_ok, ok_b, ok_f, opt_some, Out_b, Out_ok, Out_er, OutF_b, OutF_f, OutF_nx, OutF_rt, OutF_bk, OutF_ct, OutF_er, Out_ite, OutF_ite, OutF_v, Out_fn, OutF_try, Out_and, Out_or, andM_ok2, orM_ok2, isX_none, isX_some]
  rw [catO_ok (by decide)]
  simp only [b_ok, ok_b, ok_f, opt_some, Out_b, Out_ok, Out_er, OutF_b, OutF_f, OutF_nx, OutF_rt, OutF_bk, OutF_ct, OutF_er, Out_ite, OutF_ite, OutF_v, Out_fn, OutF_try, Out_and, Out_or, andM_ok2, orM_ok2, isX_none, isX_some]
  generalize hl : ((_ ++ _) : List Str) = l
  have al : l.all oddH = true := by rw [← hl]; decide +kernel
  have ll : l.length = 14 := by rw [← hl]; rfl
  clear hl
  have a := emod_rng i (show (0 : Int) < l.length by omega)
  rw [modO_pos (by omega)]
  simp only [b_ok, ok_b, ok_f, opt_some, Out_b, Out_ok, Out_er, OutF_b, OutF_f, OutF_nx, OutF_rt, OutF_bk, OutF_ct, OutF_er, Out_ite, OutF_ite, OutF_v, Out_fn, OutF_try, Out_and, Out_or, andM_ok2, orM_ok2, isX_none, isX_some]
  rw [atI_ok a.1 a.2]
  simp only [b_ok, ok_b, ok_f, opt_some, Out_b, Out_ok, Out_er, OutF_b, OutF_f, OutF_nx, OutF_rt, OutF_bk, OutF_ct, OutF_er, Out_ite, OutF_ite, OutF_v, Out_fn, OutF_try, Out_and, Out_or, andM_ok2, orM_ok2, isX_none, isX_some]
  exact List.all_eq_true.mp al _ (at0_mem a.1 a.2)
end Br

namespace Br
open PySem PySem.Spec L2
theorem rng_pre {n : Int} {pre post : List Int} {x : Int} (h0 : 0 ≤ n) (e : rng 0 n = pre ++ x :: post) : x = (pre.length : Int) ∧ (pre.length : Int) < n := by
  have hl : (rng 0 n).length = pre.length + (post.length + 1) := by rw [e]; simp
  rw [rng_len] at hl
  have : (rng 0 n)[pre.length]? = some x := by rw [e, List.getElem?_append_right (Nat.le_refl _), Nat.sub_self]; rfl
  unfold rng at this
  rw [List.getElem?_map, List.getElem?_range (by omega)] at this
  simp at this
  omega

end Br

namespace Br
open PySem PySem.Spec L2
theorem law_at_ok (ns : List Int) (k : Int) (h : 0 ≤ k) : ∃ r, m_law_at (ns, k) = .ok r := by
  have : Out (m_law_at (ns, k)) (fun _ => True) fun _ => False := by
    unfold m_law_at b_law_at
    simp only [b_ok, ok_b, ok_f, opt_some, Out_b, Out_ok, Out_er, OutF_b, OutF_f, OutF_nx, OutF_rt, OutF_bk, OutF_ct, OutF_er, Out_ite, OutF_ite, OutF_v, Out_fn, OutF_try, Out_and, Out_or, andM_ok2, orM_ok2, isX_none, isX_some]
    refine iteI (fun hc => ?_) fun _ => trivial
    have hc : k < ns.length := by simpa using hc
    rw [atI_ok h hc]
    trivial
  have ⟨r, e, _⟩ := this.get
  exact ⟨r, e⟩
theorem sIx_nat {n d k : Nat} : HT.sIx n d (some (k : Int)) = min k n := HT.sIx_nat _ _ _
theorem law_town_ok (ns : List Int) (hn : ns.length ≤ 63) : ∃ q ps ws, m_law_town ns = .ok (q, ps, ws) ∧ fits q ps ∧ goodW ps.length ws ∧ ps.length + 1 ≤ ns.length + 1 ∧ (0 < ps.length → ps.length + 1 ≤ ns.length) := by
  have main : Out (m_law_town ns) (fun r => fits r.1 r.2.1 ∧ goodW r.2.1.length r.2.2 ∧ r.2.1.length + 1 ≤ ns.length + 1 ∧ (0 < r.2.1.length → r.2.1.length + 1 ≤ ns.length)) fun _ => False := by
    unfold m_law_town b_law_town
    have ⟨hd, eh⟩ := law_at_ok ns 0 (by omega)
    try simp only [b_ok, ok_b, ok_f, opt_some, Out_b, Out_ok, Out_er, OutF_f, OutF_nx, OutF_rt, OutF_bk, OutF_ct, OutF_er, Out_ite, OutF_ite, OutF_v, Out_fn, OutF_try, Out_and, Out_or, andM_ok2, orM_ok2, isX_none, isX_some]
    rw [eh]
    try simp only [b_ok, ok_b, ok_f, opt_some, Out_b, Out_ok, Out_er, OutF_f, OutF_nx, OutF_rt, OutF_bk, OutF_ct, OutF_er, Out_ite, OutF_ite, OutF_v, Out_fn, OutF_try, Out_and, Out_or, andM_ok2, orM_ok2, isX_none, isX_some]
    refine OutF_bI (fun q => 1 ≤ q ∧ q ≤ 24) ?_ fun q hq => ?_
    · try simp only [b_ok, ok_b, ok_f, opt_some, Out_b, Out_ok, Out_er, OutF_f, OutF_nx, OutF_rt, OutF_bk, OutF_ct, OutF_er, Out_ite, OutF_ite, OutF_v, Out_fn, OutF_try, Out_and, Out_or, andM_ok2, orM_ok2, isX_none, isX_some]
      have a := emod_rng hd (show (0 : Int) < 6 by omega)
      have b := emod_rng (hd / 30) (show (0 : Int) < 24 by omega)
      refine iteI (fun _ => ?_) fun _ => ?_
      · try simp only [b_ok, ok_b, ok_f, opt_some, Out_b, Out_ok, Out_er, OutF_f, OutF_nx, OutF_rt, OutF_bk, OutF_ct, OutF_er, Out_ite, OutF_ite, OutF_v, Out_fn, OutF_try, Out_and, Out_or, andM_ok2, orM_ok2, isX_none, isX_some]
        show 1 ≤ _ ∧ _ ≤ (24 : Int)
        omega
      · try simp only [b_ok, ok_b, ok_f, opt_some, Out_b, Out_ok, Out_er, OutF_f, OutF_nx, OutF_rt, OutF_bk, OutF_ct, OutF_er, Out_ite, OutF_ite, OutF_v, Out_fn, OutF_try, Out_and, Out_or, andM_ok2, orM_ok2, isX_none, isX_some]
        show 1 ≤ _ ∧ _ ≤ (24 : Int)
        omega
    try simp only [b_ok, ok_b, ok_f, opt_some, Out_b, Out_ok, Out_er, OutF_f, OutF_nx, OutF_rt, OutF_bk, OutF_ct, OutF_er, Out_ite, OutF_ite, OutF_v, Out_fn, OutF_try, Out_and, Out_or, andM_ok2, orM_ok2, isX_none, isX_some]
    have cl : (cut ns (some 1) (some 61)).length ≤ 60 ∧ (cut ns (some 1) (some 61)).length ≤ ns.length - 1 := by
      have e : cut ns (some 1) (some 61) = (ns.drop (HT.sIx ns.length 0 (some 1))).take (HT.sIx ns.length ns.length (some 61) - HT.sIx ns.length 0 (some 1)) := rfl
      have s1 : HT.sIx ns.length 0 (some 1) = min 1 ns.length := by
        have := sIx_nat (n := ns.length) (d := 0) (k := 1)
        exact this
      have s2 : HT.sIx ns.length ns.length (some 61) = min 61 ns.length := by
        have := sIx_nat (n := ns.length) (d := ns.length) (k := 61)
        exact this
      rw [e, s1, s2, List.length_take, List.length_drop]
      omega
    refine OutF_bI (fun (s : List (Int × Int) × List Int) => s.1.length = s.2.length ∧ s.1.length ≤ 60 ∧ (0 < s.1.length → s.1.length + 1 ≤ ns.length) ∧ (∀ p ∈ s.1, okP q p) ∧ ∀ w ∈ s.2, 0 ≤ w ∧ w ≤ 1000000000000000000000000000000000000000000000000000000000000) ?_ fun s hs => ?_
    · try simp only [b_ok, ok_b, ok_f, opt_some, Out_b, Out_ok, Out_er, OutF_f, OutF_nx, OutF_rt, OutF_bk, OutF_ct, OutF_er, Out_ite, OutF_ite, OutF_v, Out_fn, OutF_try, Out_and, Out_or, andM_ok2, orM_ok2, isX_none, isX_some]
      refine iteI (fun hc => ?_) fun _ => ?_
      · have hc : 1 < q := by simpa using hc
        try simp only [b_ok, ok_b, ok_f, opt_some, Out_b, Out_ok, Out_er, OutF_f, OutF_nx, OutF_rt, OutF_bk, OutF_ct, OutF_er, Out_ite, OutF_ite, OutF_v, Out_fn, OutF_try, Out_and, Out_or, andM_ok2, orM_ok2, isX_none, isX_some]
        refine OutF_bI (fun (s : List (Int × Int) × List Int) => s.1.length = s.2.length ∧ s.1.length = (cut ns (some 1) (some 61)).length ∧ (∀ p ∈ s.1, okP q p) ∧ ∀ w ∈ s.2, 0 ≤ w ∧ w ≤ 1000000000000000000000000000000000000000000000000000000000000) ?_ fun s hs => ?_
        · refine OutF_for (fun pre (s : List (Int × Int) × List Int) => s.1.length = s.2.length ∧ s.1.length = pre.length ∧ (∀ p ∈ s.1, okP q p) ∧ ∀ w ∈ s.2, 0 ≤ w ∧ w ≤ 1000000000000000000000000000000000000000000000000000000000000) ⟨rfl, rfl, (fun _ m => nomatch m), fun _ m => nomatch m⟩ (fun pre c post s e hs => ?_) (fun s hs => hs)
          have ⟨h1, h2, h3, h4⟩ := hs
          have pl : pre.length ≤ 60 := by
            have := congrArg List.length e
            rw [List.length_append] at this
            omega
          have k0 := emod_rng c (q := (10 : Int) ^ (61 : Int).toNat) (by decide)
          simp only [b_ok, ok_b, ok_f, opt_some, Out_b, Out_ok, Out_er, OutF_b, OutF_f, OutF_nx, OutF_rt, OutF_bk, OutF_ct, OutF_er, Out_ite, OutF_ite, OutF_v, Out_fn, OutF_try, Out_and, Out_or, andM_ok2, orM_ok2, isX_none, isX_some]
          generalize c % (10 : Int) ^ (61 : Int).toNat = n at *
          have k1 := emod_rng n (show (0 : Int) < q by omega)
          have k2 := emod_rng (n / q) (show (0 : Int) < q - 1 by omega)
          have k3 := emod_rng (n % q + 1 + n / q % (q - 1)) (show (0 : Int) < q by omega)
          have hp : (10 : Int) ^ (60 : Int).toNat + 1 = 1000000000000000000000000000000000000000000000000000000000001 := by decide
          have k4 := emod_rng (n / q / (q - 1)) (q := (10 : Int) ^ (60 : Int).toNat + 1) (by decide)
          have st := step_ne (b := 1 + n / q % (q - 1)) k1.1 k1.2 (by omega) (by omega)
          rw [← Int.add_assoc] at st
          rw [modO_pos (by omega)]
          simp only [b_ok, ok_b, ok_f, opt_some, Out_b, Out_ok, Out_er, OutF_b, OutF_f, OutF_nx, OutF_rt, OutF_bk, OutF_ct, OutF_er, Out_ite, OutF_ite, OutF_v, Out_fn, OutF_try, Out_and, Out_or, andM_ok2, orM_ok2, isX_none, isX_some]
          rw [divO_pos (by omega) (by omega)]
          simp only [b_ok, ok_b, ok_f, opt_some, Out_b, Out_ok, Out_er, OutF_b, OutF_f, OutF_nx, OutF_rt, OutF_bk, OutF_ct, OutF_er, Out_ite, OutF_ite, OutF_v, Out_fn, OutF_try, Out_and, Out_or, andM_ok2, orM_ok2, isX_none, isX_some]
          rw [modO_pos (by omega)]
          simp only [b_ok, ok_b, ok_f, opt_some, Out_b, Out_ok, Out_er, OutF_b, OutF_f, OutF_nx, OutF_rt, OutF_bk, OutF_ct, OutF_er, Out_ite, OutF_ite, OutF_v, Out_fn, OutF_try, Out_and, Out_or, andM_ok2, orM_ok2, isX_none, isX_some]
          rw [modO_pos (by omega)]
          simp only [b_ok, ok_b, ok_f, opt_some, Out_b, Out_ok, Out_er, OutF_b, OutF_f, OutF_nx, OutF_rt, OutF_bk, OutF_ct, OutF_er, Out_ite, OutF_ite, OutF_v, Out_fn, OutF_try, Out_and, Out_or, andM_ok2, orM_ok2, isX_none, isX_some]
          rw [appM_ok (by omega)]
          simp only [b_ok, ok_b, ok_f, opt_some, Out_b, Out_ok, Out_er, OutF_b, OutF_f, OutF_nx, OutF_rt, OutF_bk, OutF_ct, OutF_er, Out_ite, OutF_ite, OutF_v, Out_fn, OutF_try, Out_and, Out_or, andM_ok2, orM_ok2, isX_none, isX_some]
          rw [divO_pos (by omega) (by omega)]
          simp only [b_ok, ok_b, ok_f, opt_some, Out_b, Out_ok, Out_er, OutF_b, OutF_f, OutF_nx, OutF_rt, OutF_bk, OutF_ct, OutF_er, Out_ite, OutF_ite, OutF_v, Out_fn, OutF_try, Out_and, Out_or, andM_ok2, orM_ok2, isX_none, isX_some]
          rw [modO_pos (by decide)]
          simp only [b_ok, ok_b, ok_f, opt_some, Out_b, Out_ok, Out_er, OutF_b, OutF_f, OutF_nx, OutF_rt, OutF_bk, OutF_ct, OutF_er, Out_ite, OutF_ite, OutF_v, Out_fn, OutF_try, Out_and, Out_or, andM_ok2, orM_ok2, isX_none, isX_some]
          rw [appM_ok (by omega)]
          simp only [b_ok, ok_b, ok_f, opt_some, Out_b, Out_ok, Out_er, OutF_b, OutF_f, OutF_nx, OutF_rt, OutF_bk, OutF_ct, OutF_er, Out_ite, OutF_ite, OutF_v, Out_fn, OutF_try, Out_and, Out_or, andM_ok2, orM_ok2, isX_none, isX_some]
          refine ⟨by simp [h1], by simp [h2], fun p m => ?_, fun w m => ?_⟩
          · rcases List.mem_append.mp m with m | m
            · exact h3 p m
            · rw [List.mem_singleton.mp m]
              exact ⟨k1.1, k1.2, k3.1, k3.2, st⟩
          · rcases List.mem_append.mp m with m | m
            · exact h4 w m
            · rw [List.mem_singleton.mp m]
              rw [hp] at k4 ⊢
              omega
        · have ⟨h1, h2, h3, h4⟩ := hs
          try simp only [b_ok, ok_b, ok_f, opt_some, Out_b, Out_ok, Out_er, OutF_f, OutF_nx, OutF_rt, OutF_bk, OutF_ct, OutF_er, Out_ite, OutF_ite, OutF_v, Out_fn, OutF_try, Out_and, Out_or, andM_ok2, orM_ok2, isX_none, isX_some]
          refine ⟨h1, by show s.1.length ≤ 60; omega, fun z => ?_, h3, h4⟩
          show s.1.length + 1 ≤ ns.length
          have : 0 < s.1.length := z
          omega
      · exact ⟨rfl, by simp, by simp, (fun _ m => nomatch m), fun _ m => nomatch m⟩
    · try simp only [b_ok, ok_b, ok_f, opt_some, Out_b, Out_ok, Out_er, OutF_f, OutF_nx, OutF_rt, OutF_bk, OutF_ct, OutF_er, Out_ite, OutF_ite, OutF_v, Out_fn, OutF_try, Out_and, Out_or, andM_ok2, orM_ok2, isX_none, isX_some]
      have ⟨h1, h2, h3, h4, h5⟩ := hs
      refine ⟨⟨hq.1, hq.2, h2, h4⟩, ⟨by omega, h5⟩, ?_, h3⟩
      show s.1.length + 1 ≤ ns.length + 1
      by_cases z : 0 < s.1.length
      · have := h3 z; omega
      · omega
  have ⟨r, e, h⟩ := main.get
  exact ⟨r.1, r.2.1, r.2.2, e, h⟩
theorem zip_rows {q : Int} {ps : List (Int × Int)} {ws : List (Option Int)} (h : ∀ p ∈ ps, okP q p) (k : ∀ w, some w ∈ ws → 0 ≤ w ∧ w ≤ 1000000000000000000000000000000000000000000000000000000000000) : ∀ r ∈ ps.zip ws, okR q r := fun r m => by
  obtain ⟨p, o⟩ := r
  have := List.of_mem_zip m
  exact ⟨h p this.1, fun w e => k w (by cases e; exact this.2)⟩
theorem zipF {α β : Type} : ∀ {xs : List α} {ys : List β}, xs.length = ys.length → (xs.zip ys).map (·.1) = xs
  | [], [], _ => rfl
  | x :: xs, y :: ys, h => by
    rw [List.zip_cons_cons, List.map_cons, zipF (by simpa using h)]
theorem zipS {α β γ : Type} {f : β → γ} : ∀ {xs : List α} {ys : List β}, xs.length = ys.length → (xs.zip ys).map (fun r => f r.2) = ys.map f
  | [], [], _ => rfl
  | x :: xs, y :: ys, h => by
    rw [List.zip_cons_cons, List.map_cons, List.map_cons, zipS (by simpa using h)]
theorem brs_eq : ("bridge " : Str) = SX.S (cB ++ [32]) := by decide +kernel
theorem qrs_eq : ("quarters " : Str) = SX.S (cQ ++ [32]) := by decide +kernel
theorem joiO_lines {ls : List (List Nat)} (h : (ls.map (·.length)).sum + ls.length ≤ 1000000) : joiO (SX.S [10]) (ls.map SX.S) = some (SX.S (TL.joinL [10] ls)) := joiO_S h
end Br

namespace Br
open PySem PySem.Spec L2
theorem law_lines_ok {q : Int} (q1 : 0 ≤ q) (q2 : q ≤ 24) {ps : List (Int × Int)} {ws : List Int} (el : ps.length = ws.length) (h : ∀ r ∈ ps.zip ws, okR q (r.1, some r.2)) (hl : ps.length ≤ 60) : m_law_lines (q, ps, ws) = .ok ((lnQ q :: (ps.zip ws).map fun r => lnB (r.1, some r.2)).map SX.S) := by
  have zl : (ps.zip ws).length = ps.length := by rw [List.length_zip]; omega
  have qs := strO_int (i := q) q1 (by omega)
  have ql := numI_len (k := 2) (i := q) (by omega) q1 (by omega)
  apply Out.eq
  unfold m_law_lines b_law_lines
  simp only [b_ok, ok_b, ok_f, opt_some, Out_b, Out_ok, Out_er, OutF_b, OutF_f, OutF_nx, OutF_rt, OutF_bk, OutF_ct, OutF_er, Out_ite, OutF_ite, OutF_v, Out_fn, OutF_try, Out_and, Out_or, andM_ok2, orM_ok2, isX_none, isX_some, nl_eq, sp_eq, cB_eq, qrs_eq]
  rw [qs]
  simp only [b_ok, ok_b, ok_f, opt_some, Out_b, Out_ok, Out_er, OutF_b, OutF_f, OutF_nx, OutF_rt, OutF_bk, OutF_ct, OutF_er, Out_ite, OutF_ite, OutF_v, Out_fn, OutF_try, Out_and, Out_or, andM_ok2, orM_ok2, isX_none, isX_some]
  rw [sadO_S (by simp only [List.length_append, List.length_singleton]; have : cQ.length = 8 := rfl; omega)]
  simp only [b_ok, ok_b, ok_f, opt_some, Out_b, Out_ok, Out_er, OutF_b, OutF_f, OutF_nx, OutF_rt, OutF_bk, OutF_ct, OutF_er, Out_ite, OutF_ite, OutF_v, Out_fn, OutF_try, Out_and, Out_or, andM_ok2, orM_ok2, isX_none, isX_some]
  rw [rngO_ok (by omega) (by omega)]
  simp only [b_ok, ok_b, ok_f, opt_some, Out_b, Out_ok, Out_er, OutF_b, OutF_f, OutF_nx, OutF_rt, OutF_bk, OutF_ct, OutF_er, Out_ite, OutF_ite, OutF_v, Out_fn, OutF_try, Out_and, Out_or, andM_ok2, orM_ok2, isX_none, isX_some]
  refine OutF_for (fun pre s => s = (lnQ q :: ((ps.zip ws).take pre.length).map fun r => lnB (r.1, some r.2)).map SX.S) (by simp [lnQ]) (fun pre k post s e hs => ?_) (fun s hs => ?_)
  · have ⟨ek, hk⟩ := rng_pre (by omega) e
    subst ek
    have hk : pre.length < ps.length := by omega
    have hk2 : pre.length < ws.length := by omega
    have mz : (ps[pre.length], ws[pre.length]) ∈ ps.zip ws := by
      rw [List.mem_iff_getElem]
      exact ⟨pre.length, by omega, by rw [List.getElem_zip]⟩
    have okr := h _ mz
    have lb := lnB_len q2 okr
    have ⟨⟨a1, a2, a3, a4, _⟩, w⟩ := okr
    simp only at a1 a2 a3 a4 w
    have hz := w _ rfl
    have tk : (ps.zip ws).take (pre ++ [(pre.length : Int)]).length = (ps.zip ws).take pre.length ++ [(ps[pre.length], ws[pre.length])] := by
      rw [List.length_append, List.length_singleton, List.take_succ_eq_append_getElem (by omega), List.getElem_zip]
    have sl : s.length ≤ 100 := by rw [hs]; simp; omega
    simp only [b_ok, ok_b, ok_f, opt_some, Out_b, Out_ok, Out_er, OutF_b, OutF_f, OutF_nx, OutF_rt, OutF_bk, OutF_ct, OutF_er, Out_ite, OutF_ite, OutF_v, Out_fn, OutF_try, Out_and, Out_or, andM_ok2, orM_ok2, isX_none, isX_some]
    rw [atI_ok (by omega) (by omega), at0_nat hk, atI_ok (by omega) (by omega), at0_nat hk2]
    simp only [b_ok, ok_b, ok_f, opt_some, Out_b, Out_ok, Out_er, OutF_b, OutF_f, OutF_nx, OutF_rt, OutF_bk, OutF_ct, OutF_er, Out_ite, OutF_ite, OutF_v, Out_fn, OutF_try, Out_and, Out_or, andM_ok2, orM_ok2, isX_none, isX_some]
    generalize ps[pre.length] = p at *
    generalize ws[pre.length] = z at *
    obtain ⟨x, y⟩ := p
    have l1 := numI_len (k := 2) (i := x) (by omega) a1 (by omega)
    have l2 := numI_len (k := 2) (i := y) (by omega) a3 (by omega)
    have l3 := numI_len (k := 61) (i := z) (by omega) hz.1 (by omega)
    have cl : cB.length = 6 := rfl
    rw [strO_int (i := x) a1 (by omega), strO_int (i := y) a3 (by omega), strO_int (i := z) hz.1 (by omega)]
    simp only [b_ok, ok_b, ok_f, opt_some, Out_b, Out_ok, Out_er, OutF_b, OutF_f, OutF_nx, OutF_rt, OutF_bk, OutF_ct, OutF_er, Out_ite, OutF_ite, OutF_v, Out_fn, OutF_try, Out_and, Out_or, andM_ok2, orM_ok2, isX_none, isX_some]
    rw [show [SX.S cB, SX.S (numI x), SX.S (numI y), SX.S (numI z)] = [cB, numI x, numI y, numI z].map SX.S from rfl, joiO_S (by simp; omega)]
    simp only [b_ok, ok_b, ok_f, opt_some, Out_b, Out_ok, Out_er, OutF_b, OutF_f, OutF_nx, OutF_rt, OutF_bk, OutF_ct, OutF_er, Out_ite, OutF_ite, OutF_v, Out_fn, OutF_try, Out_and, Out_or, andM_ok2, orM_ok2, isX_none, isX_some]
    rw [appM_ok (by omega)]
    simp only [b_ok, ok_b, ok_f, opt_some, Out_b, Out_ok, Out_er, OutF_b, OutF_f, OutF_nx, OutF_rt, OutF_bk, OutF_ct, OutF_er, Out_ite, OutF_ite, OutF_v, Out_fn, OutF_try, Out_and, Out_or, andM_ok2, orM_ok2, isX_none, isX_some]
    rw [tk, hs]
    simp [lnB, wTl, TL.joinL]
  · show s = _
    rw [hs, rng_len, show ((ps.length : Int) - 0).toNat = ps.length from by omega, List.take_of_length_le (by omega)]
end Br
namespace Br
open PySem PySem.Spec L2
def big : Int := 1000000000000000000000000000000000000000000000000000000000000
def txtOk (l : List Nat) : Prop := (10 : Nat) ∉ l ∧ l.length ≤ 200
theorem brO_nn {l : List Nat} {v : Int × Int × Int} (h : brO l = some v) : 0 ≤ v.2.2 := by
  unfold brO at h
  generalize TL.spl [32] 0 [] l = ws at h
  match ws, h with
  | [a, b, c], h =>
    simp only [brW] at h
    split at h
    · cases h; show (0 : Int) ≤ 1; omega
    · cases h
  | [a, b, c, d], h =>
    simp only [brW] at h
    split at h
    · cases h
      exact Int.natCast_nonneg _
    · cases h
  | [], h => cases h
  | [_], h => cases h
  | [_, _], h => cases h
  | _ :: _ :: _ :: _ :: _ :: _, h => cases h
theorem hdO_lnQ {q : Int} (q1 : 0 ≤ q) (q2 : q < 100) : hdO (lnQ q) = some q := by
  unfold hdO lnQ
  rw [split2 (by decide), split1 (numI_free (by omega))]
  simp [hdW, numI_bad (k := 2) (i := q) (by omega) q1 (by omega), numI_dv q1]
structure St61 (q : Int) (rows0 : List (List Nat)) (hd : List Nat) (ls : List (List Nat)) (t w b : Bool) : Prop where
  h1 : txtOk hd
  h2 : ∀ l ∈ ls, txtOk l
  tK : t = true ↔ (hdO hd = none ∨ ∃ l ∈ ls, brO l = none)
  wK : w = true ↔ ∃ l ∈ ls, ∃ v, brO l = some v ∧ big < v.2.2
  bT : b = true → (∃ q0, hdO hd = some q0 ∧ ¬(1 ≤ q0 ∧ q0 ≤ 24)) ∨ ∃ l ∈ ls, ∃ v, brO l = some v ∧ ¬okP q (v.1, v.2.1)
  bF : b = false → (hd = lnQ q ∨ hdO hd = none) ∧ ∀ l ∈ ls, ∀ v, brO l = some v → okP q (v.1, v.2.1) ∨ big < v.2.2
  hK : hd = lnQ q ∨ hdO hd = none ∨ ∃ q0, hdO hd = some q0 ∧ ¬(1 ≤ q0 ∧ q0 ≤ 24)
  un : t = false → w = false → b = false → hd = lnQ q ∧ ls = rows0
variable {q : Int} {rows0 ls ls' : List (List Nat)} {hd hd' l : List Nat} {t w b : Bool}
theorem St61.insA (S : St61 q rows0 hd ls t w b) (k : txtOk l) (e : brO l = none) (m : ∀ x, x ∈ ls' ↔ x = l ∨ x ∈ ls) : St61 q rows0 hd ls' true w b where
  h1 := S.h1
  h2 := fun x mx => by
    rcases (m x).mp mx with rfl | mx
    · exact k
    · exact S.h2 x mx
  tK := ⟨fun _ => .inr ⟨l, (m l).mpr (.inl rfl), e⟩, fun _ => rfl⟩
  wK := S.wK.trans ⟨fun ⟨x, mx, h⟩ => ⟨x, (m x).mpr (.inr mx), h⟩, fun ⟨x, mx, v, ev, h⟩ => by
    rcases (m x).mp mx with rfl | mx
    · rw [e] at ev; cases ev
    · exact ⟨x, mx, v, ev, h⟩⟩
  bT := fun h => (S.bT h).imp id fun ⟨x, mx, h⟩ => ⟨x, (m x).mpr (.inr mx), h⟩
  bF := fun h => ⟨(S.bF h).1, fun x mx v ev => by
    rcases (m x).mp mx with rfl | mx
    · rw [e] at ev; cases ev
    · exact (S.bF h).2 x mx v ev⟩
  hK := S.hK
  un := fun h => nomatch h
theorem St61.insB (S : St61 q rows0 hd ls t w b) (k : txtOk l) {v : Int × Int × Int} (e : brO l = some v) (hv : big < v.2.2) (b' : Bool) (hb : b' = true → ¬okP q (v.1, v.2.1)) (m : ∀ x, x ∈ ls' ↔ x = l ∨ x ∈ ls) : St61 q rows0 hd ls' t true (b || b') where
  h1 := S.h1
  h2 := fun x mx => by
    rcases (m x).mp mx with rfl | mx
    · exact k
    · exact S.h2 x mx
  tK := S.tK.trans ⟨fun h => h.imp id fun ⟨x, mx, h⟩ => ⟨x, (m x).mpr (.inr mx), h⟩, fun h => h.imp id fun ⟨x, mx, h⟩ => by
    rcases (m x).mp mx with rfl | mx
    · rw [e] at h; cases h
    · exact ⟨x, mx, h⟩⟩
  wK := ⟨fun _ => ⟨l, (m l).mpr (.inl rfl), v, e, hv⟩, fun _ => rfl⟩
  bT := fun h => by
    rcases Bool.or_eq_true _ _ ▸ h with h | h
    · exact (S.bT h).imp id fun ⟨x, mx, h⟩ => ⟨x, (m x).mpr (.inr mx), h⟩
    · exact .inr ⟨l, (m l).mpr (.inl rfl), v, e, hb h⟩
  bF := fun h => by
    have hb0 : b = false := by cases b; rfl; cases h
    refine ⟨(S.bF hb0).1, fun x mx u eu => ?_⟩
    rcases (m x).mp mx with rfl | mx
    · rw [e] at eu; cases eu; exact .inr hv
    · exact (S.bF hb0).2 x mx u eu
  hK := S.hK
  un := fun _ h => nomatch h
theorem St61.insC (S : St61 q rows0 hd ls t w b) (k : txtOk l) {v : Int × Int × Int} (e : brO l = some v) (hv : v.2.2 ≤ big) (hb : ¬okP q (v.1, v.2.1)) (m : ∀ x, x ∈ ls' ↔ x = l ∨ x ∈ ls) : St61 q rows0 hd ls' t w true where
  h1 := S.h1
  h2 := fun x mx => by
    rcases (m x).mp mx with rfl | mx
    · exact k
    · exact S.h2 x mx
  tK := S.tK.trans ⟨fun h => h.imp id fun ⟨x, mx, h⟩ => ⟨x, (m x).mpr (.inr mx), h⟩, fun h => h.imp id fun ⟨x, mx, h⟩ => by
    rcases (m x).mp mx with rfl | mx
    · rw [e] at h; cases h
    · exact ⟨x, mx, h⟩⟩
  wK := S.wK.trans ⟨fun ⟨x, mx, h⟩ => ⟨x, (m x).mpr (.inr mx), h⟩, fun ⟨x, mx, u, eu, h⟩ => by
    rcases (m x).mp mx with rfl | mx
    · rw [e] at eu; cases eu; omega
    · exact ⟨x, mx, u, eu, h⟩⟩
  bT := fun _ => .inr ⟨l, (m l).mpr (.inl rfl), v, e, hb⟩
  bF := fun h => nomatch h
  hK := S.hK
  un := fun _ _ h => nomatch h
theorem St61.hdD (S : St61 q rows0 hd ls t w b) (q1 : 1 ≤ q) (q2 : q ≤ 24) (hq : hd = lnQ q) (k : txtOk hd') (e : hdO hd' = none) : St61 q rows0 hd' ls true w b where
  h1 := k
  h2 := S.h2
  tK := ⟨fun _ => .inl e, fun _ => rfl⟩
  wK := S.wK
  bT := fun h => (S.bT h).elim (fun ⟨q0, e0, h⟩ => by
    rw [hq, hdO_lnQ (by omega) (by omega)] at e0
    cases e0
    exact absurd ⟨q1, q2⟩ h) .inr
  bF := fun h => ⟨.inr e, (S.bF h).2⟩
  hK := .inr (.inl e)
  un := fun h => nomatch h
theorem St61.hdE (S : St61 q rows0 hd ls t w b) (q1 : 1 ≤ q) (q2 : q ≤ 24) (hq : hd = lnQ q) (k : txtOk hd') {q0 : Int} (e : hdO hd' = some q0) (h0 : ¬(1 ≤ q0 ∧ q0 ≤ 24)) : St61 q rows0 hd' ls t w true where
  h1 := k
  h2 := S.h2
  tK := S.tK.trans (by rw [e, hq, hdO_lnQ (by omega) (by omega)]; simp)
  wK := S.wK
  bT := fun _ => .inl ⟨q0, e, h0⟩
  bF := fun h => nomatch h
  hK := .inr (.inr ⟨q0, e, h0⟩)
  un := fun _ _ h => nomatch h
end Br

namespace Br
open PySem PySem.Spec L2
def wText : List Nat := [66, 97, 100, 84, 101, 120, 116]
def wWages : List Nat := [66, 97, 100, 87, 97, 103, 101, 115]
def wTown : List Nat := [66, 97, 100, 84, 111, 119, 110]
theorem wText_eq : ("BadText" : Str) = SX.S wText := by decide +kernel
theorem wWages_eq : ("BadWages" : Str) = SX.S wWages := by decide +kernel
theorem wTown_eq : ("BadTown" : Str) = SX.S wTown := by decide +kernel
theorem wWT_eq : ("BadWages BadTown" : Str) = SX.S (wWages ++ 32 :: wTown) := by decide +kernel
/-- what a change says, and which flags -/
def W5 : List (List Nat × Bool × Bool × Bool) := [(wText, true, false, false), (wWages ++ 32 :: wTown, false, true, true), (wWages, false, true, false), (wTown, false, false, true), ([], false, false, false)]
theorem fsI_q {q : Int} (q1 : 0 ≤ q) (q2 : q ≤ 24) : fsI "quarters " q = some (SX.S (lnQ q)) := by
  have h : ∀ n : Fin 25, fsI "quarters " ((n.val : Nat) : Int) = some (SX.S (lnQ ((n.val : Nat) : Int))) := by decide +kernel
  have := h ⟨q.toNat, by omega⟩
  rwa [Int.toNat_of_nonneg q1] at this
theorem S_eta (y : Str) : SX.S y.cps.toList = y := by
  cases y; simp [SX.S]
variable {q : Int} {rows0 ls : List (List Nat)} {hd l : List Nat} {t w b : Bool}
theorem ins_step {at_ : Int} (h0 : 1 ≤ at_) (h1 : at_ < 1 + ((ls.length : Int) + 1)) (hl : ls.length ≤ 50) : ∃ ls', insO ((hd :: ls).map SX.S) (at_, SX.S l) = some ((), (hd :: ls').map SX.S) ∧ (∀ x, x ∈ ls' ↔ x = l ∨ x ∈ ls) ∧ ls'.length ≤ ls.length + 1 := by
  refine ⟨ls.take (at_.toNat - 1) ++ l :: ls.drop (at_.toNat - 1), ?_, fun x => ?_, ?_⟩
  · unfold insO insL
    rw [if_pos (by simp; omega)]
    have : at_.toNat = (at_.toNat - 1) + 1 := by omega
    rw [this]
    simp
  · have e := List.take_append_drop (at_.toNat - 1) ls
    have m : x ∈ ls ↔ x ∈ ls.take (at_.toNat - 1) ∨ x ∈ ls.drop (at_.toNat - 1) := by rw [← List.mem_append, e]
    rw [m, List.mem_append, List.mem_cons]
    constructor
    · rintro (h | h | h)
      · exact .inr (.inl h)
      · exact .inl h
      · exact .inr (.inr h)
    · rintro (h | h | h)
      · exact .inr (.inl h)
      · exact .inl h
      · exact .inr (.inr h)
  · simp; omega
theorem lnB_len2 {x y : Int} {o : Option Int} (a1 : 0 ≤ x) (a2 : x < 100) (b1 : 0 ≤ y) (b2 : y < 100) (w : ∀ z ∈ o, 0 ≤ z ∧ z < (10 : Int) ^ 61) : txtOk (lnB ((x, y), o)) := by
  refine ⟨lnB_free _, ?_⟩
  have l1 := numI_len (k := 2) (i := x) (by omega) a1 (by omega)
  have l2 := numI_len (k := 2) (i := y) (by omega) b1 (by omega)
  unfold lnB
  have l3 : (wTl o).length ≤ 62 := by
    cases o with
    | none => simp [wTl]
    | some z =>
      have := w z rfl
      have l := numI_len (k := 61) (i := z) (by omega) this.1 this.2
      simp only [wTl, List.length_cons]
      omega
  simp only [List.length_append, List.length_cons]
  have : cB.length = 6 := rfl
  omega
theorem n0 : numI 0 = [48] := by decide +kernel
theorem n1 : numI 1 = [49] := by decide +kernel
theorem p60 : (10 : Int) ^ (60 : Int).toNat = big := by decide
theorem s1_eq : ("bridge 0 1 " : Str) = SX.S (cB ++ [32, 48, 32, 49, 32]) := by decide +kernel
theorem s2_eq : ("bridge 0 " : Str) = SX.S (cB ++ [32, 48, 32]) := by decide +kernel
theorem s3_eq : (" 1" : Str) = SX.S [32, 49] := by decide +kernel
theorem oddL_ok {y : Str} (h : oddL y = true) : txtOk y.cps.toList ∧ brO y.cps.toList = none := by
  unfold oddL at h
  simp only [Bool.and_eq_true, decide_eq_true_eq, Option.isNone_iff_eq_none] at h
  exact ⟨h.1, h.2⟩
theorem oddH_ok {y : Str} (h : oddH y = true) : txtOk y.cps.toList ∧ hdO y.cps.toList = none := by
  unfold oddH at h
  simp only [Bool.and_eq_true, decide_eq_true_eq, Option.isNone_iff_eq_none] at h
  exact ⟨h.1, h.2⟩
theorem lnQ_txt (q1 : 0 ≤ q) (q2 : q < 100) : txtOk (lnQ q) := by
  refine ⟨lnQ_free q, ?_⟩
  have := numI_len (k := 2) (i := q) (by omega) q1 (by omega)
  unfold lnQ
  simp only [List.length_append, List.length_cons]
  have : cQ.length = 8 := rfl
  omega
theorem changed_ok (q1 : 1 ≤ q) (q2 : q ≤ 24) (S : St61 q rows0 hd ls t w b) (hl : ls.length ≤ 50) (cell : Int) : ∃ r, m_law_changed ((hd :: ls).map SX.S, q, cell) = .ok r ∧ ∃ wd hd' ls' f1 f2 f3, r = (SX.S wd, (hd' :: ls').map SX.S) ∧ (wd, f1, f2, f3) ∈ W5 ∧ St61 q rows0 hd' ls' (t || f1) (w || f2) (b || f3) ∧ ls'.length ≤ ls.length + 1 := by
  apply Out.get
  have hln : (((hd :: ls).map SX.S).length : Int) = (ls.length : Int) + 1 := by simp
  have ea : atI ((hd :: ls).map SX.S) 0 = some (SX.S hd) := by rw [atI_ok (Int.le_refl _) (by simp)]; rfl
  have ef := fsI_q (q := q) (by omega) q2
  have same : St61 q rows0 hd ls (t || false) (w || false) (b || false) := by simpa using S
  unfold m_law_changed b_law_changed
  simp only [b_ok, ok_b, ok_f, opt_some, Out_b, Out_ok, Out_er, OutF_b, OutF_f, OutF_nx, OutF_rt, OutF_bk, OutF_ct, OutF_er, Out_ite, OutF_ite, OutF_v, Out_fn, OutF_try, Out_and, Out_or, andM_ok2, orM_ok2, isX_none, isX_some, hln, ea, ef, p60]
  rw [modO_pos (by omega)]
  simp only [b_ok, ok_b, ok_f, opt_some, Out_b, Out_ok, Out_er, OutF_b, OutF_f, OutF_nx, OutF_rt, OutF_bk, OutF_ct, OutF_er, Out_ite, OutF_ite, OutF_v, Out_fn, OutF_try, Out_and, Out_or, andM_ok2, orM_ok2, isX_none, isX_some]
  rw [divO_pos (by omega) (by omega)]
  simp only [b_ok, ok_b, ok_f, opt_some, Out_b, Out_ok, Out_er, OutF_b, OutF_f, OutF_nx, OutF_rt, OutF_bk, OutF_ct, OutF_er, Out_ite, OutF_ite, OutF_v, Out_fn, OutF_try, Out_and, Out_or, andM_ok2, orM_ok2, isX_none, isX_some]
  rw [mulO_l (by decide) (by decide)]
  simp only [b_ok, ok_b, ok_f, opt_some, Out_b, Out_ok, Out_er, OutF_b, OutF_f, OutF_nx, OutF_rt, OutF_bk, OutF_ct, OutF_er, Out_ite, OutF_ite, OutF_v, Out_fn, OutF_try, Out_and, Out_or, andM_ok2, orM_ok2, isX_none, isX_some]
  rw [modO_pos (by decide)]
  simp only [b_ok, ok_b, ok_f, opt_some, Out_b, Out_ok, Out_er, OutF_b, OutF_f, OutF_nx, OutF_rt, OutF_bk, OutF_ct, OutF_er, Out_ite, OutF_ite, OutF_v, Out_fn, OutF_try, Out_and, Out_or, andM_ok2, orM_ok2, isX_none, isX_some]
  have a1 := emod_rng (cell / 12) (show (0 : Int) < (ls.length : Int) + 1 by omega)
  generalize cell / 12 % ((ls.length : Int) + 1) = at_ at *
  generalize cell / 12 / ((ls.length : Int) + 1) = rest at *
  have f1 := emod_rng (rest / 100) (q := 8 * big) (by decide)
  generalize rest / 100 % (8 * big) = far at *
  refine iteI (fun _ => ?_) fun _ => ?_
  · have ⟨y, ey, hy⟩ := (odd_line_ok rest).get
    have ho := oddL_ok hy
    have ⟨ls', ei, mi, li⟩ := ins_step (hd := hd) (l := y.cps.toList) (at_ := 1 + at_) (by omega) (by omega) hl
    rw [S_eta] at ei
    rw [ey]
    simp only [b_ok, ok_b, ok_f, opt_some, Out_b, Out_ok, Out_er, OutF_b, OutF_f, OutF_nx, OutF_rt, OutF_bk, OutF_ct, OutF_er, Out_ite, OutF_ite, OutF_v, Out_fn, OutF_try, Out_and, Out_or, andM_ok2, orM_ok2, isX_none, isX_some]
    rw [ei]
    simp only [b_ok, ok_b, ok_f, opt_some, Out_b, Out_ok, Out_er, OutF_b, OutF_f, OutF_nx, OutF_rt, OutF_bk, OutF_ct, OutF_er, Out_ite, OutF_ite, OutF_v, Out_fn, OutF_try, Out_and, Out_or, andM_ok2, orM_ok2, isX_none, isX_some]
    refine ⟨wText, hd, ls', true, false, false, by rw [wText_eq], by simp [W5], ?_, li⟩
    have := S.insA ho.1 ho.2 mi
    simpa using this
  refine iteI (fun c => ?_) fun _ => ?_
  · have eq : hd = lnQ q := by
      simp only [Bool.and_eq_true, decide_eq_true_eq] at c
      exact S_inj c.2
    have ⟨y, ey, hy⟩ := (odd_head_ok rest).get
    have ho := oddH_ok hy
    rw [ey]
    simp only [b_ok, ok_b, ok_f, opt_some, Out_b, Out_ok, Out_er, OutF_b, OutF_f, OutF_nx, OutF_rt, OutF_bk, OutF_ct, OutF_er, Out_ite, OutF_ite, OutF_v, Out_fn, OutF_try, Out_and, Out_or, andM_ok2, orM_ok2, isX_none, isX_some]
    rw [setM_ok (by omega) (by simp)]
    simp only [b_ok, ok_b, ok_f, opt_some, Out_b, Out_ok, Out_er, OutF_b, OutF_f, OutF_nx, OutF_rt, OutF_bk, OutF_ct, OutF_er, Out_ite, OutF_ite, OutF_v, Out_fn, OutF_try, Out_and, Out_or, andM_ok2, orM_ok2, isX_none, isX_some]
    refine ⟨wText, y.cps.toList, ls, true, false, false, ?_, by simp [W5], ?_, by omega⟩
    · rw [wText_eq, List.map_cons, List.map_cons, S_eta]; rfl
    · have := S.hdD q1 q2 eq ho.1 ho.2
      simpa using this
  refine iteI (fun _ => ?_) fun _ => ?_
  · have hb : big = 1000000000000000000000000000000000000000000000000000000000000 := rfl
    have n0 : 0 ≤ big + 1 + far ∧ big + 1 + far < (10 : Int) ^ 61 ∧ big < big + 1 + far := by
      rw [show (10 : Int) ^ 61 = 10000000000000000000000000000000000000000000000000000000000000 from by decide]
      omega
    generalize big + 1 + far = num at *
    rw [strO_int (i := num) n0.1 (Int.lt_trans n0.2.1 (by decide))]
    simp only [b_ok, ok_b, ok_f, opt_some, Out_b, Out_ok, Out_er, OutF_b, OutF_f, OutF_nx, OutF_rt, OutF_bk, OutF_ct, OutF_er, Out_ite, OutF_ite, OutF_v, Out_fn, OutF_try, Out_and, Out_or, andM_ok2, orM_ok2, isX_none, isX_some]
    have l3 := numI_len (k := 61) (i := num) (by omega) n0.1 n0.2.1
    rw [s1_eq, sadO_S (by simp; have : cB.length = 6 := rfl; omega)]
    simp only [b_ok, ok_b, ok_f, opt_some, Out_b, Out_ok, Out_er, OutF_b, OutF_f, OutF_nx, OutF_rt, OutF_bk, OutF_ct, OutF_er, Out_ite, OutF_ite, OutF_v, Out_fn, OutF_try, Out_and, Out_or, andM_ok2, orM_ok2, isX_none, isX_some]
    have el : cB ++ [32, 48, 32, 49, 32] ++ numI num = lnB ((0, 1), some num) := by
      unfold lnB wTl
      simp [Br.n0, n1]
    have wz : ∀ z ∈ some num, 0 ≤ z ∧ z < (10 : Int) ^ 61 := fun z m => by cases m; exact ⟨n0.1, n0.2.1⟩
    have br := brO_row (x := 0) (y := 1) (o := some num) (by omega) (by omega) (by omega) (by omega) wz
    have tk := lnB_len2 (x := 0) (y := 1) (o := some num) (by omega) (by omega) (by omega) (by omega) wz
    rw [el]
    have ⟨ls', ei, mi, li⟩ := ins_step (hd := hd) (l := lnB ((0, 1), some num)) (at_ := 1 + at_) (by omega) (by omega) hl
    rw [ei]
    simp only [b_ok, ok_b, ok_f, opt_some, Out_b, Out_ok, Out_er, OutF_b, OutF_f, OutF_nx, OutF_rt, OutF_bk, OutF_ct, OutF_er, Out_ite, OutF_ite, OutF_v, Out_fn, OutF_try, Out_and, Out_or, andM_ok2, orM_ok2, isX_none, isX_some]
    refine iteI (fun c => ?_) fun c => ?_
    · have c : q < 2 := by simpa using c
      refine ⟨wWages ++ 32 :: wTown, hd, ls', false, true, true, by rw [wWT_eq], by simp [W5], ?_, li⟩
      have := S.insB tk br n0.2.2 true (fun _ k => by have := k.2.2.2.1; simp at this; omega) mi
      simpa using this
    · refine ⟨wWages, hd, ls', false, true, false, by rw [wWages_eq], by simp [W5], ?_, li⟩
      have := S.insB tk br n0.2.2 false (fun k => nomatch k) mi
      simpa using this
  refine iteI (fun _ => ?_) fun _ => ?_
  · have r1 := emod_rng rest (show (0 : Int) < 75 by omega)
    have hm : 0 ≤ min 99 (q + rest % 75) ∧ min 99 (q + rest % 75) < 100 ∧ q ≤ min 99 (q + rest % 75) := by omega
    generalize min 99 (q + rest % 75) = num at *
    rw [strO_int (i := num) hm.1 (Int.lt_trans hm.2.1 (by decide))]
    simp only [b_ok, ok_b, ok_f, opt_some, Out_b, Out_ok, Out_er, OutF_b, OutF_f, OutF_nx, OutF_rt, OutF_bk, OutF_ct, OutF_er, Out_ite, OutF_ite, OutF_v, Out_fn, OutF_try, Out_and, Out_or, andM_ok2, orM_ok2, isX_none, isX_some]
    have l3 := numI_len (k := 2) (i := num) (by omega) hm.1 (by omega)
    have cl : cB.length = 6 := rfl
    rw [s2_eq, s3_eq, sadO_S (by simp; omega)]
    simp only [b_ok, ok_b, ok_f, opt_some, Out_b, Out_ok, Out_er, OutF_b, OutF_f, OutF_nx, OutF_rt, OutF_bk, OutF_ct, OutF_er, Out_ite, OutF_ite, OutF_v, Out_fn, OutF_try, Out_and, Out_or, andM_ok2, orM_ok2, isX_none, isX_some]
    rw [sadO_S (by simp; omega)]
    simp only [b_ok, ok_b, ok_f, opt_some, Out_b, Out_ok, Out_er, OutF_b, OutF_f, OutF_nx, OutF_rt, OutF_bk, OutF_ct, OutF_er, Out_ite, OutF_ite, OutF_v, Out_fn, OutF_try, Out_and, Out_or, andM_ok2, orM_ok2, isX_none, isX_some]
    have el : cB ++ [32, 48, 32] ++ numI num ++ [32, 49] = lnB ((0, num), some 1) := by
      unfold lnB wTl
      simp [Br.n0, n1]
    have wz : ∀ z ∈ some (1 : Int), 0 ≤ z ∧ z < (10 : Int) ^ 61 := fun z m => by cases m; exact ⟨by omega, by decide⟩
    have br := brO_row (x := 0) (y := num) (o := some 1) (by omega) (by omega) (by omega) (by omega) wz
    have tk := lnB_len2 (x := 0) (y := num) (o := some 1) (by omega) (by omega) (by omega) (by omega) wz
    rw [el]
    have ⟨ls', ei, mi, li⟩ := ins_step (hd := hd) (l := lnB ((0, num), some 1)) (at_ := 1 + at_) (by omega) (by omega) hl
    rw [ei]
    simp only [b_ok, ok_b, ok_f, opt_some, Out_b, Out_ok, Out_er, OutF_b, OutF_f, OutF_nx, OutF_rt, OutF_bk, OutF_ct, OutF_er, Out_ite, OutF_ite, OutF_v, Out_fn, OutF_try, Out_and, Out_or, andM_ok2, orM_ok2, isX_none, isX_some]
    refine ⟨wTown, hd, ls', false, false, true, by rw [wTown_eq], by simp [W5], ?_, li⟩
    have := S.insC tk br (show (1 : Int) ≤ big by decide) (fun k => by have := k.2.2.2.1; simp at this; omega) mi
    simpa using this
  refine iteI (fun _ => ?_) fun _ => ?_
  · have hm := emod_rng rest (show (0 : Int) < 100 by omega)
    generalize rest % 100 = num at *
    rw [strO_int (i := num) hm.1 (Int.lt_trans hm.2 (by decide))]
    simp only [b_ok, ok_b, ok_f, opt_some, Out_b, Out_ok, Out_er, OutF_b, OutF_f, OutF_nx, OutF_rt, OutF_bk, OutF_ct, OutF_er, Out_ite, OutF_ite, OutF_v, Out_fn, OutF_try, Out_and, Out_or, andM_ok2, orM_ok2, isX_none, isX_some]
    have l3 := numI_len (k := 2) (i := num) (by omega) hm.1 (by omega)
    have cl : cB.length = 6 := rfl
    rw [brs_eq, sp_eq, sadO_S (by simp; omega)]
    simp only [b_ok, ok_b, ok_f, opt_some, Out_b, Out_ok, Out_er, OutF_b, OutF_f, OutF_nx, OutF_rt, OutF_bk, OutF_ct, OutF_er, Out_ite, OutF_ite, OutF_v, Out_fn, OutF_try, Out_and, Out_or, andM_ok2, orM_ok2, isX_none, isX_some]
    rw [sadO_S (by simp; omega)]
    simp only [b_ok, ok_b, ok_f, opt_some, Out_b, Out_ok, Out_er, OutF_b, OutF_f, OutF_nx, OutF_rt, OutF_bk, OutF_ct, OutF_er, Out_ite, OutF_ite, OutF_v, Out_fn, OutF_try, Out_and, Out_or, andM_ok2, orM_ok2, isX_none, isX_some]
    rw [sadO_S (by simp; omega)]
    simp only [b_ok, ok_b, ok_f, opt_some, Out_b, Out_ok, Out_er, OutF_b, OutF_f, OutF_nx, OutF_rt, OutF_bk, OutF_ct, OutF_er, Out_ite, OutF_ite, OutF_v, Out_fn, OutF_try, Out_and, Out_or, andM_ok2, orM_ok2, isX_none, isX_some]
    have el : cB ++ [32] ++ numI num ++ [32] ++ numI num = lnB ((num, num), none) := by
      unfold lnB wTl
      simp
    have wz : ∀ z ∈ (none : Option Int), 0 ≤ z ∧ z < (10 : Int) ^ 61 := fun z m => by cases m
    have br := brO_row (x := num) (y := num) (o := none) (by omega) (by omega) (by omega) (by omega) wz
    have tk := lnB_len2 (x := num) (y := num) (o := none) (by omega) (by omega) (by omega) (by omega) wz
    rw [el]
    have ⟨ls', ei, mi, li⟩ := ins_step (hd := hd) (l := lnB ((num, num), none)) (at_ := 1 + at_) (by omega) (by omega) hl
    rw [ei]
    simp only [b_ok, ok_b, ok_f, opt_some, Out_b, Out_ok, Out_er, OutF_b, OutF_f, OutF_nx, OutF_rt, OutF_bk, OutF_ct, OutF_er, Out_ite, OutF_ite, OutF_v, Out_fn, OutF_try, Out_and, Out_or, andM_ok2, orM_ok2, isX_none, isX_some]
    refine ⟨wTown, hd, ls', false, false, true, by rw [wTown_eq], by simp [W5], ?_, li⟩
    have := S.insC tk br (show (1 : Int) ≤ big by decide) (fun k => k.2.2.2.2 rfl) mi
    simpa using this
  refine iteI (fun c => ?_) fun _ => ?_
  · have eq : hd = lnQ q := by
      simp only [Bool.and_eq_true, decide_eq_true_eq] at c
      exact S_inj c.2
    have r1 := emod_rng rest (show (0 : Int) < 74 by omega)
    have r3 := emod_rng rest (show (0 : Int) < 3 by omega)
    rw [atI_ok r3.1 (by simpa using r3.2)]
    have m := at0_mem (xs := [(0 : Int), 25, 26 + rest % 74]) (i := rest % 3) r3.1 (by simpa using r3.2)
    simp only [b_ok, ok_b, ok_f, opt_some, Out_b, Out_ok, Out_er, OutF_b, OutF_f, OutF_nx, OutF_rt, OutF_bk, OutF_ct, OutF_er, Out_ite, OutF_ite, OutF_v, Out_fn, OutF_try, Out_and, Out_or, andM_ok2, orM_ok2, isX_none, isX_some]
    generalize at0 [(0 : Int), 25, 26 + rest % 74] (rest % 3) = num at *
    have hm : 0 ≤ num ∧ num < 100 ∧ ¬(1 ≤ num ∧ num ≤ 24) := by
      simp only [List.mem_cons, List.not_mem_nil, or_false] at m
      omega
    rw [strO_int (i := num) hm.1 (Int.lt_trans hm.2.1 (by decide))]
    simp only [b_ok, ok_b, ok_f, opt_some, Out_b, Out_ok, Out_er, OutF_b, OutF_f, OutF_nx, OutF_rt, OutF_bk, OutF_ct, OutF_er, Out_ite, OutF_ite, OutF_v, Out_fn, OutF_try, Out_and, Out_or, andM_ok2, orM_ok2, isX_none, isX_some]
    have l3 := numI_len (k := 2) (i := num) (by omega) hm.1 (by omega)
    rw [qrs_eq, sadO_S (by simp; have : cQ.length = 8 := rfl; omega)]
    simp only [b_ok, ok_b, ok_f, opt_some, Out_b, Out_ok, Out_er, OutF_b, OutF_f, OutF_nx, OutF_rt, OutF_bk, OutF_ct, OutF_er, Out_ite, OutF_ite, OutF_v, Out_fn, OutF_try, Out_and, Out_or, andM_ok2, orM_ok2, isX_none, isX_some]
    rw [setM_ok (by omega) (by simp)]
    simp only [b_ok, ok_b, ok_f, opt_some, Out_b, Out_ok, Out_er, OutF_b, OutF_f, OutF_nx, OutF_rt, OutF_bk, OutF_ct, OutF_er, Out_ite, OutF_ite, OutF_v, Out_fn, OutF_try, Out_and, Out_or, andM_ok2, orM_ok2, isX_none, isX_some]
    have el : cQ ++ [32] ++ numI num = lnQ num := by unfold lnQ; simp
    rw [el]
    refine ⟨wTown, lnQ num, ls, false, false, true, by rw [wTown_eq]; rfl, by simp [W5], ?_, by omega⟩
    have := S.hdE q1 q2 eq (lnQ_txt hm.1 hm.2.1) (hdO_lnQ hm.1 hm.2.1) hm.2.2
    simpa using this
  · exact ⟨[], hd, ls, false, false, false, by rw [empty_eq], by simp [W5], same, by omega⟩
end Br

namespace Br
open PySem PySem.Spec L2
variable {q : Int} {rows0 ls : List (List Nat)} {hd l : List Nat} {t w b : Bool}
theorem allO_none : ∀ {ls : List (List Nat)}, (∃ l ∈ ls, brO l = none) → allO (ls.map brO) = none
  | [], ⟨_, m, _⟩ => nomatch m
  | l :: ls, ⟨x, m, e⟩ => by
    rw [List.map_cons]
    cases el : brO l with
    | none => rfl
    | some v =>
      have h : ∃ l ∈ ls, brO l = none := by
        rcases List.mem_cons.mp m with rfl | m
        · rw [el] at e; cases e
        · exact ⟨x, m, e⟩
      rw [allO, allO_none h]; rfl
theorem allO_some : ∀ {ls : List (List Nat)}, (∀ l ∈ ls, brO l ≠ none) → ∃ ts, allO (ls.map brO) = some ts ∧ ∀ v, v ∈ ts ↔ ∃ l ∈ ls, brO l = some v
  | [], _ => ⟨[], rfl, fun v => by simp⟩
  | l :: ls, h => by
    have ⟨ts, e, k⟩ := allO_some (ls := ls) fun x m => h x (List.mem_cons_of_mem _ m)
    cases el : brO l with
    | none => exact absurd el (h l List.mem_cons_self)
    | some v =>
      refine ⟨v :: ts, by rw [List.map_cons, el, allO, e]; rfl, fun u => ?_⟩
      rw [List.mem_cons, k]
      constructor
      · rintro (rfl | ⟨x, m, e⟩)
        · exact ⟨l, List.mem_cons_self, el⟩
        · exact ⟨x, List.mem_cons_of_mem _ m, e⟩
      · rintro ⟨x, m, e⟩
        rcases List.mem_cons.mp m with rfl | m
        · rw [el] at e; cases e; exact .inl rfl
        · exact .inr ⟨x, m, e⟩
def due3 (t w b : Bool) : String := if t then "BadText" else if w then "BadWages" else if b then "BadTown" else ""
theorem rd_due (q1 : 1 ≤ q) (q2 : q ≤ 24) (S : St61 q rows0 hd ls t w b) (h : t = true ∨ w = true ∨ b = true) : rdR hd ls = .er (due3 t w b) := by
  unfold rdR
  cases t with
  | true =>
    rcases S.tK.mp rfl with e | e
    · rw [e]; rfl
    · rw [allO_none e]
      cases hdO hd <;> rfl
  | false =>
    have n1 : hdO hd ≠ none := fun e => nomatch S.tK.mpr (.inl e)
    have n2 : ∀ l ∈ ls, brO l ≠ none := fun l m e => nomatch S.tK.mpr (.inr ⟨l, m, e⟩)
    have ⟨ts, ets, mts⟩ := allO_some n2
    cases eh : hdO hd with
    | none => exact absurd eh n1
    | some q0 =>
      rw [ets]
      simp only
      cases w with
      | true =>
        have ⟨l, m, v, ev, hv⟩ := S.wK.mp rfl
        rw [if_neg]
        · rfl
        · intro g
          have := g.2 v.2.2 (List.mem_map.mpr ⟨v, (mts v).mpr ⟨l, m, ev⟩, rfl⟩)
          have hb : big = 1000000000000000000000000000000000000000000000000000000000000 := rfl
          omega
      | false =>
        have hb : b = true := by simpa using h
        rw [if_pos]
        · rw [if_neg]
          · rw [hb]; rfl
          · intro f
            rcases S.bT hb with ⟨q1, e1, n⟩ | ⟨l, m, v, ev, n⟩
            · rw [eh] at e1; cases e1; exact n ⟨f.1, f.2.1⟩
            · -- the head too
              have p := f.2.2.2 (v.1, v.2.1) (List.mem_map.mpr ⟨v, (mts v).mpr ⟨l, m, ev⟩, rfl⟩)
              rcases S.hK with e1 | e1 | ⟨q1, e1, n1⟩
              · rw [e1, hdO_lnQ (by omega) (by omega)] at eh
                cases eh
                exact n p
              · rw [eh] at e1; cases e1
              · rw [eh] at e1; cases e1; exact n1 ⟨f.1, f.2.1⟩
        · refine ⟨by simp, fun x m => ?_⟩
          have ⟨v, mv, ev⟩ := List.mem_map.mp m
          have ⟨l, ml, el⟩ := (mts v).mp mv
          rw [← ev]
          refine ⟨brO_nn el, Int.not_lt.mp fun z => ?_⟩
          exact nomatch S.wK.mpr ⟨l, ml, v, el, z⟩
theorem sum_le (h : ∀ l ∈ ls, txtOk l) : (ls.map (·.length)).sum ≤ 200 * ls.length := by
  induction ls with
  | nil => simp
  | cons l ls ih =>
    have a := ih fun x m => h x (List.mem_cons_of_mem _ m)
    have := (h l List.mem_cons_self).2
    simp only [List.map_cons, List.sum_cons, List.length_cons]
    omega
theorem ws_map {α β : Type} [BEq α] [LawfulBEq α] [BEq β] [LawfulBEq β] {f : α → β} (inj : ∀ {a b}, f a = f b → a = b) {x : α} {xs ys : List α} (h : x ∉ xs) : ((xs ++ x :: ys).map f).idxOf (f x) = xs.length := by
  rw [List.map_append, List.idxOf_append, if_neg]
  · rw [List.map_cons, List.idxOf_cons_self, List.length_map]; omega
  · intro m
    have ⟨y, my, e⟩ := List.mem_map.mp m
    exact h (inj e ▸ my)
theorem in_map {x : List Nat} {xs : List (List Nat)} : SX.S x ∈ xs.map SX.S ↔ x ∈ xs := ⟨fun m => by
  have ⟨y, my, e⟩ := List.mem_map.mp m
  exact S_inj e ▸ my, fun m => List.mem_map.mpr ⟨x, m, rfl⟩⟩
theorem txt_spl {ls : List (List Nat)} (ne : ls ≠ []) (h : ∀ l ∈ ls, txtOk l) (hl : ls.length ≤ 100) : splO (SX.S (TL.joinL [10] ls)) (SX.S [10]) = some (ls.map SX.S) := by
  have a := joinL_len ls
  have s := sum_le h
  rw [splO_S (by omega) (by omega), TL.spl_join ne fun p m => (h p m).1]
theorem ans_none {ls : List (List Nat)} (ne : ls ≠ []) (h : ∀ l ∈ ls, txtOk l) (hl : ls.length ≤ 100) (hn : ([] : List Nat) ∉ ls) : m_answers_to (SX.S (TL.joinL [10] ls)) = .er "BadText" := by
  have hn : ¬SX.S [] ∈ ls.map SX.S := fun m => hn (in_map.mp m)
  unfold m_answers_to b_answers_to
  simp only [b_ok, ok_b, er_b, no_b, ok_f, er_f, no_f, nx_b, rt_b, bk_b, ct_b, erF_b, noF_b, rt_v, er_v, bk_v, ct_v, no_v, nx_fn, rt_fn, er_fn, opt_some, opt_none, nx_lp, ct_lp, bk_lp, rt_lp, er_lp, forM_nil, try_nx, try_rt, try_er, isX_none, isX_some, andM_ok2, orM_ok2, ite_fn, ite_lp, nl_eq, empty_eq, txt_spl ne h hl]
  simp [hn]
theorem ans_er {ls qs : List (List Nat)} {c : String} (h : ∀ l ∈ ls ++ [] :: qs, txtOk l) (hl : (ls ++ [] :: qs).length ≤ 100) (hn : ([] : List Nat) ∉ ls) (e : m_read_town (SX.S (TL.joinL [10] ls)) = .er c) : m_answers_to (SX.S (TL.joinL [10] (ls ++ [] :: qs))) = .er c := by
  have hm : SX.S [] ∈ (ls ++ [] :: qs).map SX.S := in_map.mpr (by simp)
  have ix := ws_map (f := SX.S) (x := []) (ys := qs) S_inj hn
  have jo := joiO_lines (ls := ls) (by have := sum_le (ls := ls) fun l m => h l (List.mem_append_left _ m); simp at hl; omega)
  unfold m_answers_to b_answers_to
  simp only [b_ok, ok_b, er_b, no_b, ok_f, er_f, no_f, nx_b, rt_b, bk_b, ct_b, erF_b, noF_b, rt_v, er_v, bk_v, ct_v, no_v, nx_fn, rt_fn, er_fn, opt_some, opt_none, nx_lp, ct_lp, bk_lp, rt_lp, er_lp, forM_nil, try_nx, try_rt, try_er, isX_none, isX_some, andM_ok2, orM_ok2, ite_fn, ite_lp, nl_eq, empty_eq, txt_spl (by simp) h hl]
  unfold ixOfO
  rw [if_pos hm, ix]
  simp only [b_ok, ok_b, er_b, no_b, ok_f, er_f, no_f, nx_b, rt_b, bk_b, ct_b, erF_b, noF_b, rt_v, er_v, bk_v, ct_v, no_v, nx_fn, rt_fn, er_fn, opt_some, opt_none, nx_lp, ct_lp, bk_lp, rt_lp, er_lp, forM_nil, try_nx, try_rt, try_er, isX_none, isX_some, andM_ok2, orM_ok2, ite_fn, ite_lp]
  rw [cut_up, show List.take ls.length (List.map SX.S (ls ++ [] :: qs)) = ls.map SX.S from by simp, jo]
  simp only [b_ok, ok_b, er_b, no_b, ok_f, er_f, no_f, nx_b, rt_b, bk_b, ct_b, erF_b, noF_b, rt_v, er_v, bk_v, ct_v, no_v, nx_fn, rt_fn, er_fn, opt_some, opt_none, nx_lp, ct_lp, bk_lp, rt_lp, er_lp, forM_nil, try_nx, try_rt, try_er, isX_none, isX_some, andM_ok2, orM_ok2, ite_fn, ite_lp, e]
  simp [hm]
theorem ans_ok {ls : List (List Nat)} {r : VTown × List Int} (h : ∀ l ∈ ls ++ [[]], txtOk l) (hl : (ls ++ [[]]).length ≤ 100) (hn : ([] : List Nat) ∉ ls) (e : m_read_town (SX.S (TL.joinL [10] ls)) = .ok r) : m_answers_to (SX.S (TL.joinL [10] (ls ++ [[]]))) = .ok [] := by
  have hm : SX.S [] ∈ (ls ++ [[]]).map SX.S := in_map.mpr (by simp)
  have ix := ws_map (f := SX.S) (x := []) (ys := []) S_inj hn
  have jo := joiO_lines (ls := ls) (by have := sum_le (ls := ls) fun l m => h l (List.mem_append_left _ m); simp at hl; omega)
  unfold m_answers_to b_answers_to
  simp only [b_ok, ok_b, er_b, no_b, ok_f, er_f, no_f, nx_b, rt_b, bk_b, ct_b, erF_b, noF_b, rt_v, er_v, bk_v, ct_v, no_v, nx_fn, rt_fn, er_fn, opt_some, opt_none, nx_lp, ct_lp, bk_lp, rt_lp, er_lp, forM_nil, try_nx, try_rt, try_er, isX_none, isX_some, andM_ok2, orM_ok2, ite_fn, ite_lp, nl_eq, empty_eq, txt_spl (by simp) h hl]
  unfold ixOfO
  rw [if_pos hm, ix]
  simp only [b_ok, ok_b, er_b, no_b, ok_f, er_f, no_f, nx_b, rt_b, bk_b, ct_b, erF_b, noF_b, rt_v, er_v, bk_v, ct_v, no_v, nx_fn, rt_fn, er_fn, opt_some, opt_none, nx_lp, ct_lp, bk_lp, rt_lp, er_lp, forM_nil, try_nx, try_rt, try_er, isX_none, isX_some, andM_ok2, orM_ok2, ite_fn, ite_lp]
  rw [cut_up, show List.take ls.length (List.map SX.S (ls ++ [[]])) = ls.map SX.S from by simp, jo, show (ls.length : Int) + 1 = ((ls.length + 1 : Nat) : Int) from rfl, cut_lo, show List.drop (ls.length + 1) (List.map SX.S (ls ++ [[]])) = [] from by simp]
  simp only [b_ok, ok_b, er_b, no_b, ok_f, er_f, no_f, nx_b, rt_b, bk_b, ct_b, erF_b, noF_b, rt_v, er_v, bk_v, ct_v, no_v, nx_fn, rt_fn, er_fn, opt_some, opt_none, nx_lp, ct_lp, bk_lp, rt_lp, er_lp, forM_nil, try_nx, try_rt, try_er, isX_none, isX_some, andM_ok2, orM_ok2, ite_fn, ite_lp, e]
  simp [hm]
  rfl
def names3 : List String := ["BadText", "BadWages", "BadTown"]
theorem refused_ok : ∀ c ∈ names3, m_law_refused (some c, (c : Str)) = .ok true := by
  intro c m
  simp only [names3, List.mem_cons, List.not_mem_nil, or_false] at m
  rcases m with rfl | rfl | rfl <;> rfl
theorem caught0_er {x : Str} {c : String} (h : c ∈ names3) (e : m_read_town x = .er c) : m_law_caught (0, x) = .ok (some c, none) := by
  simp only [names3, List.mem_cons, List.not_mem_nil, or_false] at h
  unfold m_law_caught b_law_caught
  simp only [b_ok, ok_b, er_b, no_b, ok_f, er_f, no_f, nx_b, rt_b, bk_b, ct_b, erF_b, noF_b, rt_v, er_v, bk_v, ct_v, no_v, nx_fn, rt_fn, er_fn, opt_some, opt_none, nx_lp, ct_lp, bk_lp, rt_lp, er_lp, forM_nil, try_nx, try_rt, try_er, isX_none, isX_some, andM_ok2, orM_ok2, ite_fn, ite_lp, e]
  rcases h with rfl | rfl | rfl <;> simp
theorem caught0_ok {x : Str} {r : VTown × List Int} (e : m_read_town x = .ok r) : m_law_caught (0, x) = .ok (none, some (.inr r)) := by
  unfold m_law_caught b_law_caught
  simp only [b_ok, ok_b, er_b, no_b, ok_f, er_f, no_f, nx_b, rt_b, bk_b, ct_b, erF_b, noF_b, rt_v, er_v, bk_v, ct_v, no_v, nx_fn, rt_fn, er_fn, opt_some, opt_none, nx_lp, ct_lp, bk_lp, rt_lp, er_lp, forM_nil, try_nx, try_rt, try_er, isX_none, isX_some, andM_ok2, orM_ok2, ite_fn, ite_lp, e]
  simp
theorem caught1_er {x : Str} {c : String} (h : c ∈ names3) (e : m_answers_to x = .er c) : m_law_caught (1, x) = .ok (some c, none) := by
  simp only [names3, List.mem_cons, List.not_mem_nil, or_false] at h
  unfold m_law_caught b_law_caught
  simp only [b_ok, ok_b, er_b, no_b, ok_f, er_f, no_f, nx_b, rt_b, bk_b, ct_b, erF_b, noF_b, rt_v, er_v, bk_v, ct_v, no_v, nx_fn, rt_fn, er_fn, opt_some, opt_none, nx_lp, ct_lp, bk_lp, rt_lp, er_lp, forM_nil, try_nx, try_rt, try_er, isX_none, isX_some, andM_ok2, orM_ok2, ite_fn, ite_lp, e]
  rcases h with rfl | rfl | rfl <;> simp
theorem caught1_ok {x : Str} {r : List Int} (e : m_answers_to x = .ok r) : m_law_caught (1, x) = .ok (none, some (.inl r)) := by
  unfold m_law_caught b_law_caught
  simp only [b_ok, ok_b, er_b, no_b, ok_f, er_f, no_f, nx_b, rt_b, bk_b, ct_b, erF_b, noF_b, rt_v, er_v, bk_v, ct_v, no_v, nx_fn, rt_fn, er_fn, opt_some, opt_none, nx_lp, ct_lp, bk_lp, rt_lp, er_lp, forM_nil, try_nx, try_rt, try_er, isX_none, isX_some, andM_ok2, orM_ok2, ite_fn, ite_lp, e]
  simp
theorem due3_in (h : t = true ∨ w = true ∨ b = true) : due3 t w b ∈ names3 ∧ due3 t w b ≠ "" := by
  cases t <;> cases w <;> cases b <;> simp_all [due3, names3]
theorem asked_ok (q1 : 1 ≤ q) (q2 : q ≤ 24) (S : St61 q rows0 hd ls t w b) (hl : ls.length ≤ 50) (hn : ([] : List Nat) ∉ hd :: ls) (rd : m_read_town (SX.S (TL.joinL [10] (hd :: ls))) = rdR hd ls) (gd : t = false → w = false → b = false → ∃ r, rdR hd ls = .ok r) : m_law_asked_right ((hd :: ls).map SX.S, (due3 t w b : Str)) = .ok true := by
  have hx : ∀ l ∈ hd :: ls, txtOk l := fun l m => by
    rcases List.mem_cons.mp m with rfl | m
    · exact S.h1
    · exact S.h2 l m
  have he : txtOk [] := ⟨by simp, by simp⟩
  have hs : txtOk [115, 105, 103, 110, 115] := ⟨by decide, by decide⟩
  have hx2 : ∀ l ∈ (hd :: ls) ++ [[]], txtOk l := fun l m => by
    rcases List.mem_append.mp m with m | m
    · exact hx l m
    · rw [List.mem_singleton.mp m]; exact he
  have hx3 : ∀ l ∈ (hd :: ls) ++ [[], [115, 105, 103, 110, 115]], txtOk l := fun l m => by
    rcases List.mem_append.mp m with m | m
    · exact hx l m
    · rcases List.mem_cons.mp m with rfl | m
      · exact he
      · rw [List.mem_singleton.mp m]; exact hs
  have su : ∀ xs : List (List Nat), (∀ l ∈ xs, txtOk l) → xs.length ≤ 100 → joiO (SX.S [10]) (xs.map SX.S) = some (SX.S (TL.joinL [10] xs)) := fun xs h k => joiO_lines (by have := sum_le h; omega)
  have sg : ("signs" : Str) = SX.S [115, 105, 103, 110, 115] := by decide +kernel
  have a1 := caught1_er (by simp [names3]) (ans_none (by simp) hx (by simp; omega) hn)
  apply Out.eq
  unfold m_law_asked_right b_law_asked_right
  simp only [b_ok, ok_b, ok_f, opt_some, Out_b, Out_ok, Out_er, OutF_b, OutF_f, OutF_nx, OutF_rt, OutF_bk, OutF_ct, OutF_er, Out_ite, OutF_ite, OutF_v, Out_fn, OutF_try, Out_and, Out_or, andM_ok2, orM_ok2, isX_none, isX_some, nl_eq, empty_eq, sg, su _ hx (by simp; omega), a1]
  rw [catO_ok (by simp; omega), show (hd :: ls).map SX.S ++ [SX.S []] = ((hd :: ls) ++ [[]]).map SX.S from by simp]
  rw [catO_ok (by simp; omega), show (hd :: ls).map SX.S ++ [SX.S [], SX.S [115, 105, 103, 110, 115]] = ((hd :: ls) ++ [[], [115, 105, 103, 110, 115]]).map SX.S from by simp]
  simp only [b_ok, ok_b, ok_f, opt_some, Out_b, Out_ok, Out_er, OutF_b, OutF_f, OutF_nx, OutF_rt, OutF_bk, OutF_ct, OutF_er, Out_ite, OutF_ite, OutF_v, Out_fn, OutF_try, Out_and, Out_or, andM_ok2, orM_ok2, isX_none, isX_some, su _ hx2 (by simp; omega), su _ hx3 (by simp; omega)]
  rw [show m_law_refused (some "BadText", ("BadText" : Str)) = .ok true from refused_ok "BadText" (by simp [names3])]
  simp only [b_ok, ok_b, ok_f, opt_some, Out_b, Out_ok, Out_er, OutF_b, OutF_f, OutF_nx, OutF_rt, OutF_bk, OutF_ct, OutF_er, Out_ite, OutF_ite, OutF_v, Out_fn, OutF_try, Out_and, Out_or, andM_ok2, orM_ok2, isX_none, isX_some]
  refine iteI (fun z => by simp at z) fun _ => ?_
  by_cases h : t = true ∨ w = true ∨ b = true
  · have er := rd_due q1 q2 S h
    have ⟨d1, d2⟩ := due3_in h
    rw [er] at rd
    generalize due3 t w b = c at *
    have a2 := caught1_er d1 (ans_er (qs := []) hx2 (by simp; omega) hn rd)
    have a3 := caught1_er d1 (ans_er (qs := [[115, 105, 103, 110, 115]]) hx3 (by simp; omega) hn rd)
    rw [a2]
    simp only [b_ok, ok_b, ok_f, opt_some, Out_b, Out_ok, Out_er, OutF_b, OutF_f, OutF_nx, OutF_rt, OutF_bk, OutF_ct, OutF_er, Out_ite, OutF_ite, OutF_v, Out_fn, OutF_try, Out_and, Out_or, andM_ok2, orM_ok2, isX_none, isX_some]
    refine iteI (fun z => ?_) fun _ => ?_
    · exfalso
      simp only [names3, List.mem_cons, List.not_mem_nil, or_false] at d1
      rcases d1 with rfl | rfl | rfl <;> revert z <;> decide +kernel
    rw [a3]
    simp only [b_ok, ok_b, ok_f, opt_some, Out_b, Out_ok, Out_er, OutF_b, OutF_f, OutF_nx, OutF_rt, OutF_bk, OutF_ct, OutF_er, Out_ite, OutF_ite, OutF_v, Out_fn, OutF_try, Out_and, Out_or, andM_ok2, orM_ok2, isX_none, isX_some, refused_ok c d1]
    trivial
  · have ht : t = false := by cases t <;> simp_all
    have hw : w = false := by cases w <;> simp_all
    have hb : b = false := by cases b <;> simp_all
    have ⟨r, er⟩ := gd ht hw hb
    rw [er] at rd
    have a2 := caught1_ok (ans_ok hx2 (by simp; omega) hn rd)
    rw [a2]
    subst ht hw hb
    simp only [b_ok, ok_b, ok_f, opt_some, Out_b, Out_ok, Out_er, OutF_b, OutF_f, OutF_nx, OutF_rt, OutF_bk, OutF_ct, OutF_er, Out_ite, OutF_ite, OutF_v, Out_fn, OutF_try, Out_and, Out_or, andM_ok2, orM_ok2, isX_none, isX_some]
    refine iteI (fun z => ?_) fun z => ?_
    · simp [leftO]
      rfl
    · exact absurd (by decide +kernel) z
def step5 (d : List Nat × Bool × Bool × Bool) : List (List Nat × Bool × Bool × Bool) := W5.map fun e => (d.1 ++ 32 :: e.1, d.2.1 || e.2.1, d.2.2.1 || e.2.2.1, d.2.2.2 || e.2.2.2)
def dues : Nat → List (List Nat × Bool × Bool × Bool)
  | 0 => [([], false, false, false)]
  | k + 1 => (dues k).flatMap step5
theorem dues_sub : ∀ k : Fin 4, ∀ e ∈ dues k.val, (subO "BadText" (SX.S e.1) = e.2.1 ∧ subO "BadWages" (SX.S e.1) = e.2.2.1 ∧ subO "BadTown" (SX.S e.1) = e.2.2.2) ∧ e.1.length ≤ 60 := by decide +kernel
end Br

namespace Br
open PySem PySem.Spec L2
theorem inner_due {q : Int} {ps : List (Int × Int)} {ws : List Int} (hp : ∀ p ∈ ps, okP q p) (q2 : q ≤ 24) (hw : ∀ w ∈ ws, 0 ≤ w ∧ w ≤ big) : ∀ r ∈ ps.zip ws, okR q (r.1, some r.2) := fun r m => by
  obtain ⟨p, z⟩ := r
  have := List.of_mem_zip m
  exact ⟨hp p this.1, fun w e => by cases e; exact hw z this.2⟩
theorem big_lt : big < (10 : Int) ^ 61 := by decide
theorem allO_map {α : Type} {f : α → List Nat} {g : α → Int × Int × Int} : ∀ {rs : List α}, (∀ r ∈ rs, brO (f r) = some (g r)) → allO ((rs.map f).map brO) = some (rs.map g)
  | [], _ => rfl
  | r :: rs, h => by
    have ih := allO_map (rs := rs) fun x m => h x (List.mem_cons_of_mem _ m)
    rw [List.map_cons, List.map_cons, h r List.mem_cons_self, allO, ih]; rfl
theorem row_ok {q : Int} (q2 : q ≤ 24) {r : (Int × Int) × Int} (h : okR q (r.1, some r.2)) : brO (lnB (r.1, some r.2)) = some (r.1.1, r.1.2, r.2) ∧ txtOk (lnB (r.1, some r.2)) ∧ okP q r.1 ∧ r.2 ≤ big := by
  have ⟨⟨a1, a2, a3, a4, a5⟩, w⟩ := h
  have hz := w r.2 rfl
  obtain ⟨⟨x, y⟩, z⟩ := r
  have wz : ∀ u ∈ some z, 0 ≤ u ∧ u < (10 : Int) ^ 61 := fun u m => by
    cases m
    have hz : 0 ≤ z ∧ z ≤ big := hz
    exact ⟨hz.1, Int.lt_of_le_of_lt hz.2 big_lt⟩
  simp only at a1 a2 a3 a4
  exact ⟨brO_row a1 (by omega) a3 (by omega) wz, lnB_len2 a1 (by omega) a3 (by omega) wz, ⟨a1, a2, a3, a4, a5⟩, hz.2⟩
theorem start61 {q : Int} (q1 : 1 ≤ q) (q2 : q ≤ 24) {rs : List ((Int × Int) × Int)} (h : ∀ r ∈ rs, okR q (r.1, some r.2)) : St61 q (rs.map fun r => lnB (r.1, some r.2)) (lnQ q) (rs.map fun r => lnB (r.1, some r.2)) false false false := by
  have br := fun r m => row_ok q2 (h r m)
  have mm : ∀ l ∈ rs.map (fun r => lnB (r.1, some r.2)), ∃ r ∈ rs, lnB (r.1, some r.2) = l := fun l m => by
    have ⟨r, mr, e⟩ := List.mem_map.mp m
    exact ⟨r, mr, e⟩
  refine ⟨lnQ_txt (by omega) (by omega), fun l m => ?_, ⟨fun z => (nomatch z), fun z => ?_⟩, ⟨fun z => (nomatch z), fun ⟨l, m, v, ev, hv⟩ => ?_⟩, fun z => (nomatch z), fun _ => ⟨.inl rfl, fun l m v ev => ?_⟩, .inl rfl, fun _ _ _ => ⟨rfl, rfl⟩⟩
  · have ⟨r, mr, e⟩ := mm l m
    rw [← e]; exact (br r mr).2.1
  · rcases z with z | ⟨l, m, e⟩
    · rw [hdO_lnQ (by omega) (by omega)] at z; cases z
    · have ⟨r, mr, e2⟩ := mm l m
      rw [← e2, (br r mr).1] at e; cases e
  · have ⟨r, mr, e2⟩ := mm l m
    rw [← e2, (br r mr).1] at ev; cases ev
    have := (br r mr).2.2.2
    exact absurd hv (Int.not_lt.mpr this)
  · have ⟨r, mr, e2⟩ := mm l m
    rw [← e2, (br r mr).1] at ev; cases ev
    exact .inl (br r mr).2.2.1
/-- the loop's turn -/
theorem due_mem {k : Nat} {d wd : List Nat} {t w b f1 f2 f3 : Bool} (h : (d, t, w, b) ∈ dues k) (m : (wd, f1, f2, f3) ∈ W5) : (d ++ 32 :: wd, t || f1, w || f2, b || f3) ∈ dues (k + 1) :=
  List.mem_flatMap.mpr ⟨_, h, List.mem_map.mpr ⟨_, m, rfl⟩⟩
theorem W5_len : ∀ e ∈ W5, e.1.length ≤ 20 := by decide
theorem first_ok {k : Nat} (hk : k < 4) {d : List Nat} {t w b : Bool} (h : (d, t, w, b) ∈ dues k) : subO "BadText" (SX.S d) = t ∧ subO "BadWages" (SX.S d) = w ∧ subO "BadTown" (SX.S d) = b := (dues_sub ⟨k, hk⟩ _ h).1
theorem plain (ns : List Int) (hn : ns.length ≤ 63) : m_law ns = .ok true := by
  have ⟨q, ps, ws, et, ft, gw, l0, l1⟩ := law_town_ok (cut ns none (some 31)) (by
    rw [cut_up' (by omega)]; simp; omega)
  have lc : (cut ns none (some 31)).length ≤ 31 := by rw [cut_up' (by omega)]; simp; omega
  have ⟨q1, q2, hl, hp⟩ := ft
  have el : ps.length = ws.length := by have := gw.1; omega
  have hw : ∀ w ∈ ws, 0 ≤ w ∧ w ≤ big := gw.2
  have hr := inner_due hp q2 hw
  have ll := law_lines_ok (q := q) (by omega) q2 el hr hl
  have s0 := start61 q1 q2 hr
  have zl : (ps.zip ws).length ≤ 31 := by rw [List.length_zip]; omega
  generalize hrs : (ps.zip ws).map (fun r => lnB (r.1, some r.2)) = rows0 at *
  have rl : rows0.length ≤ 31 := by rw [← hrs, List.length_map]; exact zl
  -- the town, read
  have rd0 : m_read_town (SX.S (TL.joinL [10] (lnQ q :: rows0))) = .ok ((q, ps), ws) := by
    have b0 := read_all s0.h1.1 (fun l m => (s0.h2 l m).1) (by have := s0.h1.2; omega) (fun l m => by have := (s0.h2 l m).2; omega) (by omega)
    rw [b0]
    unfold rdR
    rw [hdO_lnQ (by omega) (by omega), ← hrs, allO_map (rs := ps.zip ws) (g := fun r => (r.1.1, r.1.2, r.2)) fun r m => (row_ok q2 (hr r m)).1]
    have e1 : ((ps.zip ws).map (fun r => (r.1.1, r.1.2, r.2))).map (fun v : Int × Int × Int => (v.1, v.2.1)) = ps := by
      rw [List.map_map]; exact zipF el
    have e2 : ((ps.zip ws).map (fun r => (r.1.1, r.1.2, r.2))).map (fun v : Int × Int × Int => v.2.2) = ws := by
      rw [List.map_map]
      exact (zipS (f := fun x : Int => x) el).trans (List.map_id' ws)
    simp only [e1, e2]
    rw [if_pos, if_pos ⟨q1, q2, hl, hp⟩]
    rw [List.length_map, List.length_zip, show min ps.length ws.length = ps.length from by omega]
    exact gw
  have bad : ∀ hd ls t w b, St61 q rows0 hd ls t w b → ls.length ≤ 50 → m_read_town (SX.S (TL.joinL [10] (hd :: ls))) = rdR hd ls := fun hd ls t w b S h =>
    read_all S.h1.1 (fun l m => (S.h2 l m).1) (by have := S.h1.2; omega) (fun l m => by have := (S.h2 l m).2; omega) (by omega)
  apply Out.eq
  unfold m_law b_law
  try simp only [b_ok, ok_b, ok_f, opt_some, Out_b, Out_ok, Out_er, OutF_f, OutF_nx, OutF_rt, OutF_bk, OutF_ct, OutF_er, Out_ite, OutF_ite, OutF_v, Out_fn, OutF_try, Out_and, Out_or, andM_ok2, orM_ok2, isX_none, isX_some]
  rw [et]
  try simp only [b_ok, ok_b, ok_f, opt_some, Out_b, Out_ok, Out_er, OutF_f, OutF_nx, OutF_rt, OutF_bk, OutF_ct, OutF_er, Out_ite, OutF_ite, OutF_v, Out_fn, OutF_try, Out_and, Out_or, andM_ok2, orM_ok2, isX_none, isX_some]
  rw [ll]
  try simp only [b_ok, ok_b, ok_f, opt_some, Out_b, Out_ok, Out_er, OutF_f, OutF_nx, OutF_rt, OutF_bk, OutF_ct, OutF_er, Out_ite, OutF_ite, OutF_v, Out_fn, OutF_try, Out_and, Out_or, andM_ok2, orM_ok2, isX_none, isX_some]
  refine OutF_bI (fun (n : Int) => 0 ≤ n) ?_ fun n hn0 => ?_
  · refine OutF_for (fun _ (n : Int) => 0 ≤ n) (by decide) (fun pre c post s e hs => ?_) (fun s hs => hs)
    simp only [b_ok, ok_b, ok_f, opt_some, Out_b, Out_ok, Out_er, OutF_b, OutF_f, OutF_nx, OutF_rt, OutF_bk, OutF_ct, OutF_er, Out_ite, OutF_ite, OutF_v, Out_fn, OutF_try, Out_and, Out_or, andM_ok2, orM_ok2, isX_none, isX_some]
    rw [modO_pos (by decide)]
    simp only [b_ok, ok_b, ok_f, opt_some, Out_b, Out_ok, Out_er, OutF_b, OutF_f, OutF_nx, OutF_rt, OutF_bk, OutF_ct, OutF_er, Out_ite, OutF_ite, OutF_v, Out_fn, OutF_try, Out_and, Out_or, andM_ok2, orM_ok2, isX_none, isX_some]
    exact (emod_rng _ (by decide)).1
  try simp only [b_ok, ok_b, ok_f, opt_some, Out_b, Out_ok, Out_er, OutF_f, OutF_nx, OutF_rt, OutF_bk, OutF_ct, OutF_er, Out_ite, OutF_ite, OutF_v, Out_fn, OutF_try, Out_and, Out_or, andM_ok2, orM_ok2, isX_none, isX_some]
  have nr := emod_rng n (show (0 : Int) < 4 by omega)
  rw [rngO_ok nr.1 (by omega)]
  try simp only [b_ok, ok_b, ok_f, opt_some, Out_b, Out_ok, Out_er, OutF_f, OutF_nx, OutF_rt, OutF_bk, OutF_ct, OutF_er, Out_ite, OutF_ite, OutF_v, Out_fn, OutF_try, Out_and, Out_or, andM_ok2, orM_ok2, isX_none, isX_some]
  refine OutF_bI (fun (s : List Str × Str) => ∃ k hd ls t w b d, s = ((hd :: ls).map SX.S, SX.S d) ∧ k < 4 ∧ (d, t, w, b) ∈ dues k ∧ St61 q rows0 hd ls t w b ∧ ls.length ≤ 40) ?_ fun s hs => ?_
  · refine OutF_for (fun pre (s : List Str × Str) => ∃ hd ls t w b d, s = ((hd :: ls).map SX.S, SX.S d) ∧ (d, t, w, b) ∈ dues pre.length ∧ St61 q rows0 hd ls t w b ∧ ls.length ≤ 31 + pre.length) ⟨lnQ q, rows0, false, false, false, [], ?_, by simp [dues], s0, by simpa using rl⟩ (fun pre k post s e hs => ?_) (fun s hs => ?_)
    · rw [empty_eq]
    · have ⟨ek, hk⟩ := rng_pre (by omega) e
      subst ek
      obtain ⟨hd, ls, t, w, b, d, rfl, md, S, hls⟩ := hs
      have pk : pre.length < 3 := by omega
      have dl := (dues_sub ⟨pre.length, by omega⟩ _ md).2
      simp only at dl
      simp only [b_ok, ok_b, ok_f, opt_some, Out_b, Out_ok, Out_er, OutF_b, OutF_f, OutF_nx, OutF_rt, OutF_bk, OutF_ct, OutF_er, Out_ite, OutF_ite, OutF_v, Out_fn, OutF_try, Out_and, Out_or, andM_ok2, orM_ok2, isX_none, isX_some]
      rw [sp_eq, sadO_S (by simp; omega)]
      simp only [b_ok, ok_b, ok_f, opt_some, Out_b, Out_ok, Out_er, OutF_b, OutF_f, OutF_nx, OutF_rt, OutF_bk, OutF_ct, OutF_er, Out_ite, OutF_ite, OutF_v, Out_fn, OutF_try, Out_and, Out_or, andM_ok2, orM_ok2, isX_none, isX_some]
      rw [atI_ok (by omega) (by simp; omega)]
      simp only [b_ok, ok_b, ok_f, opt_some, Out_b, Out_ok, Out_er, OutF_b, OutF_f, OutF_nx, OutF_rt, OutF_bk, OutF_ct, OutF_er, Out_ite, OutF_ite, OutF_v, Out_fn, OutF_try, Out_and, Out_or, andM_ok2, orM_ok2, isX_none, isX_some]
      have mm := at0_mem (xs := [(4 : Int), (10 : Int) ^ (6 : Int).toNat, (10 : Int) ^ (12 : Int).toNat]) (i := (pre.length : Int)) (by omega) (by simp; omega)
      generalize at0 [(4 : Int), (10 : Int) ^ (6 : Int).toNat, (10 : Int) ^ (12 : Int).toNat] (pre.length : Int) = dv at *
      have dr : 0 < dv ∧ dv < 2 ^ 62 := by
        simp only [List.mem_cons, List.not_mem_nil, or_false] at mm
        rcases mm with rfl | rfl | rfl <;> decide
      rw [divO_pos dr.1 dr.2]
      simp only [b_ok, ok_b, ok_f, opt_some, Out_b, Out_ok, Out_er, OutF_b, OutF_f, OutF_nx, OutF_rt, OutF_bk, OutF_ct, OutF_er, Out_ite, OutF_ite, OutF_v, Out_fn, OutF_try, Out_and, Out_or, andM_ok2, orM_ok2, isX_none, isX_some]
      have ⟨r, er, wd, hd', ls', f1, f2, f3, re, mw, S', hl'⟩ := changed_ok q1 q2 S (by omega) (n / dv)
      rw [er, re]
      have wl := W5_len _ mw
      simp only at wl
      simp only [b_ok, ok_b, ok_f, opt_some, Out_b, Out_ok, Out_er, OutF_b, OutF_f, OutF_nx, OutF_rt, OutF_bk, OutF_ct, OutF_er, Out_ite, OutF_ite, OutF_v, Out_fn, OutF_try, Out_and, Out_or, andM_ok2, orM_ok2, isX_none, isX_some]
      rw [sadO_S (by simp; omega)]
      simp only [b_ok, ok_b, ok_f, opt_some, Out_b, Out_ok, Out_er, OutF_b, OutF_f, OutF_nx, OutF_rt, OutF_bk, OutF_ct, OutF_er, Out_ite, OutF_ite, OutF_v, Out_fn, OutF_try, Out_and, Out_or, andM_ok2, orM_ok2, isX_none, isX_some]
      refine ⟨hd', ls', _, _, _, d ++ [32] ++ wd, rfl, ?_, S', ?_⟩
      · have := due_mem md mw
        rw [List.length_append, List.length_singleton]
        simpa using this
      · rw [List.length_append, List.length_singleton]; omega
    · obtain ⟨hd, ls, t, w, b, d, e, md, S, hls⟩ := hs
      rw [rng_len] at md hls
      exact ⟨_, hd, ls, t, w, b, d, e, by omega, md, S, by omega⟩
  obtain ⟨k, hd, ls, t, w, b, d, rfl, hk, md, S, hls⟩ := hs
  have ⟨u1, u2, u3⟩ := first_ok hk md
  have rd := bad hd ls t w b S (by omega)
  have hx : ∀ l ∈ hd :: ls, txtOk l := fun l m => by
    rcases List.mem_cons.mp m with rfl | m
    · exact S.h1
    · exact S.h2 l m
  have jo := joiO_lines (ls := hd :: ls) (by have := sum_le hx; simp at this ⊢; omega)
  try simp only [b_ok, ok_b, ok_f, opt_some, Out_b, Out_ok, Out_er, OutF_f, OutF_nx, OutF_rt, OutF_bk, OutF_ct, OutF_er, Out_ite, OutF_ite, OutF_v, Out_fn, OutF_try, Out_and, Out_or, andM_ok2, orM_ok2, isX_none, isX_some]
  rw [nl_eq, jo]
  try simp only [b_ok, ok_b, ok_f, opt_some, Out_b, Out_ok, Out_er, OutF_f, OutF_nx, OutF_rt, OutF_bk, OutF_ct, OutF_er, Out_ite, OutF_ite, OutF_v, Out_fn, OutF_try, Out_and, Out_or, andM_ok2, orM_ok2, isX_none, isX_some]
  -- what was caught
  have gd : t = false → w = false → b = false → rdR hd ls = .ok ((q, ps), ws) := fun a1 a2 a3 => by
    have ⟨e1, e2⟩ := S.un a1 a2 a3
    rw [← rd, e1, e2, rd0]
  have asked : ([] : List Nat) ∉ hd :: ls → m_law_asked_right ((hd :: ls).map SX.S, (due3 t w b : Str)) = .ok true := fun hn => asked_ok q1 q2 S (by omega) hn rd fun a1 a2 a3 => ⟨_, gd a1 a2 a3⟩
  have key : ∃ cf, m_law_caught (0, SX.S (TL.joinL [10] (hd :: ls))) = .ok cf ∧ ((due3 t w b ∈ names3 ∧ (due3 t w b : Str) ≠ ("" : Str) ∧ cf.1 = some (due3 t w b)) ∨ ((due3 t w b : Str) = ("" : Str) ∧ cf = (none, some (.inr ((q, ps), ws))))) := by
    by_cases h : t = true ∨ w = true ∨ b = true
    · have ⟨d1, d2⟩ := due3_in h
      refine ⟨_, caught0_er d1 (rd.trans (rd_due q1 q2 S h)), .inl ⟨d1, ?_, rfl⟩⟩
      revert d1
      generalize due3 t w b = c
      intro d1
      simp only [names3, List.mem_cons, List.not_mem_nil, or_false] at d1
      rcases d1 with rfl | rfl | rfl <;> decide +kernel
    · have ht : t = false := by cases t <;> simp_all
      have hw : w = false := by cases w <;> simp_all
      have hb : b = false := by cases b <;> simp_all
      refine ⟨_, caught0_ok (rd.trans (gd ht hw hb)), .inr ⟨?_, rfl⟩⟩
      rw [ht, hw, hb]; rfl
  have ⟨cf, ec, kc⟩ := key
  rw [ec]
  try simp only [b_ok, ok_b, ok_f, opt_some, Out_b, Out_ok, Out_er, OutF_f, OutF_nx, OutF_rt, OutF_bk, OutF_ct, OutF_er, Out_ite, OutF_ite, OutF_v, Out_fn, OutF_try, Out_and, Out_or, andM_ok2, orM_ok2, isX_none, isX_some]
  refine OutF_bI (fun (s : Str) => s = (due3 t w b : Str)) ?_ fun s hs => ?_
  · refine OutF_cons ?_
    simp only [b_ok, ok_b, ok_f, opt_some, Out_b, Out_ok, Out_er, OutF_b, OutF_f, OutF_nx, OutF_rt, OutF_bk, OutF_ct, OutF_er, Out_ite, OutF_ite, OutF_v, Out_fn, OutF_try, Out_and, Out_or, andM_ok2, orM_ok2, isX_none, isX_some, u3]
    refine iteI (fun c3 => ?_) fun c3 => ?_ <;> refine OutF_cons ?_ <;> simp only [b_ok, ok_b, ok_f, opt_some, Out_b, Out_ok, Out_er, OutF_b, OutF_f, OutF_nx, OutF_rt, OutF_bk, OutF_ct, OutF_er, Out_ite, OutF_ite, OutF_v, Out_fn, OutF_try, Out_and, Out_or, andM_ok2, orM_ok2, isX_none, isX_some, u2] <;> refine iteI (fun c2 => ?_) fun c2 => ?_ <;> refine OutF_cons ?_ <;> simp only [b_ok, ok_b, ok_f, opt_some, Out_b, Out_ok, Out_er, OutF_b, OutF_f, OutF_nx, OutF_rt, OutF_bk, OutF_ct, OutF_er, Out_ite, OutF_ite, OutF_v, Out_fn, OutF_try, Out_and, Out_or, andM_ok2, orM_ok2, isX_none, isX_some, u1] <;> refine iteI (fun c1 => ?_) fun c1 => ?_ <;> refine OutF_nil ?_ <;> (cases t <;> cases w <;> cases b <;> first | exact absurd c3 (by decide) | exact absurd rfl c3 | exact absurd c2 (by decide) | exact absurd rfl c2 | exact absurd c1 (by decide) | exact absurd rfl c1 | rfl)
  subst hs
  try simp only [b_ok, ok_b, ok_f, opt_some, Out_b, Out_ok, Out_er, OutF_f, OutF_nx, OutF_rt, OutF_bk, OutF_ct, OutF_er, Out_ite, OutF_ite, OutF_v, Out_fn, OutF_try, Out_and, Out_or, andM_ok2, orM_ok2, isX_none, isX_some]
  have im : SX.S [] ∈ (hd :: ls).map SX.S ↔ [] ∈ hd :: ls := in_map
  have step : ∀ T : Prop, T → (if (!decide (("" : Str) ∈ (hd :: ls).map SX.S)) = true then Out (m_law_asked_right ((hd :: ls).map SX.S, (due3 t w b : Str))) (fun a => if (!a) = true then false = true else T) (fun _ => False) else if false = true then false = true else T) := fun T hT => by
    rw [empty_eq]
    by_cases hn : ([] : List Nat) ∈ hd :: ls
    · rw [decide_eq_true (im.mpr hn), if_neg (by simp), if_neg (by simp)]; exact hT
    · rw [decide_eq_false (fun z => hn (im.mp z)), if_pos (by simp), asked hn]
      show (if (!true) = true then false = true else T)
      rw [if_neg (by simp)]; exact hT
  refine step _ ?_
  rcases kc with ⟨d1, d2, e1⟩ | ⟨d1, e1⟩
  · rw [e1, refused_ok _ d1]
    try simp only [b_ok, ok_b, ok_f, opt_some, Out_b, Out_ok, Out_er, OutF_f, OutF_nx, OutF_rt, OutF_bk, OutF_ct, OutF_er, Out_ite, OutF_ite, OutF_v, Out_fn, OutF_try, Out_and, Out_or, andM_ok2, orM_ok2, isX_none, isX_some]
    refine iteI (fun _ => trivial) fun z => ?_
    exact absurd (by simpa using d2) z
  · rw [d1, e1]
    try simp only [b_ok, ok_b, ok_f, opt_some, Out_b, Out_ok, Out_er, OutF_f, OutF_nx, OutF_rt, OutF_bk, OutF_ct, OutF_er, Out_ite, OutF_ite, OutF_v, Out_fn, OutF_try, Out_and, Out_or, andM_ok2, orM_ok2, isX_none, isX_some]
    refine iteI (fun z => by simp at z) fun _ => ?_
    simp [rightO]
    exact ⟨rfl, rfl⟩
theorem law_holds : PySem.Challenge.rw_bridgecrews_k61_texts_refused.Holds := holds3 (law_of plain)
end Br
theorem PySem.Challenge.cw_bridgecrews_k61_texts_refused_holds : PySem.Challenge.rw_bridgecrews_k61_texts_refused.Holds := by
  exact Br.law_holds
