import PyProof.Rows.All
import Wide.All
import OpenK.AllK
import Wide.FinOn
import HandS.ForMost
import HandS.Codes
import HandS.IsInst
import HandS.TupAny
import HandS.Conv
import HandS.Flow
import HandS.FStrTup
import HandS.ListEq
import HandS.Walk
import HandS.More
import HandS.WordsDict
import PyProof.StrOps2
import KE.SortData
import KE.DataEq
import HandS.SortOrd
import HandS.SortKw
import HandS.Iter
import PyProof.ReprRoads
import PyProof.ReprText
import PyProof.StrLawsRepr
import PyProof.FitsInt
import HandS.Ends
import PySem.Challenge.RW_formatfit_k19_reading_again
set_option Elab.async false
set_option linter.all false
set_option maxRecDepth 100000
set_option maxHeartbeats 4000000
/-! The plain law: data, definitions, what is written, what is read. -/
namespace Ff
open PySem L2

inductive D where
  | int (i : Int) | str (s : Str) | lst (xs : List D) | rcd (fs : List (Str × D)) | cho (t : Str) (x : D)

mutual
def D.size : D → Nat
  | .int _ => 1
  | .str s => 1 + s.length
  | .lst xs => 1 + sizeL xs
  | .rcd fs => 1 + sizeF fs
  | .cho _ x => 1 + D.size x
def sizeL : List D → Nat
  | [] => 0
  | d :: r => D.size d + sizeL r
def sizeF : List (Str × D) → Nat
  | [] => 0
  | (_, d) :: r => D.size d + sizeF r
end
/-- small signs -/
def chk (s : Str) : Prop := ∀ c ∈ s.cps.toList, c < 128
/-- a name of one sign -/
def names8 : List Str := ["p", "q", "r", "s", "u", "x", "y", "z"]
def nm1 (s : Str) : Prop := s.length ≤ 1 ∧ chk s ∧ s ∈ names8
theorem nm1_all : ∀ s ∈ names8, s.length ≤ 1 ∧ ∀ c ∈ s.cps.toList, c < 128 := by decide +kernel
theorem nm1_of {s : Str} (h : s ∈ names8) : nm1 s := ⟨(nm1_all s h).1, (nm1_all s h).2, h⟩
theorem nd_len : ∀ (l m : List Str), l.Nodup → (∀ x ∈ l, x ∈ m) → l.length ≤ m.length
  | [], m, _, _ => Nat.zero_le _
  | a :: l, m, nd, h => by
    have nd' := List.nodup_cons.mp nd
    have ha := h a List.mem_cons_self
    have ih := nd_len l (m.erase a) nd'.2 fun x hx => (List.mem_erase_of_ne (fun e => nd'.1 (by rw [← e]; exact hx))).mpr (h x (List.mem_cons_of_mem _ hx))
    have := List.length_erase_of_mem ha
    have : 0 < m.length := List.length_pos_of_mem ha
    simp only [List.length_cons]
    omega
theorem nm1_len {l : List Str} (nd : l.Nodup) (h : ∀ x ∈ l, nm1 x) : l.length ≤ 8 := nd_len l names8 nd fun x hx => (h x hx).2.2
mutual
def D.gd (b : Nat) : D → Prop
  | .int i => i.natAbs ≤ b
  | .str s => chk s
  | .lst xs => gdL b xs
  | .rcd fs => gdF b fs
  | .cho t x => nm1 t ∧ D.gd b x
def gdL (b : Nat) : List D → Prop
  | [] => True
  | d :: r => D.gd b d ∧ gdL b r
def gdF (b : Nat) : List (Str × D) → Prop
  | [] => True
  | (n, d) :: r => nm1 n ∧ D.gd b d ∧ gdF b r
end
theorem gdL_iff {b : Nat} : ∀ {xs : List D}, gdL b xs ↔ ∀ d ∈ xs, d.gd b
  | [] => by simp [gdL]
  | d :: r => by simp [gdL, gdL_iff (xs := r)]
theorem gdF_iff {b : Nat} : ∀ {fs : List (Str × D)}, gdF b fs ↔ ∀ p ∈ fs, nm1 p.1 ∧ p.2.gd b
  | [] => by simp [gdF]
  | (n, d) :: r => by simp [gdF, gdF_iff (fs := r), and_assoc]
theorem sizeL_append : ∀ (xs ys : List D), sizeL (xs ++ ys) = sizeL xs + sizeL ys
  | [], ys => by simp [sizeL]
  | d :: r, ys => by simp [sizeL, sizeL_append r ys, Nat.add_assoc]
theorem sizeF_append : ∀ (xs ys : List (Str × D)), sizeF (xs ++ ys) = sizeF xs + sizeF ys
  | [], ys => by simp [sizeF]
  | (n, d) :: r, ys => by simp [sizeF, sizeF_append r ys, Nat.add_assoc]
theorem size_pos : ∀ d : D, 1 ≤ d.size
  | .int _ => by simp [D.size]
  | .str _ => by simp [D.size]
  | .lst _ => by simp [D.size]
  | .rcd _ => by simp [D.size]
  | .cho _ _ => by simp [D.size]
theorem sizeL_mem {xs : List D} {d : D} (h : d ∈ xs) : d.size ≤ sizeL xs := by
  induction xs with
  | nil => cases h
  | cons e r ih =>
    rcases List.mem_cons.mp h with rfl | h
    · simp [sizeL]
    · have := ih h; simp [sizeL]; omega
theorem sizeF_mem {fs : List (Str × D)} {p : Str × D} (h : p ∈ fs) : p.2.size ≤ sizeF fs := by
  induction fs with
  | nil => cases h
  | cons e r ih =>
    obtain ⟨n, d⟩ := e
    rcases List.mem_cons.mp h with rfl | h
    · simp [sizeF]
    · have := ih h; simp [sizeF]; omega
theorem len_sizeL : ∀ xs : List D, xs.length ≤ sizeL xs
  | [] => by simp
  | d :: r => by have := len_sizeL r; have := size_pos d; simp [sizeL]; omega
theorem len_sizeF : ∀ xs : List (Str × D), xs.length ≤ sizeF xs
  | [] => by simp
  | (n, d) :: r => by have := len_sizeF r; have := size_pos d; simp [sizeF]; omega
mutual
theorem gd_mono {b c : Nat} (h : b ≤ c) : ∀ d : D, d.gd b → d.gd c
  | .int i, g => by simp only [D.gd] at *; omega
  | .str s, g => by simpa only [D.gd] using g
  | .lst xs, g => by simp only [D.gd] at *; exact gdL_mono h xs g
  | .rcd fs, g => by simp only [D.gd] at *; exact gdF_mono h fs g
  | .cho t x, g => by simp only [D.gd] at *; exact ⟨g.1, gd_mono h x g.2⟩
theorem gdL_mono {b c : Nat} (h : b ≤ c) : ∀ xs : List D, gdL b xs → gdL c xs
  | [], _ => by simp [gdL]
  | d :: r, g => by simp only [gdL] at *; exact ⟨gd_mono h d g.1, gdL_mono h r g.2⟩
theorem gdF_mono {b c : Nat} (h : b ≤ c) : ∀ xs : List (Str × D), gdF b xs → gdF c xs
  | [], _ => by simp [gdF]
  | (n, d) :: r, g => by simp only [gdF] at *; exact ⟨g.1, gd_mono h d g.2.1, gdF_mono h r g.2.2⟩
end

/-! ### look-ups by name -/
def look {α : Type} (l : List (Str × α)) (k : Str) : Option α := (l.find? fun p => decide (p.1 = k)).map (·.2)
theorem look_nil {α : Type} (k : Str) : look ([] : List (Str × α)) k = none := rfl
theorem look_cons {α : Type} (p : Str × α) (l : List (Str × α)) (k : Str) : look (p :: l) k = if p.1 = k then some p.2 else look l k := by
  unfold look
  rw [List.find?_cons]
  by_cases h : p.1 = k
  · simp [h]
  · simp [h]
theorem look_mem {α : Type} {l : List (Str × α)} {k : Str} {a : α} (h : look l k = some a) : (k, a) ∈ l := by
  induction l with
  | nil => cases h
  | cons p r ih =>
    rw [look_cons] at h
    by_cases e : p.1 = k
    · rw [if_pos e] at h
      have e2 : p.2 = a := Option.some.inj h
      rw [← e, ← e2]; exact List.mem_cons_self
    · rw [if_neg e] at h
      exact List.mem_cons_of_mem _ (ih h)
theorem look_append {α : Type} (l m : List (Str × α)) (k : Str) : look (l ++ m) k = (look l k).or (look m k) := by
  induction l with
  | nil => simp [look_nil]
  | cons p r ih =>
    rw [List.cons_append, look_cons, look_cons, ih]
    by_cases e : p.1 = k
    · simp [e]
    · simp [e]
theorem look_none {α : Type} {l : List (Str × α)} {k : Str} : look l k = none ↔ k ∉ l.map (·.1) := by
  induction l with
  | nil => simp [look_nil]
  | cons p r ih =>
    rw [look_cons]
    by_cases e : p.1 = k
    · simp [e]
    · simp [e, ih, Ne.symm (show p.1 ≠ k from e)]
theorem look_some {α : Type} {l : List (Str × α)} {k : Str} : (∃ a, look l k = some a) ↔ k ∈ l.map (·.1) := by
  cases h : look l k with
  | none => simpa using look_none.mp h
  | some a => 
    have := List.mem_map_of_mem (f := (·.1)) (look_mem h)
    simpa using this

/-! ### definitions -/
inductive Pr where
  | req | opt | mark | dft (d : D)
structure Fd where
  nm : Str
  ty : Str
  pr : Pr
inductive Fb where
  | non | mark | val (d : D)
inductive Df where
  | any | int (lo hi : Int) | txt (n : Int) | lst (e : Str) (lo hi : Int) | rcd (fs : List Fd) | cho (cs : List (Str × Str)) (fb : Fb)
abbrev Dfs := List (Str × Df)

inductive Res (α : Type) where
  | ok (a : α) | bad (r : Str) (p : List V)
def Res.map {α β : Type} (f : α → β) : Res α → Res β
  | .ok a => .ok (f a)
  | .bad r p => .bad r p
def Res.under {α : Type} (s : V) : Res α → Res α
  | .ok a => .ok a
  | .bad r p => .bad r (s :: p)
theorem Res.map_ok {α β : Type} {f : α → β} {x : Res α} {b : β} (h : x.map f = .ok b) : ∃ a, x = .ok a ∧ f a = b := by
  cases x with
  | ok a => exact ⟨a, rfl, Res.ok.inj h⟩
  | bad r p => cases h
theorem Res.map_bad {α β : Type} {f : α → β} {x : Res α} {r : Str} {p : List V} (h : x.map f = .bad r p) : x = .bad r p := by
  cases x with
  | ok a => cases h
  | bad r' p' => injection h with h1 h2; rw [h1, h2]

/-! ### reading -/
def rdL (rec : D → Res D) : Nat → List D → Res (List D)
  | _, [] => .ok []
  | i, d :: ds => match rec d with
    | .ok d' => (rdL rec (i + 1) ds).map (d' :: ·)
    | .bad r p => .bad r (.int i :: p)
def rdF (rec : Str → D → Res D) (gs : List (Str × D)) : List Fd → Res (List (Str × D))
  | [] => .ok []
  | f :: fs => match look gs f.nm with
    | some d => match rec f.ty d with
      | .ok d' => (rdF rec gs fs).map ((f.nm, d') :: ·)
      | .bad r p => .bad r (.str f.nm :: p)
    | none => match f.pr with
      | .dft dv => (rdF rec gs fs).map ((f.nm, dv) :: ·)
      | .opt => rdF rec gs fs
      | _ => .bad "missing field" [.str f.nm]
def rdStep (F : Dfs) (rec : Str → D → Res D) (nm : Str) (d : D) : Res D :=
  match look F nm with
  | none => .bad "wrong kind" []
  | some .any => .ok d
  | some (.int lo hi) => match d with
    | .int i => if lo ≤ i ∧ i ≤ hi then .ok d else .bad "out of range" []
    | _ => .bad "wrong kind" []
  | some (.txt m) => match d with
    | .str s => if m < (s.length : Int) then .bad "too long" [] else .ok d
    | _ => .bad "wrong kind" []
  | some (.lst e lo hi) => match d with
    | .lst ds => if lo ≤ (ds.length : Int) ∧ (ds.length : Int) ≤ hi then (rdL (rec e) 0 ds).map .lst else .bad "wrong length" []
    | _ => .bad "wrong kind" []
  | some (.rcd fs) => match d with
    | .rcd gs => (rdF rec gs fs).map .rcd
    | _ => .bad "wrong kind" []
  | some (.cho cs fb) => match d with
    | .cho t x => match look cs t with
      | some ty => ((rec ty x).under (.str ("$" ++ t))).map (.cho t)
      | none => match fb with
        | .val d => .ok d
        | _ => .bad "unknown tag" []
    | _ => .bad "wrong kind" []
def rd (F : Dfs) : Nat → Str → D → Res D
  | 0 => rdStep F fun _ _ => .bad "wrong kind" []
  | n + 1 => rdStep F (rd F n)

/-! ### what is written -/
def wrF (rec : Str → D → Prop) : List Fd → List (Str × D) → Prop
  | [], gs => gs = []
  | f :: fs, gs => (∃ d gs', gs = (f.nm, d) :: gs' ∧ rec f.ty d ∧ wrF rec fs gs') ∨ (f.pr = .opt ∧ wrF rec fs gs)
def wrD (rec : Str → D → Prop) : Df → D → Prop
  | .any, _ => True
  | .int lo hi, .int i => lo ≤ i ∧ i ≤ hi
  | .txt m, .str s => (s.length : Int) ≤ m
  | .lst e lo hi, .lst ds => lo ≤ (ds.length : Int) ∧ (ds.length : Int) ≤ hi ∧ ∀ d ∈ ds, rec e d
  | .rcd fs, .rcd gs => wrF rec fs gs
  | .cho cs _, .cho t x => ∃ ty, look cs t = some ty ∧ rec ty x
  | _, _ => False
def wrStep (F : Dfs) (rec : Str → D → Prop) (nm : Str) (d : D) : Prop := ∃ df, look F nm = some df ∧ wrD rec df d
def Wr (F : Dfs) : Nat → Str → D → Prop
  | 0 => wrStep F fun _ _ => False
  | n + 1 => wrStep F (Wr F n)
theorem wrF_mono {rec rec' : Str → D → Prop} (h : ∀ t d, rec t d → rec' t d) : ∀ {fs : List Fd} {gs : List (Str × D)}, wrF rec fs gs → wrF rec' fs gs
  | [], _, w => w
  | f :: fs, gs, w => by
    rcases w with ⟨d, gs', e, h1, h2⟩ | ⟨e, h2⟩
    · exact .inl ⟨d, gs', e, h _ _ h1, wrF_mono h h2⟩
    · exact .inr ⟨e, wrF_mono h h2⟩
theorem wrD_mono {rec rec' : Str → D → Prop} (h : ∀ t d, rec t d → rec' t d) {df : Df} {d : D} (w : wrD rec df d) : wrD rec' df d := by
  cases df <;> cases d <;> simp only [wrD] at * <;> try exact w
  · exact ⟨w.1, w.2.1, fun d hd => h _ _ (w.2.2 d hd)⟩
  · exact wrF_mono h w
  · obtain ⟨ty, e, w⟩ := w
    exact ⟨ty, e, h _ _ w⟩
theorem wrStep_mono {F : Dfs} {rec rec' : Str → D → Prop} (h : ∀ t d, rec t d → rec' t d) {nm : Str} {d : D} (w : wrStep F rec nm d) : wrStep F rec' nm d := by
  obtain ⟨df, e, w⟩ := w
  exact ⟨df, e, wrD_mono h w⟩
theorem Wr.succ {F : Dfs} : ∀ {n : Nat} {nm : Str} {d : D}, Wr F n nm d → Wr F (n + 1) nm d
  | 0, _, _, w => wrStep_mono (fun _ _ z => z.elim) w
  | n + 1, _, _, w => wrStep_mono (fun _ _ z => Wr.succ z) w
theorem Wr.mono {F : Dfs} {n m : Nat} (h : n ≤ m) {nm : Str} {d : D} (w : Wr F n nm d) : Wr F m nm d := by
  induction h with
  | refl => exact w
  | step _ ih => exact ih.succ

/-! ### a value that is written is read as it is -/
theorem wrF_names {rec : Str → D → Prop} : ∀ {fs : List Fd} {gs : List (Str × D)}, wrF rec fs gs → ∀ p ∈ gs, p.1 ∈ fs.map (·.nm)
  | [], gs, w, p, hp => by
    have e : gs = [] := w
    rw [e] at hp; cases hp
  | f :: fs, gs, w, p, hp => by
    rcases w with ⟨d, gs', e, h1, h2⟩ | ⟨e, h2⟩
    · rw [e] at hp
      rcases List.mem_cons.mp hp with rfl | hp
      · simp
      · exact List.mem_cons_of_mem _ (wrF_names h2 p hp)
    · exact List.mem_cons_of_mem _ (wrF_names h2 p hp)
theorem rdF_wr {rec1 : Str → D → Prop} {rec2 : Str → D → Res D} (h : ∀ t d, rec1 t d → rec2 t d = .ok d) : ∀ (fs : List Fd) (gs pre : List (Str × D)), (fs.map (·.nm)).Nodup → (∀ f ∈ fs, look pre f.nm = none) → wrF rec1 fs gs → rdF rec2 (pre ++ gs) fs = .ok gs
  | [], gs, pre, _, _, w => by
    have e : gs = [] := w
    rw [e]; rfl
  | f :: fs, gs, pre, nd, hp, w => by
    have nd' := List.nodup_cons.mp nd
    rcases w with ⟨d, gs', e, h1, h2⟩ | ⟨e, h2⟩
    · subst e
      have e1 : look (pre ++ (f.nm, d) :: gs') f.nm = some d := by
        rw [look_append, hp f List.mem_cons_self, look_cons, if_pos rfl]; rfl
      unfold rdF
      rw [e1]
      dsimp only
      rw [h _ _ h1]
      dsimp only
      have ih := rdF_wr h fs gs' (pre ++ [(f.nm, d)]) nd'.2 (fun g hg => by
        rw [look_append, hp g (List.mem_cons_of_mem _ hg), look_cons, if_neg, look_nil]; rfl
        intro q
        exact nd'.1 (by show f.nm ∈ _; rw [show f.nm = g.nm from q]; exact List.mem_map_of_mem hg)) h2
      rw [List.append_assoc] at ih
      rw [show pre ++ (f.nm, d) :: gs' = pre ++ ([(f.nm, d)] ++ gs') from rfl, ih]
      rfl
    · have e1 : look (pre ++ gs) f.nm = none := by
        rw [look_append, hp f List.mem_cons_self]
        show look gs f.nm = none
        rw [look_none]
        intro q
        obtain ⟨p, hp1, hp2⟩ := List.mem_map.mp q
        exact nd'.1 (by show f.nm ∈ _; rw [← hp2]; exact wrF_names h2 p hp1)
      unfold rdF
      rw [e1]
      dsimp only
      rw [e]
      dsimp only
      exact rdF_wr h fs gs pre nd'.2 (fun g hg => hp g (List.mem_cons_of_mem _ hg)) h2
theorem rdL_wr {rec1 : D → Prop} {rec2 : D → Res D} (h : ∀ d, rec1 d → rec2 d = .ok d) : ∀ (ds : List D) (i : Nat), (∀ d ∈ ds, rec1 d) → rdL rec2 i ds = .ok ds
  | [], _, _ => rfl
  | d :: ds, i, w => by
    unfold rdL
    rw [h d (w d List.mem_cons_self)]
    dsimp only
    rw [rdL_wr h ds (i + 1) fun e he => w e (List.mem_cons_of_mem _ he)]
    rfl
/-- the fields of each record definition have their own names -/
def NdF (F : Dfs) : Prop := ∀ nm fs, look F nm = some (.rcd fs) → (fs.map (·.nm)).Nodup
theorem rdStep_wr {F : Dfs} (hn : NdF F) {rec1 : Str → D → Prop} {rec2 : Str → D → Res D} (h : ∀ t d, rec1 t d → rec2 t d = .ok d) {nm : Str} {d : D} (w : wrStep F rec1 nm d) : rdStep F rec2 nm d = .ok d := by
  obtain ⟨df, e, w⟩ := w
  unfold rdStep
  rw [e]
  cases df <;> cases d <;> simp only [wrD] at w <;> try rfl
  · dsimp only; rw [if_pos w]
  · dsimp only; rw [if_neg (by omega)]
  · dsimp only
    rw [if_pos ⟨w.1, w.2.1⟩, rdL_wr (h _) _ _ w.2.2]; rfl
  · dsimp only
    rename_i fs gs
    have := rdF_wr h fs gs [] (hn _ _ e) (fun _ _ => rfl) w
    rw [List.nil_append] at this
    rw [this]; rfl
  · obtain ⟨ty, e2, w⟩ := w
    dsimp only
    rw [e2]
    dsimp only
    rw [h _ _ w]; rfl
theorem rd_wr {F : Dfs} (hn : NdF F) : ∀ {n : Nat} {nm : Str} {d : D}, Wr F n nm d → rd F n nm d = .ok d
  | 0, _, _, w => rdStep_wr hn (fun _ _ z => z.elim) w
  | n + 1, _, _, w => rdStep_wr hn (fun _ _ z => rd_wr hn z) w

/-! ### what a value is read as is written -/
/-- the defaults and fallbacks are written where they stand -/
structure Fil (F : Dfs) : Prop where
  dft : ∀ nm fs f d, look F nm = some (.rcd fs) → f ∈ fs → f.pr = .dft d → Wr F 3 f.ty d
  fb : ∀ nm cs d, look F nm = some (.cho cs (.val d)) → Wr F 3 nm d
theorem rdL_ok {rec1 : D → Prop} {rec2 : D → Res D} (h : ∀ d d', rec2 d = .ok d' → rec1 d') : ∀ (ds ds' : List D) (i : Nat), rdL rec2 i ds = .ok ds' → ds'.length = ds.length ∧ ∀ d ∈ ds', rec1 d
  | [], ds', i, e => by
    unfold rdL at e
    cases e
    exact ⟨rfl, fun d hd => absurd hd (by simp)⟩
  | d :: ds, ds', i, e => by
    unfold rdL at e
    cases q : rec2 d with
    | ok d' =>
      rw [q] at e
      obtain ⟨r, e1, e2⟩ := Res.map_ok e
      obtain ⟨h1, h2⟩ := rdL_ok h ds r (i + 1) e1
      subst e2
      refine ⟨by simp [h1], fun x hx => ?_⟩
      rcases List.mem_cons.mp hx with rfl | hx
      · exact h _ _ q
      · exact h2 x hx
    | bad r p => rw [q] at e; cases e
theorem rdF_ok {rec1 : Str → D → Prop} {rec2 : Str → D → Res D} (h : ∀ t d d', rec2 t d = .ok d' → rec1 t d') (gs : List (Str × D)) : ∀ (fs : List Fd) (gs' : List (Str × D)), (∀ f ∈ fs, ∀ d, f.pr = .dft d → rec1 f.ty d) → rdF rec2 gs fs = .ok gs' → wrF rec1 fs gs'
  | [], gs', _, e => by
    unfold rdF at e
    cases e
    rfl
  | f :: fs, gs', hd, e => by
    unfold rdF at e
    have hd' : ∀ f ∈ fs, ∀ d, f.pr = .dft d → rec1 f.ty d := fun g hg => hd g (List.mem_cons_of_mem _ hg)
    cases q : look gs f.nm with
    | some d =>
      rw [q] at e
      dsimp only at e
      cases q2 : rec2 f.ty d with
      | ok d' =>
        rw [q2] at e
        obtain ⟨r, e1, e2⟩ := Res.map_ok e
        exact .inl ⟨d', r, e2.symm, h _ _ _ q2, rdF_ok h gs fs r hd' e1⟩
      | bad r p => rw [q2] at e; cases e
    | none =>
      rw [q] at e
      dsimp only at e
      cases q2 : f.pr with
      | req => rw [q2] at e; cases e
      | mark => rw [q2] at e; cases e
      | opt =>
        rw [q2] at e
        exact .inr ⟨q2, rdF_ok h gs fs gs' hd' e⟩
      | dft dv =>
        rw [q2] at e
        obtain ⟨r, e1, e2⟩ := Res.map_ok e
        exact .inl ⟨dv, r, e2.symm, hd f List.mem_cons_self dv q2, rdF_ok h gs fs r hd' e1⟩
theorem rdStep_ok {F : Dfs} (hf : Fil F) {m : Nat} (hm : 3 ≤ m) {rec2 : Str → D → Res D} (h : ∀ t d d', rec2 t d = .ok d' → Wr F m t d') {nm : Str} {d d' : D} (e : rdStep F rec2 nm d = .ok d') : Wr F (m + 1) nm d' := by
  unfold rdStep at e
  cases q : look F nm with
  | none => rw [q] at e; cases e
  | some df =>
    rw [q] at e
    cases df with
    | any => exact ⟨_, q, trivial⟩
    | int lo hi =>
      cases d with
      | int i =>
        dsimp only at e
        split at e
        · rename_i hc
          cases e
          exact ⟨_, q, hc⟩
        · cases e
      | _ => cases e
    | txt n =>
      cases d with
      | str s =>
        dsimp only at e
        split at e
        · cases e
        · rename_i hc
          cases e
          exact ⟨_, q, by simp only [wrD]; omega⟩
      | _ => cases e
    | lst ty lo hi =>
      cases d with
      | lst ds =>
        dsimp only at e
        split at e
        · rename_i hc
          obtain ⟨r, e1, e2⟩ := Res.map_ok e
          subst e2
          obtain ⟨h1, h2⟩ := rdL_ok (h ty) _ _ _ e1
          exact ⟨_, q, by simp only [wrD]; exact ⟨by rw [h1]; exact hc.1, by rw [h1]; exact hc.2, h2⟩⟩
        · cases e
      | _ => cases e
    | rcd fs =>
      cases d with
      | rcd gs =>
        obtain ⟨r, e1, e2⟩ := Res.map_ok e
        subst e2
        exact ⟨_, q, rdF_ok h gs fs r (fun f hfm dv hdv => (hf.dft nm fs f dv q hfm hdv).mono hm) e1⟩
      | _ => cases e
    | cho cs fb =>
      cases d with
      | cho t x =>
        dsimp only at e
        cases q2 : look cs t with
        | some ty =>
          rw [q2] at e
          obtain ⟨r, e1, e2⟩ := Res.map_ok e
          subst e2
          cases q3 : rec2 ty x with
          | ok y =>
            rw [q3] at e1
            cases e1
            exact ⟨_, q, ty, q2, h _ _ _ q3⟩
          | bad r p => rw [q3] at e1; cases e1
        | none =>
          rw [q2] at e
          dsimp only at e
          cases fb with
          | non => cases e
          | mark => cases e
          | val dv =>
            cases e
            exact (hf.fb nm cs d' q).mono (by omega)
      | _ => cases e
theorem rd_ok {F : Dfs} (hf : Fil F) : ∀ {n : Nat} {nm : Str} {d d' : D}, rd F n nm d = .ok d' → Wr F (n + 4) nm d'
  | 0, nm, d, d', e => rdStep_ok hf (m := 3) (Nat.le_refl 3) (fun _ _ _ z => by cases z) e
  | n + 1, nm, d, d', e => by
    have := rdStep_ok hf (m := n + 4) (by omega) (fun _ _ _ z => rd_ok hf z) e
    exact this
/-- THE LAW: what a value is read as is read as it is -/
theorem rd_again {F : Dfs} (hn : NdF F) (hf : Fil F) {n : Nat} {nm : Str} {d d' : D} (e : rd F n nm d = .ok d') : rd F (n + 4) nm d' = .ok d' := rd_wr hn (rd_ok hf e)

/-! ### sizes -/
structure Sz (F : Dfs) : Prop where
  len : ∀ nm fs, look F nm = some (.rcd fs) → fs.length ≤ 3 ∧ ∀ f ∈ fs, nm1 f.nm
  dft : ∀ nm fs f d, look F nm = some (.rcd fs) → f ∈ fs → f.pr = .dft d → d.gd 1000 ∧ d.size ≤ 3
  cs : ∀ nm cs fb, look F nm = some (.cho cs fb) → ∀ c ∈ cs, nm1 c.1
  fb : ∀ nm cs d, look F nm = some (.cho cs (.val d)) → d.gd 1000 ∧ d.size ≤ 3
theorem rdL_sz {rec2 : D → Res D} {b : Nat} (h : ∀ d d', d.gd b → rec2 d = .ok d' → d'.gd b ∧ d'.size ≤ 20 * d.size) : ∀ (ds ds' : List D) (i : Nat), gdL b ds → rdL rec2 i ds = .ok ds' → gdL b ds' ∧ sizeL ds' ≤ 20 * sizeL ds
  | [], ds', i, _, e => by
    unfold rdL at e
    cases e
    simp [gdL, sizeL]
  | d :: ds, ds', i, g, e => by
    unfold rdL at e
    simp only [gdL] at g
    cases q : rec2 d with
    | ok d' =>
      rw [q] at e
      obtain ⟨r, e1, e2⟩ := Res.map_ok e
      obtain ⟨h1, h2⟩ := rdL_sz h ds r (i + 1) g.2 e1
      obtain ⟨h3, h4⟩ := h d d' g.1 q
      subst e2
      refine ⟨by simp only [gdL]; exact ⟨h3, h1⟩, ?_⟩
      simp only [sizeL]; omega
    | bad r p => rw [q] at e; cases e
/-- the sizes of the fields that are looked up -/
def lookSum (gs : List (Str × D)) : List Fd → Nat
  | [] => 0
  | f :: fs => (match look gs f.nm with | some d => d.size | none => 0) + lookSum gs fs
theorem lookSum_drop {gs : List (Str × D)} {p : Str × D} : ∀ (fs : List Fd), p.1 ∉ fs.map (·.nm) → lookSum (p :: gs) fs = lookSum gs fs
  | [], _ => rfl
  | f :: fs, h => by
    simp only [List.map_cons, List.mem_cons, not_or] at h
    unfold lookSum
    rw [look_cons, if_neg h.1, lookSum_drop fs h.2]
theorem lookSum_le : ∀ (gs : List (Str × D)) (fs : List Fd), (fs.map (·.nm)).Nodup → lookSum gs fs ≤ sizeF gs
  | [], fs, _ => by
    have : ∀ fs : List Fd, lookSum [] fs = 0 := fun fs => by
      induction fs with
      | nil => rfl
      | cons f fs ih => unfold lookSum; rw [look_nil, ih]
    rw [this]; exact Nat.zero_le _
  | (n, d) :: gs, fs, nd => by
    have key : ∀ fs : List Fd, (fs.map (·.nm)).Nodup → lookSum ((n, d) :: gs) fs ≤ d.size + lookSum gs fs := fun fs => by
      induction fs with
      | nil => intro _; exact Nat.zero_le _
      | cons f fs ih =>
        intro nd
        have nd' := List.nodup_cons.mp nd
        by_cases e : n = f.nm
        · have : lookSum ((n, d) :: gs) fs = lookSum gs fs := lookSum_drop fs (by rw [e]; exact nd'.1)
          unfold lookSum
          rw [look_cons, if_pos e, this]
          dsimp only
          split <;> omega
        · have := ih nd'.2
          unfold lookSum
          rw [look_cons, if_neg e]
          split <;> omega
    have h1 := key fs nd
    have h2 := lookSum_le gs fs nd
    simp only [sizeF]; omega
theorem rdF_sz {rec2 : Str → D → Res D} {b : Nat} (hb : 1000 ≤ b) (h : ∀ t d d', d.gd b → rec2 t d = .ok d' → d'.gd b ∧ d'.size ≤ 20 * d.size) (gs : List (Str × D)) (gg : gdF b gs) : ∀ (fs : List Fd) (gs' : List (Str × D)), (∀ f ∈ fs, nm1 f.nm) → (∀ f ∈ fs, ∀ d, f.pr = .dft d → d.gd 1000 ∧ d.size ≤ 3) → rdF rec2 gs fs = .ok gs' →
    gdF b gs' ∧ sizeF gs' ≤ 3 * fs.length + 20 * lookSum gs fs
  | [], gs', _, _, e => by
    unfold rdF at e
    cases e
    simp [gdF, sizeF]
  | f :: fs, gs', hn, hd, e => by
    unfold rdF at e
    have hd' : ∀ f ∈ fs, ∀ d, f.pr = .dft d → d.gd 1000 ∧ d.size ≤ 3 := fun g hg => hd g (List.mem_cons_of_mem _ hg)
    have hn' : ∀ f ∈ fs, nm1 f.nm := fun g hg => hn g (List.mem_cons_of_mem _ hg)
    have hn0 := hn f List.mem_cons_self
    unfold lookSum
    cases q : look gs f.nm with
    | some d =>
      rw [q] at e
      dsimp only at e ⊢
      cases q2 : rec2 f.ty d with
      | ok d' =>
        rw [q2] at e
        obtain ⟨r, e1, e2⟩ := Res.map_ok e
        obtain ⟨h1, h2⟩ := rdF_sz hb h gs gg fs r hn' hd' e1
        obtain ⟨h3, h4⟩ := h _ d d' ((gdF_iff.mp gg _ (look_mem q)).2) q2
        subst e2
        refine ⟨by simp only [gdF]; exact ⟨hn0, h3, h1⟩, ?_⟩
        simp only [sizeF, List.length_cons]; omega
      | bad r p => rw [q2] at e; cases e
    | none =>
      rw [q] at e
      dsimp only at e ⊢
      cases q2 : f.pr with
      | req => rw [q2] at e; cases e
      | mark => rw [q2] at e; cases e
      | opt =>
        rw [q2] at e
        obtain ⟨h1, h2⟩ := rdF_sz hb h gs gg fs gs' hn' hd' e
        refine ⟨h1, ?_⟩
        simp only [List.length_cons]; omega
      | dft dv =>
        rw [q2] at e
        obtain ⟨r, e1, e2⟩ := Res.map_ok e
        obtain ⟨h1, h2⟩ := rdF_sz hb h gs gg fs r hn' hd' e1
        obtain ⟨h3, h4⟩ := hd f List.mem_cons_self dv q2
        subst e2
        refine ⟨by simp only [gdF]; exact ⟨hn0, gd_mono hb _ h3, h1⟩, ?_⟩
        simp only [sizeF, List.length_cons]; omega
theorem rdStep_sz {F : Dfs} (hn : NdF F) (hs : Sz F) {rec2 : Str → D → Res D} {b : Nat} (hb : 1000 ≤ b) (h : ∀ t d d', d.gd b → rec2 t d = .ok d' → d'.gd b ∧ d'.size ≤ 20 * d.size) {nm : Str} {d d' : D} (g : d.gd b) (e : rdStep F rec2 nm d = .ok d') : d'.gd b ∧ d'.size ≤ 20 * d.size := by
  have self : ∀ {x : D}, x.gd b → d = x → x.gd b ∧ x.size ≤ 20 * d.size := fun {x} gx ex => ⟨gx, by rw [ex]; omega⟩
  unfold rdStep at e
  cases q : look F nm with
  | none => rw [q] at e; cases e
  | some df =>
    rw [q] at e
    cases df with
    | any =>
      cases e
      exact self g rfl
    | int lo hi =>
      cases d with
      | int i =>
        dsimp only at e
        split at e
        · cases e
          exact self g rfl
        · cases e
      | _ => cases e
    | txt n =>
      cases d with
      | str s =>
        dsimp only at e
        split at e
        · cases e
        · cases e
          exact self g rfl
      | _ => cases e
    | lst ty lo hi =>
      cases d with
      | lst ds =>
        dsimp only at e
        split at e
        · obtain ⟨r, e1, e2⟩ := Res.map_ok e
          subst e2
          simp only [D.gd] at g ⊢
          obtain ⟨h1, h2⟩ := rdL_sz (h ty) _ _ _ g e1
          refine ⟨h1, ?_⟩
          simp only [D.size]; omega
        · cases e
      | _ => cases e
    | rcd fs =>
      cases d with
      | rcd gs =>
        obtain ⟨r, e1, e2⟩ := Res.map_ok e
        subst e2
        simp only [D.gd] at g ⊢
        obtain ⟨l1, l2⟩ := hs.len nm fs q
        obtain ⟨h1, h2⟩ := rdF_sz hb h gs g fs r l2 (fun f hfm dv hdv => hs.dft nm fs f dv q hfm hdv) e1
        have h3 := lookSum_le gs fs (hn nm fs q)
        refine ⟨h1, ?_⟩
        simp only [D.size]; omega
      | _ => cases e
    | cho cs fb =>
      cases d with
      | cho t x =>
        dsimp only at e
        simp only [D.gd] at g
        cases q2 : look cs t with
        | some ty =>
          rw [q2] at e
          obtain ⟨r, e1, e2⟩ := Res.map_ok e
          subst e2
          cases q3 : rec2 ty x with
          | ok y =>
            rw [q3] at e1
            cases e1
            obtain ⟨h1, h2⟩ := h _ _ _ g.2 q3
            refine ⟨by simp only [D.gd]; exact ⟨g.1, h1⟩, ?_⟩
            simp only [D.size]; omega
          | bad r p => rw [q3] at e1; cases e1
        | none =>
          rw [q2] at e
          dsimp only at e
          cases fb with
          | non => cases e
          | mark => cases e
          | val dv =>
            cases e
            obtain ⟨h1, h2⟩ := hs.fb nm cs d' q
            refine ⟨gd_mono hb _ h1, ?_⟩
            simp only [D.size]; omega
      | _ => cases e
theorem rd_sz {F : Dfs} (hn : NdF F) (hs : Sz F) {b : Nat} (hb : 1000 ≤ b) : ∀ {n : Nat} {nm : Str} {d d' : D}, d.gd b → rd F n nm d = .ok d' → d'.gd b ∧ d'.size ≤ 20 * d.size
  | 0, nm, d, d', g, e => rdStep_sz hn hs hb (fun _ _ _ _ z => by cases z) g e
  | n + 1, nm, d, d', g, e => rdStep_sz hn hs hb (fun _ _ _ g' z => rd_sz hn hs hb g' z) g e

/-! ### failures -/
/-- a step of a path -/
def stp (m : Nat) : V → Prop
  | .int i => 0 ≤ i ∧ i < (m : Int)
  | .str s => s.length ≤ 2 ∧ chk s
  | _ => False
def rsn (r : Str) : Prop := r = "wrong kind" ∨ r = "out of range" ∨ r = "too long" ∨ r = "wrong length" ∨ r = "missing field" ∨ r = "unknown tag"
structure BadOk (n m : Nat) (r : Str) (p : List V) : Prop where
  rs : rsn r
  ms : r = "missing field" → p ≠ []
  ln : p.length ≤ n + 1
  st : ∀ e ∈ p, stp m e
theorem BadOk.cons {n m : Nat} {r : Str} {p : List V} {e : V} (b : BadOk n m r p) (h : stp m e) : BadOk (n + 1) m r (e :: p) :=
  ⟨b.rs, fun _ => by simp, by have := b.ln; simp; omega, fun x hx => by
    rcases List.mem_cons.mp hx with rfl | hx
    · exact h
    · exact b.st x hx⟩
theorem nm_ne_missing : ∀ r : Str, (r = "wrong kind" ∨ r = "out of range" ∨ r = "too long" ∨ r = "wrong length" ∨ r = "unknown tag") → r ≠ "missing field" := by
  intro r h
  rcases h with rfl | rfl | rfl | rfl | rfl <;> decide +kernel
theorem BadOk.nil {n m : Nat} {r : Str} (h : r = "wrong kind" ∨ r = "out of range" ∨ r = "too long" ∨ r = "wrong length" ∨ r = "unknown tag") : BadOk n m r [] :=
  ⟨by unfold rsn; rcases h with h | h | h | h | h <;> simp [h], fun e => absurd e (nm_ne_missing r h), by simp, fun e he => absurd he (by simp)⟩
theorem BadOk.wider {n m m' : Nat} {r : Str} {p : List V} (b : BadOk n m r p) (h : m ≤ m') : BadOk n m' r p :=
  ⟨b.rs, b.ms, b.ln, fun e he => by
    have := b.st e he
    cases e <;> simp only [stp] at * <;> first | exact this | omega⟩
theorem rdL_bad {rec2 : D → Res D} {n m : Nat} {r : Str} {p : List V} : ∀ (ds : List D) (i : Nat), (∀ d ∈ ds, ∀ r p, rec2 d = .bad r p → BadOk n m r p) → i + ds.length ≤ m → rdL rec2 i ds = .bad r p → BadOk (n + 1) m r p
  | [], i, _, _, e => by unfold rdL at e; cases e
  | d :: ds, i, h, hl, e => by
    unfold rdL at e
    simp only [List.length_cons] at hl
    cases q : rec2 d with
    | ok d' =>
      rw [q] at e
      exact rdL_bad ds (i + 1) (fun x hx => h x (List.mem_cons_of_mem _ hx)) (by omega) (Res.map_bad e)
    | bad r' p' =>
      rw [q] at e
      injection e with e1 e2
      subst e1 e2
      exact (h d List.mem_cons_self _ _ q).cons ⟨by omega, by omega⟩
theorem nm1_two {s : Str} (h : nm1 s) : s.length ≤ 2 ∧ chk s := ⟨by have := h.1; omega, h.2.1⟩
theorem rdF_bad {rec2 : Str → D → Res D} {n m : Nat} {r : Str} {p : List V} (gs : List (Str × D)) (h : ∀ q ∈ gs, ∀ t r p, rec2 t q.2 = .bad r p → BadOk n m r p) : ∀ (fs : List Fd), (∀ f ∈ fs, nm1 f.nm) → rdF rec2 gs fs = .bad r p → BadOk (n + 1) m r p
  | [], _, e => by unfold rdF at e; cases e
  | f :: fs, hn, e => by
    unfold rdF at e
    have hn' : ∀ f ∈ fs, nm1 f.nm := fun g hg => hn g (List.mem_cons_of_mem _ hg)
    have hn0 := nm1_two (hn f List.mem_cons_self)
    cases q : look gs f.nm with
    | some d =>
      rw [q] at e
      dsimp only at e
      cases q2 : rec2 f.ty d with
      | ok d' =>
        rw [q2] at e
        exact rdF_bad gs h fs hn' (Res.map_bad e)
      | bad r' p' =>
        rw [q2] at e
        injection e with e1 e2
        subst e1 e2
        exact (h _ (look_mem q) _ _ _ q2).cons hn0
    | none =>
      rw [q] at e
      dsimp only at e
      have hm : Res.bad "missing field" [V.str f.nm] = (Res.bad r p : Res (List (Str × D))) → BadOk (n + 1) m r p := fun e => by
        injection e with e1 e2
        subst e1 e2
        exact ⟨by unfold rsn; simp, fun _ => by simp, by simp, fun x hx => by
          obtain rfl := List.mem_singleton.mp hx
          exact hn0⟩
      cases q2 : f.pr with
      | req => rw [q2] at e; exact hm e
      | mark => rw [q2] at e; exact hm e
      | opt =>
        rw [q2] at e
        exact rdF_bad gs h fs hn' e
      | dft dv =>
        rw [q2] at e
        exact rdF_bad gs h fs hn' (Res.map_bad e)
theorem str_len_append (a b : Str) : (a ++ b).length = a.length + b.length := strLen_append a b
theorem rdStep_bad {F : Dfs} (hs : Sz F) {rec2 : Str → D → Res D} {b n m : Nat} (h : ∀ t d, d.gd b → d.size ≤ m → ∀ r p, rec2 t d = .bad r p → BadOk n m r p) {nm : Str} {d : D} {r : Str} {p : List V} (g : d.gd b) (hz : d.size ≤ m) (e : rdStep F rec2 nm d = .bad r p) : BadOk (n + 1) m r p := by
  have wk : (Res.bad "wrong kind" [] : Res D) = .bad r p → BadOk (n + 1) m r p := fun e => by
    injection e with e1 e2
    subst e1 e2
    exact .nil (.inl rfl)
  unfold rdStep at e
  cases q : look F nm with
  | none => rw [q] at e; exact wk e
  | some df =>
    rw [q] at e
    cases df with
    | any => cases e
    | int lo hi =>
      cases d with
      | int i =>
        dsimp only at e
        split at e
        · cases e
        · injection e with e1 e2
          subst e1 e2
          exact .nil (.inr (.inl rfl))
      | _ => exact wk e
    | txt n =>
      cases d with
      | str s =>
        dsimp only at e
        split at e
        · injection e with e1 e2
          subst e1 e2
          exact .nil (.inr (.inr (.inl rfl)))
        · cases e
      | _ => exact wk e
    | lst ty lo hi =>
      cases d with
      | lst ds =>
        dsimp only at e
        simp only [D.gd, D.size] at g hz
        split at e
        · refine rdL_bad ds 0 (fun x hx r p => h ty x (gdL_iff.mp g x hx) (by have := sizeL_mem hx; omega) r p) (by have := len_sizeL ds; omega) (Res.map_bad e)
        · injection e with e1 e2
          subst e1 e2
          exact .nil (.inr (.inr (.inr (.inl rfl))))
      | _ => exact wk e
    | rcd fs =>
      cases d with
      | rcd gs =>
        simp only [D.gd, D.size] at g hz
        exact rdF_bad gs (fun x hx t r p => h t x.2 (gdF_iff.mp g x hx).2 (by have := sizeF_mem hx; omega) r p) fs (hs.len nm fs q).2 (Res.map_bad e)
      | _ => exact wk e
    | cho cs fb =>
      cases d with
      | cho t x =>
        dsimp only at e
        simp only [D.gd, D.size] at g hz
        cases q2 : look cs t with
        | some ty =>
          rw [q2] at e
          have e := Res.map_bad e
          cases q3 : rec2 ty x with
          | ok y => rw [q3] at e; cases e
          | bad r' p' =>
            rw [q3] at e
            injection e with e1 e2
            subst e1 e2
            refine (h ty x g.2 (by omega) _ _ q3).cons ⟨?_, ?_⟩
            · rw [str_len_append]
              have := g.1.1
              have e1 : ("$" : Str).length = 1 := by decide +kernel
              omega
            · intro c hc
              have e0 : (("$" : Str) ++ t).cps.toList = ("$" : Str).cps.toList ++ t.cps.toList := by
                show (("$" : Str).cps ++ t.cps).toList = _
                rw [Array.toList_append]
              rw [e0] at hc
              rcases List.mem_append.mp hc with hc | hc
              · have : ("$" : Str).cps.toList = [36] := by decide +kernel
                rw [this] at hc
                have := List.mem_singleton.mp hc
                omega
              · exact g.1.2.1 c hc
        | none =>
          rw [q2] at e
          dsimp only at e
          have ut : (Res.bad "unknown tag" [] : Res D) = .bad r p → BadOk (n + 1) m r p := fun e => by
            injection e with e1 e2
            subst e1 e2
            exact .nil (.inr (.inr (.inr (.inr rfl))))
          cases fb with
          | non => exact ut e
          | mark => exact ut e
          | val dv => cases e
      | _ => exact wk e
theorem rd_bad {F : Dfs} (hs : Sz F) {b m : Nat} : ∀ {n : Nat} {nm : Str} {d : D} {r : Str} {p : List V}, d.gd b → d.size ≤ m → rd F n nm d = .bad r p → BadOk (n + 1) m r p
  | 0, nm, d, r, p, g, hz, e => rdStep_bad (n := 0) hs (fun t x _ _ r p z => by
      injection z with e1 e2
      subst e1 e2
      exact .nil (.inl rfl)) g hz e
  | n + 1, nm, d, r, p, g, hz, e => rdStep_bad (n := n + 1) hs (fun t x g' hz' r p z => rd_bad hs g' hz' z) g hz e
end Ff
/-! The heap: what a value stands for. -/
namespace Ff
open PySem L2

/-! ### heaps without some objects -/
def off (M : List Addr) (H : Hp) : Hp := fun a => if a ∈ M then none else H a
theorem off_some {M : List Addr} {H : Hp} {a : Addr} {o : HO} : off M H a = some o ↔ a ∉ M ∧ H a = some o := by
  unfold off
  by_cases h : a ∈ M
  · simp [h]
  · simp [h]
/-- all but the objects at M stand as they stood; nothing was let go -/
structure Stp (M : List Addr) (H H' : Hp) : Prop where
  keep : ∀ a o, a ∉ M → H a = some o → H' a = some o
  al : ∀ a, H' a = none → H a = none
theorem Stp.refl {M : List Addr} {H : Hp} : Stp M H H := ⟨fun _ _ _ h => h, fun _ h => h⟩
theorem Stp.trans {M : List Addr} {H H1 H2 : Hp} (a : Stp M H H1) (b : Stp M H1 H2) : Stp M H H2 := ⟨fun x o n h => b.keep x o n (a.keep x o n h), fun x h => a.al x (b.al x h)⟩
theorem Stp.mono {M M' : List Addr} {H H' : Hp} (s : Stp M H H') (h : ∀ a ∈ M, a ∈ M') : Stp M' H H' := ⟨fun a o n e => s.keep a o (fun z => n (h a z)) e, s.al⟩
theorem upd_none {H : Hp} {a b : Addr} {o : HO} (h : upd H a o b = none) : b ≠ a ∧ H b = none := by
  by_cases e : b = a
  · rw [e, upd_same] at h; cases h
  · rw [upd_ne e] at h; exact ⟨e, h⟩
theorem Stp.new {M : List Addr} {H : Hp} {p : Addr} {o : HO} (h : H p = none) : Stp M H (upd H p o) :=
  ⟨fun a u _ e => by rw [upd_ne (ne_of_none e h)]; exact e, fun a e => (upd_none e).2⟩
theorem Stp.put {M : List Addr} {H : Hp} {p : Addr} {o : HO} (h : p ∈ M) : Stp M H (upd H p o) :=
  ⟨fun a u n e => by rw [upd_ne (fun z => n (by rw [z]; exact h))]; exact e, fun a e => (upd_none e).2⟩
theorem Stp.same {H H' : Hp} (s : Stp [] H H') : Same H H' := fun a o e => s.keep a o (by simp) e
theorem Stp.of_same {M : List Addr} {H H' : Hp} (s : Same H H') : Stp M H H' := ⟨fun a o _ e => s a o e, fun a e => s.free e⟩
theorem Stp.offs {M M' : List Addr} {H H' : Hp} (s : Stp M H H') (h : ∀ a ∈ M', a ∈ M ∨ H a = none) : Same (off M H) (off M' H') := fun a o e => by
  obtain ⟨n, e⟩ := off_some.mp e
  refine off_some.mpr ⟨fun z => ?_, s.keep a o n e⟩
  rcases h a z with q | q
  · exact n q
  · rw [q] at e; cases e
theorem off_sub {M M' : List Addr} {H : Hp} (h : ∀ a ∈ M', a ∈ M) : Same (off M H) (off M' H) := (Stp.refl (M := M)).offs fun a z => .inl (h a z)
theorem off_full {M : List Addr} {H : Hp} : Same (off M H) H := fun _ _ e => (off_some.mp e).2
theorem off_at {M : List Addr} {H : Hp} {a : Addr} {o : HO} (h : off M H a = some o) : H a = some o := (off_some.mp h).2
/-- all of M is tracked -/
def Al (M : List Addr) (H : Hp) : Prop := ∀ a ∈ M, H a ≠ none
theorem Al.stp {M M' : List Addr} {H H' : Hp} (h : Al M H) (s : Stp M' H H') : Al M H' := fun a ha e => h a ha (s.al a e)
theorem Al.same {M : List Addr} {H H' : Hp} (h : Al M H) (s : Same H H') : Al M H' := fun a ha e => h a ha (s.free e)
theorem Al.ne {M : List Addr} {H : Hp} (h : Al M H) {p : Addr} (e : H p = none) : p ∉ M := fun z => h p z e
theorem Al.cons {M : List Addr} {H : Hp} {p : Addr} {o : HO} (h : Al M H) (e : H p = some o) : Al (p :: M) H := fun a ha => by
  rcases List.mem_cons.mp ha with rfl | ha
  · rw [e]; simp
  · exact h a ha
/-- a new object, to be changed no more -/
theorem off_new {M : List Addr} {H : Hp} {p : Addr} {o : HO} (h : Al M H) (e : H p = none) : off M (upd H p o) p = some o := off_some.mpr ⟨h.ne e, upd_same⟩

/-! ### data -/
def repStep (H : Hp) (R : V → D → Prop) (v : V) : D → Prop
  | .int i => v = .int i
  | .str s => v = .str s
  | .lst ds => ∃ a vs, v = .ref a ∧ H a = some (.lst vs) ∧ Paired R vs ds
  | .rcd fs => ∃ a kvs, v = .ref a ∧ H a = some (.dK kvs) ∧ ((fs.map (·.1)).Nodup ∧ fs.length ≤ 8) ∧ Paired (fun (kv : Key × V) (f : Str × D) => kv.1 = Sum.inr f.1 ∧ R kv.2 f.2) kvs fs
  | .cho t x => ∃ a y, v = .ref a ∧ H a = some (.tup [.str t, y]) ∧ R y x
def Rep : Nat → Hp → V → D → Prop
  | 0, H => repStep H fun _ _ => False
  | n + 1, H => repStep H (Rep n H)
def Sub : Nat → Hp → V → D → Prop
  | 0, _ => fun _ _ => False
  | n + 1, H => Rep n H
theorem rep_eq (n : Nat) (H : Hp) : Rep n H = repStep H (Sub n H) := by cases n <;> rfl
theorem repStep_mono {H H' : Hp} {R R' : V → D → Prop} (s : Same H H') (h : ∀ v d, R v d → R' v d) {v : V} {d : D} (r : repStep H R v d) : repStep H' R' v d := by
  cases d with
  | int i => exact r
  | str x => exact r
  | lst ds =>
    obtain ⟨a, vs, e, ha, p⟩ := r
    exact ⟨a, vs, e, s _ _ ha, Paired.mapP p h⟩
  | rcd fs =>
    obtain ⟨a, vs, e, ha, nd, p⟩ := r
    exact ⟨a, vs, e, s _ _ ha, nd, Paired.mapP p fun x y z => ⟨z.1, h _ _ z.2⟩⟩
  | cho t x =>
    obtain ⟨a, y, e, ha, p⟩ := r
    exact ⟨a, y, e, s _ _ ha, h _ _ p⟩
theorem Rep.same : ∀ {n : Nat} {H H' : Hp} {v : V} {d : D}, Rep n H v d → Same H H' → Rep n H' v d
  | 0, _, _, _, _, r, s => repStep_mono s (fun _ _ z => z) r
  | n + 1, _, _, _, _, r, s => repStep_mono s (fun _ _ z => Rep.same z s) r
theorem Rep.succ : ∀ {n : Nat} {H : Hp} {v : V} {d : D}, Rep n H v d → Rep (n + 1) H v d
  | 0, _, _, _, r => repStep_mono (Same.refl _) (fun _ _ z => z.elim) r
  | n + 1, _, _, _, r => repStep_mono (Same.refl _) (fun _ _ z => Rep.succ z) r
theorem Rep.mono {n m : Nat} (h : n ≤ m) {H : Hp} {v : V} {d : D} (r : Rep n H v d) : Rep m H v d := by
  induction h with
  | refl => exact r
  | step _ ih => exact ih.succ
theorem Sub.same {n : Nat} {H H' : Hp} {v : V} {d : D} (r : Sub n H v d) (s : Same H H') : Sub n H' v d := by
  cases n with
  | zero => exact r
  | succ n => exact Rep.same r s
theorem Sub.rep {n : Nat} {H : Hp} {v : V} {d : D} (r : Sub n H v d) : Rep n H v d := by
  cases n with
  | zero => exact r.elim
  | succ n => exact Rep.succ r
theorem paired_same {n : Nat} {H H' : Hp} {vs : List V} {ds : List D} (p : Paired (Rep n H) vs ds) (s : Same H H') : Paired (Rep n H') vs ds := Paired.mapP p fun _ _ z => Rep.same z s
abbrev RepF (n : Nat) (H : Hp) : Key × V → Str × D → Prop := fun kv f => kv.1 = Sum.inr f.1 ∧ Rep n H kv.2 f.2
theorem pairedF_same {n : Nat} {H H' : Hp} {vs : List (Key × V)} {ds : List (Str × D)} (p : Paired (RepF n H) vs ds) (s : Same H H') : Paired (RepF n H') vs ds := Paired.mapP p fun _ _ z => ⟨z.1, Rep.same z.2 s⟩
theorem paired_get {α β : Type} {R : α → β → Prop} : ∀ {xs : List α} {ys : List β} {i : Nat} {x : α}, Paired R xs ys → xs[i]? = some x → ∃ y, ys[i]? = some y ∧ R x y
  | _, _, _, _, .nil, e => by simp at e
  | _, _, 0, _, .cons r _, e => by simp at e; subst e; exact ⟨_, rfl, r⟩
  | _, _, i + 1, x, .cons _ t, e => by
    obtain ⟨y, h1, h2⟩ := paired_get (i := i) (x := x) t (by simpa using e)
    exact ⟨y, by simpa using h1, h2⟩
theorem paired_get' {α β : Type} {R : α → β → Prop} : ∀ {xs : List α} {ys : List β} {i : Nat} {y : β}, Paired R xs ys → ys[i]? = some y → ∃ x, xs[i]? = some x ∧ R x y
  | _, _, _, _, .nil, e => by simp at e
  | _, _, 0, _, .cons r _, e => by simp at e; subst e; exact ⟨_, rfl, r⟩
  | _, _, i + 1, x, .cons _ t, e => by
    obtain ⟨y, h1, h2⟩ := paired_get' (i := i) (y := x) t (by simpa using e)
    exact ⟨y, by simpa using h1, h2⟩
theorem paired_mem {α β : Type} {R : α → β → Prop} : ∀ {xs : List α} {ys : List β} {x : α}, Paired R xs ys → x ∈ xs → ∃ y, y ∈ ys ∧ R x y
  | _, _, _, .nil, e => by simp at e
  | _, _, x, .cons r t, e => by
    rcases List.mem_cons.mp e with rfl | e
    · exact ⟨_, List.mem_cons_self, r⟩
    · obtain ⟨y, h1, h2⟩ := paired_mem t e
      exact ⟨y, List.mem_cons_of_mem _ h1, h2⟩
theorem paired_take {α β : Type} {R : α → β → Prop} : ∀ {xs : List α} {ys : List β} (i : Nat), Paired R xs ys → Paired R (xs.take i) (ys.take i)
  | _, _, 0, _ => by simp; exact .nil
  | _, _, i + 1, .nil => .nil
  | _, _, i + 1, .cons r t => .cons r (paired_take i t)
theorem paired_drop {α β : Type} {R : α → β → Prop} : ∀ {xs : List α} {ys : List β} (i : Nat), Paired R xs ys → Paired R (xs.drop i) (ys.drop i)
  | _, _, 0, p => p
  | _, _, i + 1, .nil => .nil
  | _, _, i + 1, .cons r t => paired_drop i t
theorem paired_append {α β : Type} {R : α → β → Prop} : ∀ {xs xs' : List α} {ys ys' : List β}, Paired R xs ys → Paired R xs' ys' → Paired R (xs ++ xs') (ys ++ ys')
  | _, _, _, _, .nil, q => q
  | _, _, _, _, .cons r t, q => .cons r (paired_append t q)
/-- a list of values that each stand for some datum -/
theorem paired_of {R : V → D → Prop} : ∀ (vs : List V), (∀ v ∈ vs, ∃ d, R v d) → ∃ ds, Paired R vs ds
  | [], _ => ⟨[], .nil⟩
  | v :: vs, h => by
    obtain ⟨d, hd⟩ := h v List.mem_cons_self
    obtain ⟨ds, hds⟩ := paired_of vs fun w hw => h w (List.mem_cons_of_mem _ hw)
    exact ⟨d :: ds, .cons hd hds⟩
/-- a key of a record -/
theorem look_val {R : V → D → Prop} (k : Str) : ∀ {kvs : List (Key × V)} {fs : List (Str × D)}, Paired (fun kv f => kv.1 = Sum.inr f.1 ∧ R kv.2 f.2) kvs fs →
    (look fs k = none ∧ valV kvs (Sum.inr k) = none) ∨ ∃ v d, look fs k = some d ∧ valV kvs (Sum.inr k) = some v ∧ R v d
  | _, _, .nil => .inl ⟨rfl, rfl⟩
  | _, _, .cons (a := a) (b := b) r t => by
    rw [look_cons]
    by_cases e : b.1 = k
    · rw [if_pos e, valV_pos (by rw [r.1, e])]
      exact .inr ⟨_, _, rfl, rfl, r.2⟩
    · rw [if_neg e, valV_neg (by rw [r.1]; intro z; exact e (Sum.inr.inj z))]
      exact look_val k t
theorem keys_of {R : V → D → Prop} : ∀ {kvs : List (Key × V)} {fs : List (Str × D)}, Paired (fun kv f => kv.1 = Sum.inr f.1 ∧ R kv.2 f.2) kvs fs → kvs.map (·.1) = (fs.map (·.1)).map Sum.inr
  | _, _, .nil => rfl
  | _, _, .cons r t => by
    rw [List.map_cons, List.map_cons, List.map_cons, keys_of t, r.1]

/-! ### definitions -/
def prS : Pr → Str
  | .req => "required"
  | .opt => "optional"
  | _ => "default"
def RepFd (H : Hp) (v : V) (f : Fd) : Prop := ∃ a, v = .ref a ∧ match f.pr with
  | .dft d => ∃ x, H a = some (.tup [.str f.nm, .str f.ty, .str "default", x]) ∧ Rep 3 H x d
  | p => H a = some (.tup [.str f.nm, .str f.ty, .str (prS p)])
def RepCs (H : Hp) (v : V) (c : Str × Str) : Prop := ∃ a, v = .ref a ∧ H a = some (.tup [.str c.1, .str c.2])
def RepFb (H : Hp) (v : V) : Fb → Prop
  | .non => v = .non
  | .mark => v = .str "fallback"
  | .val d => Rep 3 H v d
def RepDf (H : Hp) (v : V) (df : Df) : Prop := ∃ a, v = .ref a ∧ match df with
  | .any => H a = some (.tup [.str "any"])
  | .int lo hi => H a = some (.tup [.str "integer", .int lo, .int hi])
  | .txt n => H a = some (.tup [.str "text", .int n])
  | .lst e lo hi => H a = some (.tup [.str "list", .str e, .int lo, .int hi])
  | .rcd fs => ∃ b xs, H a = some (.tup [.str "record", .ref b]) ∧ H b = some (.tup xs) ∧ Paired (RepFd H) xs fs
  | .cho cs fb => ∃ b xs y, H a = some (.tup [.str "choice", .ref b, y]) ∧ H b = some (.tup xs) ∧ Paired (RepCs H) xs cs ∧ RepFb H y fb
theorem RepFd.same {H H' : Hp} {v : V} {f : Fd} (r : RepFd H v f) (s : Same H H') : RepFd H' v f := by
  obtain ⟨a, e, r⟩ := r
  refine ⟨a, e, ?_⟩
  cases h : f.pr <;> rw [h] at r <;> dsimp only at r ⊢
  case dft d =>
    obtain ⟨x, r1, r2⟩ := r
    exact ⟨x, s _ _ r1, r2.same s⟩
  all_goals exact s _ _ r
theorem RepCs.same {H H' : Hp} {v : V} {f : Str × Str} (r : RepCs H v f) (s : Same H H') : RepCs H' v f := by
  obtain ⟨a, e, r⟩ := r
  exact ⟨a, e, s _ _ r⟩
theorem RepFb.same {H H' : Hp} {v : V} {f : Fb} (r : RepFb H v f) (s : Same H H') : RepFb H' v f := by
  cases f with
  | non => exact r
  | mark => exact r
  | val d => exact Rep.same r s
theorem RepDf.same {H H' : Hp} {v : V} {f : Df} (r : RepDf H v f) (s : Same H H') : RepDf H' v f := by
  obtain ⟨a, e, r⟩ := r
  refine ⟨a, e, ?_⟩
  cases f <;> dsimp only at r ⊢
  case rcd fs =>
    obtain ⟨b, xs, r1, r2, r3⟩ := r
    exact ⟨b, xs, s _ _ r1, s _ _ r2, Paired.mapP r3 fun _ _ z => z.same s⟩
  case cho cs fb =>
    obtain ⟨b, xs, y, r1, r2, r3, r4⟩ := r
    exact ⟨b, xs, y, s _ _ r1, s _ _ r2, Paired.mapP r3 fun _ _ z => z.same s, r4.same s⟩
  all_goals exact s _ _ r
/-- a dict of definitions at a -/
abbrev RepE (H : Hp) : Key × V → Str × Df → Prop := fun kv f => kv.1 = Sum.inr f.1 ∧ RepDf H kv.2 f.2
def RepDs (H : Hp) (a : Addr) (F : Dfs) : Prop := ∃ kvs, H a = some (.dK kvs) ∧ Paired (RepE H) kvs F
theorem RepDs.same {H H' : Hp} {a : Addr} {F : Dfs} (r : RepDs H a F) (s : Same H H') : RepDs H' a F := by
  obtain ⟨kvs, r1, r2⟩ := r
  exact ⟨kvs, s _ _ r1, Paired.mapP r2 fun _ _ z => ⟨z.1, z.2.same s⟩⟩
theorem look_def {H : Hp} (k : Str) : ∀ {kvs : List (Key × V)} {fs : Dfs}, Paired (RepE H) kvs fs →
    (look fs k = none ∧ valV kvs (Sum.inr k) = none) ∨ ∃ v d, look fs k = some d ∧ valV kvs (Sum.inr k) = some v ∧ RepDf H v d
  | _, _, .nil => .inl ⟨rfl, rfl⟩
  | _, _, .cons (a := a) (b := b) r t => by
    rw [look_cons]
    by_cases e : b.1 = k
    · rw [if_pos e, valV_pos (by rw [r.1, e])]
      exact .inr ⟨_, _, rfl, rfl, r.2⟩
    · rw [if_neg e, valV_neg (by rw [r.1]; intro z; exact e (Sum.inr.inj z))]
      exact look_def k t
theorem keys_ofE {H : Hp} : ∀ {kvs : List (Key × V)} {fs : Dfs}, Paired (RepE H) kvs fs → kvs.map (·.1) = (fs.map (·.1)).map Sum.inr
  | _, _, .nil => rfl
  | _, _, .cons r t => by
    rw [List.map_cons, List.map_cons, List.map_cons, keys_ofE t, r.1]

/-! ### the text -/
def topS (i : Nat) : Stmt := PySem.Challenge.pw_formatfit_k19_reading_again.main.body.getD i (.Pass ⟨0, 0, 0, 0⟩)
def inClass (s : Stmt) (j : Nat) : Stmt := (C8.clsBody s).getD j (.Pass ⟨0, 0, 0, 0⟩)
open C8
abbrev s_kind_of : Stmt := topS 5
abbrev n_kind_of : List Str := ["value"]
abbrev p_kind_of : List Str := ["value"]
theorem sc_kind_of : FnScope n_kind_of p_kind_of (fnScope s_kind_of) := fnScope_by (by decide +kernel)
abbrev s_sorted_fields : Stmt := topS 6
abbrev n_sorted_fields : List Str := ["record", "name"]
abbrev p_sorted_fields : List Str := ["record"]
theorem sc_sorted_fields : FnScope n_sorted_fields p_sorted_fields (fnScope s_sorted_fields) := fnScope_by (by decide +kernel)
abbrev s_parts_of : Stmt := topS 7
abbrev n_parts_of : List Str := ["value", "kind", "name", "part"]
abbrev p_parts_of : List Str := ["value"]
theorem sc_parts_of : FnScope n_parts_of p_parts_of (fnScope s_parts_of) := fnScope_by (by decide +kernel)
abbrev s_size_of : Stmt := topS 8
abbrev n_size_of : List Str := ["value", "kind", "part"]
abbrev p_size_of : List Str := ["value"]
theorem sc_size_of : FnScope n_size_of p_size_of (fnScope s_size_of) := fnScope_by (by decide +kernel)
abbrev s_Format_init : Stmt := inClass (topS 12) 0
abbrev n_Format_init : List Str := ["self", "root", "definitions"]
abbrev p_Format_init : List Str := ["self", "root", "definitions"]
theorem sc_Format_init : FnScope n_Format_init p_Format_init (fnScope s_Format_init) := fnScope_by (by decide +kernel)
abbrev s_Format_of : Stmt := inClass (topS 12) 1
abbrev n_Format_of : List Str := ["self", "name"]
abbrev p_Format_of : List Str := ["self", "name"]
theorem sc_Format_of : FnScope n_Format_of p_Format_of (fnScope s_Format_of) := fnScope_by (by decide +kernel)
abbrev s_Format_names : Stmt := inClass (topS 12) 2
abbrev n_Format_names : List Str := ["self"]
abbrev p_Format_names : List Str := ["self"]
theorem sc_Format_names : FnScope n_Format_names p_Format_names (fnScope s_Format_names) := fnScope_by (by decide +kernel)
abbrev s_case_of : Stmt := topS 13
abbrev n_case_of : List Str := ["definition", "tag", "case"]
abbrev p_case_of : List Str := ["definition", "tag"]
theorem sc_case_of : FnScope n_case_of p_case_of (fnScope s_case_of) := fnScope_by (by decide +kernel)
abbrev s_is_kind : Stmt := topS 16
abbrev n_is_kind : List Str := ["definition", "value"]
abbrev p_is_kind : List Str := ["definition", "value"]
theorem sc_is_kind : FnScope n_is_kind p_is_kind (fnScope s_is_kind) := fnScope_by (by decide +kernel)
abbrev s_failed : Stmt := topS 20
abbrev n_failed : List Str := ["reason", "path"]
abbrev p_failed : List Str := ["reason", "path"]
theorem sc_failed : FnScope n_failed p_failed (fnScope s_failed) := fnScope_by (by decide +kernel)
abbrev s_behind : Stmt := topS 21
abbrev n_behind : List Str := ["step", "found"]
abbrev p_behind : List Str := ["step", "found"]
theorem sc_behind : FnScope n_behind p_behind (fnScope s_behind) := fnScope_by (by decide +kernel)
abbrev s_read_list : Stmt := topS 22
abbrev n_read_list : List Str := ["form", "definition", "value", "parts", "index", "part", "found"]
abbrev p_read_list : List Str := ["form", "definition", "value"]
theorem sc_read_list : FnScope n_read_list p_read_list (fnScope s_read_list) := fnScope_by (by decide +kernel)
abbrev s_read_record : Stmt := topS 23
abbrev n_read_record : List Str := ["form", "definition", "value", "record", "field", "found"]
abbrev p_read_record : List Str := ["form", "definition", "value"]
theorem sc_read_record : FnScope n_read_record p_read_record (fnScope s_read_record) := fnScope_by (by decide +kernel)
abbrev s_read_choice : Stmt := topS 24
abbrev n_read_choice : List Str := ["form", "definition", "value", "case", "found"]
abbrev p_read_choice : List Str := ["form", "definition", "value"]
theorem sc_read_choice : FnScope n_read_choice p_read_choice (fnScope s_read_choice) := fnScope_by (by decide +kernel)
abbrev s_read_by : Stmt := topS 25
abbrev n_read_by : List Str := ["form", "name", "value", "definition"]
abbrev p_read_by : List Str := ["form", "name", "value"]
theorem sc_read_by : FnScope n_read_by p_read_by (fnScope s_read_by) := fnScope_by (by decide +kernel)
abbrev s_read : Stmt := topS 26
abbrev n_read : List Str := ["form", "value", "found"]
abbrev p_read : List Str := ["form", "value"]
theorem sc_read : FnScope n_read p_read (fnScope s_read) := fnScope_by (by decide +kernel)
abbrev s_l_cell : Stmt := topS 28
abbrev n_l_cell : List Str := ["_law_script", "_law_k"]
abbrev p_l_cell : List Str := ["_law_script", "_law_k"]
theorem sc_l_cell : FnScope n_l_cell p_l_cell (fnScope s_l_cell) := fnScope_by (by decide +kernel)
abbrev s_l_row : Stmt := topS 29
abbrev n_l_row : List Str := ["_law_cell_here", "_law_k", "_law_many", "_law_row_here", "_law_turn", "_law_seed"]
abbrev p_l_row : List Str := ["_law_cell_here", "_law_k", "_law_many"]
theorem sc_l_row : FnScope n_l_row p_l_row (fnScope s_l_row) := fnScope_by (by decide +kernel)
abbrev s_l_box : Stmt := topS 30
abbrev n_l_box : List Str := ["_law_script", "_law_first", "_law_last", "_law_row_here", "_law_k"]
abbrev p_l_box : List Str := ["_law_script", "_law_first", "_law_last"]
theorem sc_l_box : FnScope n_l_box p_l_box (fnScope s_l_box) := fnScope_by (by decide +kernel)
abbrev s_l_draw : Stmt := topS 31
abbrev n_l_draw : List Str := ["_law_box_here", "_law_many", "_law_at"]
abbrev p_l_draw : List Str := ["_law_box_here", "_law_many"]
theorem sc_l_draw : FnScope n_l_draw p_l_draw (fnScope s_l_draw) := fnScope_by (by decide +kernel)
abbrev s_l_is_integer : Stmt := topS 32
abbrev n_l_is_integer : List Str := ["_law_actual"]
abbrev p_l_is_integer : List Str := ["_law_actual"]
theorem sc_l_is_integer : FnScope n_l_is_integer p_l_is_integer (fnScope s_l_is_integer) := fnScope_by (by decide +kernel)
abbrev s_l_same : Stmt := topS 33
abbrev n_l_same : List Str := ["_law_one", "_law_other"]
abbrev p_l_same : List Str := ["_law_one", "_law_other"]
theorem sc_l_same : FnScope n_l_same p_l_same (fnScope s_l_same) := fnScope_by (by decide +kernel)
abbrev s_l_rank : Stmt := topS 34
abbrev n_l_rank : List Str := ["_law_value", "_law_parts", "_law_fields", "_law_part", "_law_name", "_law_field"]
abbrev p_l_rank : List Str := ["_law_value"]
theorem sc_l_rank : FnScope n_l_rank p_l_rank (fnScope s_l_rank) := fnScope_by (by decide +kernel)
abbrev s_l_always : Stmt := topS 35
abbrev n_l_always : List Str := ["_law_field"]
abbrev p_l_always : List Str := ["_law_field"]
theorem sc_l_always : FnScope n_l_always p_l_always (fnScope s_l_always) := fnScope_by (by decide +kernel)
abbrev s_l_any : Stmt := topS 36
abbrev n_l_any : List Str := ["_law_size_here", "_law_found", "_law_number"]
abbrev p_l_any : List Str := ["_law_size_here"]
theorem sc_l_any : FnScope n_l_any p_l_any (fnScope s_l_any) := fnScope_by (by decide +kernel)
abbrev s_l_lists : Stmt := topS 37
abbrev n_l_lists : List Str := ["_law_table_here", "_law_definition_here", "_law_size_here", "_law_rows", "_law_found", "_law_length", "_law_longer", "_law_row_here", "_law_more", "_law_part"]
abbrev p_l_lists : List Str := ["_law_table_here", "_law_definition_here", "_law_size_here"]
theorem sc_l_lists : FnScope n_l_lists p_l_lists (fnScope s_l_lists) := fnScope_by (by decide +kernel)
abbrev s_l_records : Stmt := topS 38
abbrev n_l_records : List Str := ["_law_table_here", "_law_definition_here", "_law_size_here", "_law_rows", "_law_field", "_law_longer", "_law_row_here", "_law_more", "_law_part", "_law_record"]
abbrev p_l_records : List Str := ["_law_table_here", "_law_definition_here", "_law_size_here"]
theorem sc_l_records : FnScope n_l_records p_l_records (fnScope s_l_records) := fnScope_by (by decide +kernel)
abbrev s_l_sized : Stmt := topS 39
abbrev n_l_sized : List Str := ["_law_definition_here", "_law_table_here", "_law_size_here", "_law_found", "_law_case", "_law_part"]
abbrev p_l_sized : List Str := ["_law_definition_here", "_law_table_here", "_law_size_here"]
theorem sc_l_sized : FnScope n_l_sized p_l_sized (fnScope s_l_sized) := fnScope_by (by decide +kernel)
abbrev s_l_table : Stmt := topS 40
abbrev n_l_table : List Str := ["_law_definitions", "_law_most", "_law_table_here", "_law_size_here", "_law_fresh", "_law_name"]
abbrev p_l_table : List Str := ["_law_definitions", "_law_most"]
theorem sc_l_table : FnScope n_l_table p_l_table (fnScope s_l_table) := fnScope_by (by decide +kernel)
abbrev s_l_definition : Stmt := topS 41
abbrev n_l_definition : List Str := ["_law_box_here", "_law_names", "_law_kind", "_law_types", "_law_least", "_law_shortest", "_law_many", "_law_fields", "_law_place", "_law_presence", "_law_cases", "_law_turn", "_law_field"]
abbrev p_l_definition : List Str := ["_law_box_here", "_law_names"]
theorem sc_l_definition : FnScope n_l_definition p_l_definition (fnScope s_l_definition) := fnScope_by (by decide +kernel)
abbrev s_l_filled : Stmt := topS 42
abbrev n_l_filled : List Str := ["_law_box_here", "_law_definitions", "_law_table_here", "_law_told", "_law_name", "_law_definition_here", "_law_fields", "_law_field", "_law_known", "_law_fallback"]
abbrev p_l_filled : List Str := ["_law_box_here", "_law_definitions"]
theorem sc_l_filled : FnScope n_l_filled p_l_filled (fnScope s_l_filled) := fnScope_by (by decide +kernel)
abbrev s_l_plain : Stmt := topS 43
abbrev n_l_plain : List Str := ["_law_box_here", "_law_names", "_law_definitions", "_law_name"]
abbrev p_l_plain : List Str := ["_law_box_here"]
theorem sc_l_plain : FnScope n_l_plain p_l_plain (fnScope s_l_plain) := fnScope_by (by decide +kernel)
abbrev s_l_format : Stmt := topS 44
abbrev n_l_format : List Str := ["_law_box_here", "_law_definitions"]
abbrev p_l_format : List Str := ["_law_box_here"]
theorem sc_l_format : FnScope n_l_format p_l_format (fnScope s_l_format) := fnScope_by (by decide +kernel)
abbrev s_l_bare : Stmt := topS 45
abbrev n_l_bare : List Str := ["_law_definitions", "_law_told", "_law_name", "_law_definition_here", "_law_field"]
abbrev p_l_bare : List Str := ["_law_definitions"]
theorem sc_l_bare : FnScope n_l_bare p_l_bare (fnScope s_l_bare) := fnScope_by (by decide +kernel)
abbrev s_l_changed : Stmt := topS 46
abbrev n_l_changed : List Str := ["_law_box_here", "_law_form", "_law_definitions", "_law_names", "_law_turn", "_law_name", "_law_old", "_law_kind", "_law_fields", "_law_field", "_law_presence", "_law_cases", "_law_case"]
abbrev p_l_changed : List Str := ["_law_box_here", "_law_form"]
theorem sc_l_changed : FnScope n_l_changed p_l_changed (fnScope s_l_changed) := fnScope_by (by decide +kernel)
abbrev s_l_drawn : Stmt := topS 47
abbrev n_l_drawn : List Str := ["_law_box_here", "_law_list_of"]
abbrev p_l_drawn : List Str := ["_law_box_here", "_law_list_of"]
theorem sc_l_drawn : FnScope n_l_drawn p_l_drawn (fnScope s_l_drawn) := fnScope_by (by decide +kernel)
abbrev s_l_wild : Stmt := topS 48
abbrev n_l_wild : List Str := ["_law_box_here", "_law_depth", "_law_kind", "_law_record", "_law_name", "_law_turn"]
abbrev p_l_wild : List Str := ["_law_box_here", "_law_depth"]
theorem sc_l_wild : FnScope n_l_wild p_l_wild (fnScope s_l_wild) := fnScope_by (by decide +kernel)
abbrev s_l_spoilt : Stmt := topS 49
abbrev n_l_spoilt : List Str := ["_law_box_here", "_law_value", "_law_place", "_law_kind", "_law_name", "_law_record", "_law_other"]
abbrev p_l_spoilt : List Str := ["_law_box_here", "_law_value"]
theorem sc_l_spoilt : FnScope n_l_spoilt p_l_spoilt (fnScope s_l_spoilt) := fnScope_by (by decide +kernel)
abbrev s_l_some_values : Stmt := topS 50
abbrev n_l_some_values : List Str := ["_law_box_here", "_law_known", "_law_many", "_law_found", "_law_turn", "_law_kind", "_law_value"]
abbrev p_l_some_values : List Str := ["_law_box_here", "_law_known", "_law_many"]
theorem sc_l_some_values : FnScope n_l_some_values p_l_some_values (fnScope s_l_some_values) := fnScope_by (by decide +kernel)
abbrev s_l_size : Stmt := topS 51
abbrev n_l_size : List Str := ["_law_value"]
abbrev p_l_size : List Str := ["_law_value"]
theorem sc_l_size : FnScope n_l_size p_l_size (fnScope s_l_size) := fnScope_by (by decide +kernel)
abbrev s_l_listed : Stmt := topS 52
abbrev n_l_listed : List Str := ["_law_form", "_law_most", "_law_table_here", "_law_found", "_law_last", "_law_name", "_law_rows", "_law_size_here"]
abbrev p_l_listed : List Str := ["_law_form", "_law_most"]
theorem sc_l_listed : FnScope n_l_listed p_l_listed (fnScope s_l_listed) := fnScope_by (by decide +kernel)
abbrev s_law : Stmt := topS 53
abbrev n_law : List Str := ["_law_script", "_law_box_here", "_law_form", "_law_other", "_law_known", "_law_more", "_law_name", "_law_values", "_law_value", "_law_told"]
abbrev p_law : List Str := ["_law_script"]
theorem sc_law : FnScope n_law p_law (fnScope s_law) := fnScope_by (by decide +kernel)

/-! ### what the module's names hold -/
structure Txt (K : PySem.W.Frag) (mg : Str → Option Value) (C kA : Addr) : Prop where
  z_isinstance : mg "isinstance" = none
  z_int : mg "int" = none
  z_str : mg "str" = none
  z_list : mg "list" = none
  z_dict : mg "dict" = none
  z_tuple : mg "tuple" = none
  z_bool : mg "bool" = none
  z_len : mg "len" = none
  z_sum : mg "sum" = none
  z_abs : mg "abs" = none
  z_max : mg "max" = none
  z_min : mg "min" = none
  z_range : mg "range" = none
  z_enumerate : mg "enumerate" = none
  z_sorted : mg "sorted" = none
  z_repr : mg "repr" = none
  v_VALUE : ∃ u, mg "VALUE" = some u ∧ RelV (.str "value") u
  v_FAILURE : ∃ u, mg "FAILURE" = some u ∧ RelV (.str "failure") u
  v_REQUIRED : ∃ u, mg "REQUIRED" = some u ∧ RelV (.str "required") u
  v_DEFAULT : ∃ u, mg "DEFAULT" = some u ∧ RelV (.str "default") u
  v_SIZE_MOST : ∃ u, mg "SIZE_MOST" = some u ∧ RelV (.int 300) u
  v_KINDS : ∃ u, mg "KINDS" = some u ∧ RelV (.ref kA) u
  kinds : ∀ H, SqT K H kA [.str "integer", .str "text", .str "list", .str "record", .str "choice"]
  cl : Cls K C
  nRoot : NoAttr K C "root"
  nDefs : NoAttr K C "definitions"
/-- a def of the module's top -/
structure Has (K : PySem.W.Frag) (mg : Str → Option Value) (x : Str) (st : Stmt) (ps : List Str) : Prop where
  ex : ∃ (f : Addr) (fd : FuncData), C8.Def K mg x st f fd ∧ Binds K fd ps []
section
variable {P : Program} {w : World} {K : PySem.W.Frag} {mg : Str → Option Value} {base : Heap}
theorem Has.cal {x : Str} {st : Stmt} {N ps : List Str} {k : Nat} {sp : Sp} (h : Has K mg x st ps) (S : FnScope N ps (fnScope st)) (len : ∀ vs H Q E, sp vs H Q E → vs.length = ps.length)
    (hb : ∀ (f : Addr) (cdv : Value) (A : Around) (outer : List Env) (s : Shared) (H : Hp) (vs : List V) (Q : VK) (E : XK), Room k (A.deeper (PyProof.Rows.envOfC x (fnScope st) s.heap.objs.size f cdv)) → sp vs H Q E →
      ∃ t, PSs (cxOf C8.CX0 P w K mg base N x (fnScope st) f cdv A outer s H E).nox (fnBody st) t ∧ t { nx := fun _ H' => Q .non H', rt := Q } (start N vs) H) : Cal P w K mg base (k + 1) x sp [] := by
  obtain ⟨f, fd, d, b⟩ := h.ex
  exact cal0 d b .nil S len (hb f)
theorem Cal.mono {x : Str} {j k : Nat} {sp : Sp} {dvs : List V} (c : Cal P w K mg base j x sp dvs) (h : j ≤ k) : Cal P w K mg base k x sp dvs := by
  obtain ⟨f, fd, ps, ds, F, r⟩ := c.ex
  exact ⟨f, fd, ps, ds, F.mono h, r⟩
end
theorem RelV_ty {n : String} : RelV (.ty n) (.type n) := rfl
end Ff
/-! The program, 1: kinds, cases, failures. -/
namespace Ff
open PySem L2 C8

/-! ### kinds -/
def tyN : D → String
  | .int _ => "int"
  | .str _ => "str"
  | .lst _ => "list"
  | .rcd _ => "dict"
  | .cho _ _ => "tuple"
def kd : D → Int
  | .int _ => 0
  | .str _ => 1
  | .lst _ => 2
  | .rcd _ => 3
  | .cho _ _ => 4
theorem tyx_rep {K : PySem.W.Frag} {n : Nat} {H : Hp} {v : V} {d : D} (h : Rep n H v d) : TyX K H v (.type (tyN d)) := by
  rw [rep_eq] at h
  cases d with
  | int i => rw [show v = .int i from h]; exact .base (.int i)
  | str s => rw [show v = .str s from h]; exact .base (.str s)
  | lst ds => obtain ⟨a, vs, rfl, ha, _⟩ := h; exact .base (.lst ha)
  | rcd fs => obtain ⟨a, vs, rfl, ha, _⟩ := h; exact .base (.dK ha)
  | cho t x => obtain ⟨a, y, rfl, ha, _⟩ := h; exact .base (.tup ha)
def kitsB : Bool := (["int", "str", "list", "dict", "tuple"].all fun a => ["int", "str", "list", "dict", "tuple", "bool"].all fun b => decide (kitB a b = some (decide (a = b))))
theorem kits : kitsB = true := by decide +kernel
theorem kitD {K : PySem.W.Frag} (d : D) (T : String) (hT : T ∈ ["int", "str", "list", "dict", "tuple", "bool"]) : PySem.W.kitOne K (.type (tyN d)) (.type T) = some (decide (tyN d = T)) := by
  have h := kits
  unfold kitsB at h
  have h1 := List.all_eq_true.mp h (tyN d) (by cases d <;> simp [tyN])
  have h2 := List.all_eq_true.mp h1 T hT
  exact kit_ty (of_decide_eq_true h2)
/-- isinstance(x, T), x a value -/
theorem isiV {K : PySem.W.Frag} {n : Nat} {H : Hp} {v : V} {d : D} {σ : L2.St} {i : Nat} {T : String} {Q : VK} (hd : Rep n H v d) (hs : σ[i]? = some (some v)) (hT : T ∈ ["int", "str", "list", "dict", "tuple", "bool"]) (h : Q (.bl (decide (tyN d = T))) H) :
    tCB (rIsi K) (tCons (tVar i) (tCons (tC (.ty T)) tNil)) σ H Q := ⟨v, hs, v, .ty T, .type (tyN d), .type T, _, rfl, .ty T, tyx_rep hd, kitD d T hT, h⟩
theorem isiB {K : PySem.W.Frag} {n : Nat} {H : Hp} {v : V} {d : D} {σ : L2.St} {i : Nat} {T : String} {Q : Bool → Hp → Prop} (hd : Rep n H v d) (hs : σ[i]? = some (some v)) (hT : T ∈ ["int", "str", "list", "dict", "tuple", "bool"]) (h : Q (decide (tyN d = T)) H) :
    tB (tCB (rIsi K) (tCons (tVar i) (tCons (tC (.ty T)) tNil))) σ H Q := isiV hd hs hT ⟨_, rfl, h⟩

section
variable {P : Program} {w : World} {K : PySem.W.Frag} {mg : Str → Option Value} {base : Heap} {C kA : Addr}
def spKind : Sp := fun vs H Q _ => ∃ (n : Nat) (v : V) (d : D), vs = [v] ∧ Rep n H v d ∧ Q (.int (kd d)) H
theorem ok_kind_of (h : Has K mg "kind_of" s_kind_of p_kind_of) (T : Txt K mg C kA) : Cal P w K mg base 1 "kind_of" spKind [] := by
  refine h.cal sc_kind_of (fun vs H Q E h => ?_) (fun f cdv A outer s H vs Q E hr h => ?_)
  · obtain ⟨n, v, d, rfl, _⟩ := h
    rfl
  obtain ⟨n, v, d, rfl, hd, q⟩ := h
  refine ⟨_, (pss_cons (ps_if (pt_val (pe_callB call_isi rfl T.z_isinstance (by decide +kernel) (pa_cons (pv 0) (pa_cons (pe_bltn (v := .ty "int") (u := .type "int") rfl T.z_int (by decide +kernel) rfl) pa_nil)))) (pss_one (ps_ret pe_int)) pss_nil)
      (pss_cons (ps_if (pt_val (pe_callB call_isi rfl T.z_isinstance (by decide +kernel) (pa_cons (pv 0) (pa_cons (pe_bltn (v := .ty "str") (u := .type "str") rfl T.z_str (by decide +kernel) rfl) pa_nil)))) (pss_one (ps_ret pe_int)) pss_nil)
      (pss_cons (ps_if (pt_val (pe_callB call_isi rfl T.z_isinstance (by decide +kernel) (pa_cons (pv 0) (pa_cons (pe_bltn (v := .ty "list") (u := .type "list") rfl T.z_list (by decide +kernel) rfl) pa_nil)))) (pss_one (ps_ret pe_int)) pss_nil)
      (pss_cons (ps_if (pt_val (pe_callB call_isi rfl T.z_isinstance (by decide +kernel) (pa_cons (pv 0) (pa_cons (pe_bltn (v := .ty "dict") (u := .type "dict") rfl T.z_dict (by decide +kernel) rfl) pa_nil)))) (pss_one (ps_ret pe_int)) pss_nil)
      (pss_one (ps_ret pe_int)))))), ?_⟩
  refine isiB hd rfl (by decide) ?_
  cases d with
  | int i => exact q
  | str x =>
    refine isiB hd rfl (by decide) ?_
    exact q
  | lst ds =>
    refine isiB hd rfl (by decide) ?_
    refine isiB hd rfl (by decide) ?_
    exact q
  | rcd ds =>
    refine isiB hd rfl (by decide) ?_
    refine isiB hd rfl (by decide) ?_
    refine isiB hd rfl (by decide) ?_
    exact q
  | cho t x =>
    refine isiB hd rfl (by decide) ?_
    refine isiB hd rfl (by decide) ?_
    refine isiB hd rfl (by decide) ?_
    exact q
/-! ### tests whose answer is known -/
theorem ifT {c A B : Prop} [Decidable c] (hc : c) (h : A) : if decide c = true then A else B := by
  rw [if_pos (decide_eq_true hc)]
  exact h
theorem ifF {c A B : Prop} [Decidable c] (hc : ¬ c) (h : B) : if decide c = true then A else B := by
  rw [if_neg (by rw [decide_eq_false hc]; exact Bool.false_ne_true)]
  exact h
theorem ifS {c A B : Prop} [Decidable c] (h1 : c → A) (h2 : ¬ c → B) : if decide c = true then A else B := by
  by_cases hc : c
  · exact ifT hc (h1 hc)
  · exact ifF hc (h2 hc)
theorem ifNT {c A B : Prop} [Decidable c] (hc : ¬ c) (h : A) : if (!decide c) = true then A else B := by
  rw [decide_eq_false hc, if_pos (by rfl)]
  exact h
theorem ifNF {c A B : Prop} [Decidable c] (hc : c) (h : B) : if (!decide c) = true then A else B := by
  rw [decide_eq_true hc, if_neg (by decide)]
  exact h
theorem ifNS {c A B : Prop} [Decidable c] (h1 : ¬ c → A) (h2 : c → B) : if (!decide c) = true then A else B := by
  by_cases hc : c
  · exact ifNF hc (h2 hc)
  · exact ifNT hc (h1 hc)
theorem vstr {a b : Str} : V.str a = V.str b ↔ a = b := ⟨V.str.inj, fun e => by rw [e]⟩
theorem vint {a b : Int} : V.int a = V.int b ↔ a = b := ⟨V.int.inj, fun e => by rw [e]⟩
theorem ne_str {a b : Str} (h : ¬ a = b) : ¬ V.str a = V.str b := fun z => h (vstr.mp z)
theorem decV {a b : Str} : decide (V.str a = V.str b) = decide (a = b) := decide_eq_decide.mpr vstr

/-! ### KINDS[kind_of(value)] == definition[0] -/
def kindS : D → Str
  | .int _ => "integer"
  | .str _ => "text"
  | .lst _ => "list"
  | .rcd _ => "record"
  | .cho _ _ => "choice"
def spIsKind : Sp := fun vs H Q _ => ∃ (n : Nat) (a : Addr) (k : Str) (r : List V) (v : V) (d : D), vs = [.ref a, v] ∧ H a = some (.tup (.str k :: r)) ∧ Rep n H v d ∧ Q (.bl (decide (kindS d = k))) H
theorem ok_is_kind (h : Has K mg "is_kind" s_is_kind p_is_kind) (T : Txt K mg C kA) (c_kind_of : Cal P w K mg base 1 "kind_of" spKind []) : Cal P w K mg base 2 "is_kind" spIsKind [] := by
  refine h.cal sc_is_kind (fun vs H Q E h => ?_) (fun f cdv A outer s H vs Q E hr h => ?_)
  · obtain ⟨n, a, k, r, v, d, rfl, _⟩ := h
    rfl
  obtain ⟨n, a, k, r, v, d, rfl, ha, hd, q⟩ := h
  refine ⟨_, (pss_one (ps_ret (pe_cmpR op_eq (pe_ix ix_tup (pe_gc rfl T.v_KINDS) (pe_c c_kind_of hr (by omega) rfl (pa_cons (pv 1) pa_nil)) (fun _ _ => rfl)) (pe_ix ix_tup (pv 0) pe_int (fun _ _ => rfl)) (nomark _)))), ?_⟩
  refine ⟨_, rfl, n, v, d, rfl, hd, kA, _, kd d, .str (kindS d), rfl, rfl, T.kinds H, ?_, _, rfl, a, _, _, .str k, rfl, rfl, SqT.of ha, at_of (j := 0) rfl rfl, rfl, ?_⟩
  · cases d with
    | int i => exact at_of (j := 0) rfl rfl
    | str i => exact at_of (j := 1) rfl rfl
    | lst i => exact at_of (j := 2) rfl rfl
    | rcd i => exact at_of (j := 3) rfl rfl
    | cho i j => exact at_of (j := 4) rfl rfl
  · rw [decV]
    exact q

/-! ### the case of a choice -/
def spCase : Sp := fun vs H Q _ => ∃ (a b : Addr) (y : V) (xs : List V) (cs : List (Str × Str)) (t : Str), vs = [.ref a, .str t] ∧ H a = some (.tup [.str "choice", .ref b, y]) ∧ H b = some (.tup xs) ∧ Paired (RepCs H) xs cs ∧
  (∀ ty, look cs t = some ty → Q (.str ty) H) ∧ (look cs t = none → Q .non H)
theorem look_take {α : Type} {l : List (Str × α)} {k : Str} {i : Nat} {p : Str × α} (h : l[i]? = some p) : look (l.take (i + 1)) k = (look (l.take i) k).or (if p.1 = k then some p.2 else none) := by
  rw [List.take_add_one, h, Option.toList_some, look_append, look_cons, look_nil]
theorem look_pre {α : Type} {l : List (Str × α)} {k : Str} (i : Nat) {a : α} (h : look (l.take i) k = some a) : look l k = some a := by
  rw [← List.take_append_drop i l, look_append, h]; rfl
theorem ok_case_of (h : Has K mg "case_of" s_case_of p_case_of) (T : Txt K mg C kA) : Cal P w K mg base 1 "case_of" spCase [] := by
  refine h.cal sc_case_of (fun vs H Q E h => ?_) (fun f cdv A outer s H vs Q E hr h => ?_)
  · obtain ⟨a, b, y, xs, cs, t, rfl, _⟩ := h
    rfl
  obtain ⟨a, b, y, xs, cs, t, rfl, ha, hb, hp, q1, q2⟩ := h
  refine ⟨_, (pss_cons (ps_for PassesOwn.never rfl (pi_tup (pe_ix ix_tup (pv 0) pe_int (fun _ _ => rfl))) (pg_name (i := 2) sc_case_of.nd rfl (Or.inl rfl))
        (pss_one (ps_if (pt_cmpR op_eq (pe_ix ix_tup (pv 2) pe_int (fun _ _ => rfl)) (pv 1) (nomark _)) (pss_one (ps_ret (pe_ix ix_tup (pv 2) pe_int (fun _ _ => rfl)))) pss_nil)))
      (pss_one (ps_ret pe_non))), ?_⟩
  refine ⟨_, rfl, a, _, _, .ref b, rfl, rfl, SqT.of ha, at_of (j := 1) rfl rfl, b, rfl, ⟨_, SqT.of hb⟩,
    for_tup (K := K) (a := b) (xs := xs) (fun i σ H' => H' = H ∧ look (cs.take i) t = none ∧ ∃ c, σ = [some (.ref a), some (.str t), c]) ⟨rfl, rfl, _, rfl⟩ (fun i σ H' _ h => by rw [h.1]; exact SqT.of hb) ?_ ?_⟩
  · rintro i x σ H' hx ⟨rfl, hn, c, rfl⟩
    obtain ⟨p, hp1, z, rfl, hz⟩ := paired_get hp hx
    refine ⟨_, rfl, z, _, _, .str p.1, rfl, rfl, SqT.of hz, at_of (j := 0) rfl rfl, _, rfl, rfl, _, rfl, ifS (fun e => ?_) (fun e => ?_)⟩
    · refine ⟨_, rfl, z, _, _, .str p.2, rfl, rfl, SqT.of hz, at_of (j := 1) rfl rfl, ?_⟩
      refine q1 p.2 (look_pre (i + 1) ?_)
      rw [look_take hp1, hn, if_pos (vstr.mp e)]
      rfl
    · refine ⟨rfl, ?_, _, rfl⟩
      rw [look_take hp1, hn, if_neg (fun z => e (vstr.mpr z))]
      rfl
  · rintro σ H' ⟨rfl, hn, c, rfl⟩
    refine q2 ?_
    rw [hp.length, List.take_length] at hn
    exact hn

/-! ### failures -/
def RepRes (n : Nat) (G : Hp) (v : V) : Res D → Prop
  | .ok d => ∃ a y, v = .ref a ∧ G a = some (.tup [.str "value", y]) ∧ Rep n G y d
  | .bad r p => ∃ a q, v = .ref a ∧ G a = some (.tup [.str "failure", .str r, .ref q]) ∧ G q = some (.lst p)
theorem RepRes.same {n : Nat} {G G' : Hp} {v : V} {r : Res D} (h : RepRes n G v r) (s : Same G G') : RepRes n G' v r := by
  cases r with
  | ok d =>
    obtain ⟨a, y, e, h1, h2⟩ := h
    exact ⟨a, y, e, s _ _ h1, h2.same s⟩
  | bad r p =>
    obtain ⟨a, q, e, h1, h2⟩ := h
    exact ⟨a, q, e, s _ _ h1, s _ _ h2⟩
theorem same_new {H : Hp} {p : Addr} (h : H p = none) (o : HO) : Same H (upd H p o) := (Stp.new (M := []) h).same
theorem offs_same {M : List Addr} {H H' : Hp} (s : Same H H') : Same (off M H) (off M H') := (Stp.of_same (M := M) s).offs fun a h => .inl h
theorem off_in {M : List Addr} {H H' : Hp} {p : Addr} {o : HO} (al : Al M H) (h : H p = none) (e : H' p = some o) : off M H' p = some o := off_some.mpr ⟨al.ne h, e⟩
def spFailed : Sp := fun vs H Q _ => ∃ (r : Str) (p : Addr) (xs : List V) (M : List Addr), vs = [.str r, .ref p] ∧ Al M H ∧ H p = some (.lst xs) ∧ ∀ v H', Same H H' → RepRes 0 (off M H') v (.bad r xs) → Q v H'
theorem ok_failed (h : Has K mg "failed" s_failed p_failed) (T : Txt K mg C kA) : Cal P w K mg base 1 "failed" spFailed [] := by
  refine h.cal sc_failed (fun vs H Q E h => ?_) (fun f cdv A outer s H vs Q E hr h => ?_)
  · obtain ⟨r, p, xs, M, rfl, _⟩ := h
    rfl
  obtain ⟨r, p, xs, M, rfl, al, hp, q⟩ := h
  refine ⟨_, (pss_one (ps_ret (pe_tup (pa_cons (pe_gc rfl T.v_FAILURE) (pa_cons (pv 0) (pa_cons (pe_callTy call_list_of rfl T.z_list (by decide +kernel) (pa_cons (pv 1) pa_nil)) pa_nil)))))), ?_⟩
  refine ⟨_, rfl, _, rfl, p, xs, rfl, .inl (SqL.of hp), fun l hl => ⟨by show 3 ≤ sizeLine; decide, fun t ht => ?_⟩⟩
  have s1 := same_new hl (.lst xs)
  have s2 := s1.trans (same_new ht (.tup [.str "failure", .str r, .ref l]))
  have e : l ≠ t := fun z => by rw [← z, upd_same] at ht; cases ht
  exact q _ _ s2 ⟨t, l, rfl, off_in al (s1.free ht) upd_same, off_in al hl (by rw [upd_ne e, upd_same])⟩
def spBehind : Sp := fun vs H Q _ => ∃ (n : Nat) (e v : V) (r : Res D) (M : List Addr), vs = [e, v] ∧ Al M H ∧ RepRes n (off M H) v r ∧ (∀ x p, r = .bad x p → p.length ≤ 1000) ∧ ∀ v' H', Same H H' → RepRes n (off M H') v' (r.under e) → Q v' H'
theorem val_ne_fail : ¬ V.str "failure" = V.str "value" := ne_str (by decide +kernel)
theorem ok_behind (h : Has K mg "behind" s_behind p_behind) (T : Txt K mg C kA) (c_failed : Cal P w K mg base 1 "failed" spFailed []) : Cal P w K mg base 2 "behind" spBehind [] := by
  refine h.cal sc_behind (fun vs H Q E h => ?_) (fun f cdv A outer s H vs Q E hr h => ?_)
  · obtain ⟨n, e, v, r, M, rfl, _⟩ := h
    rfl
  obtain ⟨n, e, v, r, M, rfl, al, hr', hl, q⟩ := h
  refine ⟨_, (pss_cons (ps_if (pt_cmpR op_eq (pe_ix ix_tup (pv 1) pe_int (fun _ _ => rfl)) (pe_gc rfl T.v_VALUE) (nomark _)) (pss_one (ps_ret (pv 1))) pss_nil)
      (pss_one (ps_ret (pe_c c_failed hr (by omega) rfl (pa_cons (pe_ix ix_tup (pv 1) pe_int (fun _ _ => rfl)) (pa_cons (pe_op op_cat (pe_lst (pa_cons (pv 0) pa_nil)) (pe_ix ix_tup (pv 1) pe_int (fun _ _ => rfl))) pa_nil)))))), ?_⟩
  cases r with
  | ok d =>
    obtain ⟨a, y, rfl, h1, h2⟩ := id hr'
    refine ⟨_, rfl, a, _, _, .str "value", rfl, rfl, SqT.of (off_at h1), at_of (j := 0) rfl rfl, rfl, _, rfl, ifT rfl ?_⟩
    exact ⟨_, rfl, q _ _ (Same.refl H) hr'⟩
  | bad x p =>
    obtain ⟨a, b, rfl, h1, h2⟩ := id hr'
    refine ⟨_, rfl, a, _, _, .str "failure", rfl, rfl, SqT.of (off_at h1), at_of (j := 0) rfl rfl, rfl, _, rfl, ifF val_ne_fail ?_⟩
    refine ⟨_, rfl, a, _, _, .str x, rfl, rfl, SqT.of (off_at h1), at_of (j := 1) rfl rfl, _, rfl, by show 1 ≤ sizeLine; decide, fun l hl' => ?_⟩
    have s1 := same_new hl' (.lst [e])
    refine ⟨_, rfl, a, _, _, .ref b, rfl, rfl, SqT.of (s1 _ _ (off_at h1)), at_of (j := 2) rfl rfl, l, b, _, _, rfl, rfl, upd_same, s1 _ _ (off_at h2), ?_, fun m hm => ?_⟩
    · have := hl x p rfl
      rw [List.length_singleton]
      exact Nat.le_trans (Nat.add_le_add_left this 1) (by decide)
    · have s2 := s1.trans (same_new hm (.lst ([e] ++ p)))
      refine ⟨x, m, _, M, rfl, al.same s2, upd_same, fun v' H' s3 hv => q _ _ (s2.trans s3) ?_⟩
      obtain ⟨a', q', e1, e2, e3⟩ := hv
      exact ⟨a', q', e1, e2, e3⟩
end
end Ff
/-! The program, 2: parts and sizes. -/
namespace Ff
open PySem L2 C8
section
variable {P : Program} {w : World} {K : PySem.W.Frag} {mg : Str → Option Value} {base : Heap} {C kA : Addr}
theorem line_small {n : Nat} (h : n ≤ 100000) : n ≤ sizeLine := Nat.le_trans h (by decide)
theorem line_lt {n : Nat} (h : n ≤ 100000) : n < sizeLine := Nat.lt_of_le_of_lt h (by decide)
/-- a def that is never called -/
theorem cal_never {x : Str} {st : Stmt} {ps : List Str} (h : Has K mg x st ps) : Cal P w K mg base 0 x (fun _ _ _ _ => False) [] := by
  obtain ⟨f, fd, d, b⟩ := h.ex
  exact ⟨f, fd, ps, [], ⟨fun _ _ _ _ z => z.elim, fun _ _ _ _ _ _ _ _ _ _ _ _ _ z => z.elim⟩, d.mgf, d.kp, b, .nil⟩

/-! ### sorted(d) -/
def rSD : List V → Hp → VK → Prop := fun xs H Q => ∃ (a : Addr) (kvs : List (Key × V)) (ks : List Str),
  xs = [.ref a] ∧ Rd H a (.dK kvs) ∧ kvs.map (·.1) = ks.map Sum.inr ∧ ks.length < 64 ∧
  ∀ ys p, ys.Perm ks → PyProof.Rows.sortedS ys = true → H p = none → Q (.ref p) (upd H p (.lst (ys.map V.str)))
theorem call_sD {X : Cx} (hc : X.calm = true) : CallR X (.builtin "sorted") rSD := call_sortedD hc
/-! ### the fields of a record, by their names -/
def spSF : Sp := fun vs H Q _ => ∃ (a : Addr) (kvs : List (Key × V)) (ks : List Str), vs = [.ref a] ∧ H a = some (.dK kvs) ∧ kvs.map (·.1) = ks.map Sum.inr ∧ ks.length ≤ 8 ∧
  ∀ p H' ys ts, Same H H' → H' p = some (.lst (ts.map V.ref)) → ys.Perm ks → Paired (fun t y => ∃ v, valV kvs (Sum.inr y) = some v ∧ H' t = some (.tup [.str y, v])) ts ys → Q (.ref p) H'
theorem valV_some {κ : Type} [DecidableEq κ] {kvs : List (κ × V)} {k : κ} (h : k ∈ kvs.map (·.1)) : ∃ v, valV kvs k = some v := by
  induction kvs with
  | nil => cases h
  | cons p r ih =>
    by_cases e : p.1 = k
    · exact ⟨_, valV_pos e⟩
    · rw [valV_neg e]
      refine ih ?_
      rcases List.mem_cons.mp h with q | q
      · exact absurd q.symm e
      · exact q
theorem ok_sorted_fields (h : Has K mg "sorted_fields" s_sorted_fields p_sorted_fields) (T : Txt K mg C kA) : Cal P w K mg base 1 "sorted_fields" spSF [] := by
  refine h.cal sc_sorted_fields (fun vs H Q E h => ?_) (fun f cdv A outer s H vs Q E hr h => ?_)
  · obtain ⟨a, kvs, ks, rfl, _⟩ := h
    rfl
  obtain ⟨a, kvs, ks, rfl, ha, hk, hl, q⟩ := h
  refine ⟨_, (pss_one (ps_ret (pe_lc (own := [("name", 1)]) (g := gName 1) (tt := tYes) rfl sc_sorted_fields.nd (pi_list (pe_callB (call_sD rfl) rfl T.z_sorted (by decide +kernel) (pa_cons (pv 0) pa_nil))) (blkOk_by (own := [("name", 1)]) (N := n_sorted_fields) (sc := fnScope s_sorted_fields) (by decide +kernel)) (fun _ _ _ _ _ => pg_name (i := 1) sc_sorted_fields.nd rfl (Or.inl rfl)) (fun _ _ _ _ _ => pts_nil) (fun _ _ _ _ _ => (pe_tup (pa_cons (pv 1) (pa_cons (pe_dget (hu_of hr) (pv 0) (pv 1) (fun _ _ => rfl)) pa_nil))))))), ?_⟩
  refine ⟨_, rfl, a, kvs, ks, rfl, .inl ha, hk, by omega, fun ys p hp _ np => ?_⟩
  have s1 := same_new np (.lst (ys.map V.str))
  refine ⟨p, rfl, ⟨_, SqL.of upd_same⟩, fun L hD => ?_⟩
  refine lc_list (K := K) (xs := ys.map V.str) (fun i H' => Same (upd H p (.lst (ys.map V.str))) H' ∧ ∃ ts, H' L = some (.lst (ts.map V.ref)) ∧ Paired (fun t y => ∃ v, valV kvs (Sum.inr y) = some v ∧ H' t = some (.tup [.str y, v])) ts (ys.take i))
    ⟨same_new hD _, [], upd_same, by rw [List.take_zero]; exact .nil⟩ (fun i H' _ h => SqL.of (h.1 _ _ upd_same)) ?_ ?_
  · rintro i x H' hx ⟨sm, ts, hD', hts⟩
    rw [List.getElem?_map] at hx
    obtain ⟨y, hy, rfl⟩ := Option.map_eq_some_iff.mp hx
    have hm : Sum.inr y ∈ kvs.map (·.1) := by
      rw [hk]
      exact List.mem_map_of_mem (hp.mem_iff.mp (List.mem_of_getElem? hy))
    obtain ⟨v, hv⟩ := valV_some hm
    have ha' : H' a = some (.dK kvs) := sm _ _ (s1 _ _ ha)
    refine ⟨rfl, _, rfl, _, rfl, _, rfl, a, v, rfl, hv ▸ DGet.k (k := Sum.inr y) ha', by show 2 ≤ sizeLine; decide, fun t ht => ?_⟩
    have nLt : L ≠ t := ne_of_none hD' ht
    have hlen : ts.length ≤ 8 := by
      have h1 := hts.length
      have h2 := hp.length_eq
      rw [List.length_take] at h1
      omega
    refine ⟨ts.map V.ref, by rw [upd_ne nLt]; exact hD', by rw [List.length_map]; exact line_lt (by omega), ?_, ts ++ [t], by rw [upd_same, List.map_append]; rfl, ?_⟩
    · intro b o e
      rw [upd_ne (ne_of_none e hD), upd_ne (ne_of_none (sm _ _ e) ht)]
      exact sm _ _ e
    · rw [List.take_add_one, hy]
      refine paired_append ?_ (.cons ⟨v, hv, by rw [upd_ne nLt.symm, upd_same]⟩ .nil)
      refine L2.Paired.mapP hts fun t' y' ⟨v', h1, h2⟩ => ⟨v', h1, ?_⟩
      rw [upd_ne (ne_of h2 hD' (by intro z; cases z)), upd_ne (ne_of_none h2 ht)]
      exact h2
  · rintro H' ⟨sm, ts, hD', hts⟩
    rw [List.length_map, List.take_length] at hts
    exact q L H' ys ts (s1.trans sm) hD' hp hts

/-! ### the parts of a value -/
theorem sizeL_perm {xs ys : List D} (h : xs.Perm ys) : sizeL xs = sizeL ys := by
  induction h with
  | nil => rfl
  | cons x _ ih => simp only [sizeL]; omega
  | swap x y l => simp only [sizeL]; omega
  | trans _ _ h1 h2 => exact h1.trans h2
theorem sizeL_snd : ∀ fs : List (Str × D), sizeL (fs.map (·.2)) = sizeF fs
  | [] => rfl
  | (n, d) :: r => by simp only [List.map_cons, sizeL, sizeF, sizeL_snd r]
theorem look_at {α : Type} {fs : List (Str × α)} (nd : (fs.map (·.1)).Nodup) {p : Str × α} (h : p ∈ fs) : look fs p.1 = some p.2 := by
  induction fs with
  | nil => cases h
  | cons q r ih =>
    have nd' := List.nodup_cons.mp nd
    rw [look_cons]
    rcases List.mem_cons.mp h with rfl | h
    · rw [if_pos rfl]
    · rw [if_neg (fun e => nd'.1 (by show q.1 ∈ _; rw [e]; exact List.mem_map_of_mem h))]
      exact ih nd'.2 h
/-- the values of the fields, in the order of the names ys -/
def byN (fs : List (Str × D)) (ys : List Str) : List D := ys.map fun y => (look fs y).getD (.int 0)
theorem byN_size {fs : List (Str × D)} (nd : (fs.map (·.1)).Nodup) {ys : List Str} (h : ys.Perm (fs.map (·.1))) : sizeL (byN fs ys) = sizeF fs := by
  have h1 : (byN fs ys).Perm (byN fs (fs.map (·.1))) := h.map _
  have h2 : byN fs (fs.map (·.1)) = fs.map (·.2) := by
    unfold byN
    rw [List.map_map]
    refine List.map_congr_left fun p hp => ?_
    show (look fs p.1).getD _ = p.2
    rw [look_at nd hp]; rfl
  rw [sizeL_perm h1, h2, sizeL_snd]
def spParts : Sp := fun vs H Q _ => ∃ (n : Nat) (v : V) (d : D), vs = [v] ∧ Rep n H v d ∧ 2 ≤ kd d ∧ d.size ≤ 100000 ∧
  ∀ p H' us ds, Same H H' → H' p = some (.lst us) → Paired (Sub n H') us ds → sizeL ds + 1 = d.size → Q (.ref p) H'
theorem paired_sub {n : Nat} {H H' : Hp} {vs : List V} {ds : List D} (p : Paired (Sub n H) vs ds) (s : Same H H') : Paired (Sub n H') vs ds := L2.Paired.mapP p fun _ _ z => Sub.same z s
theorem ok_parts_of (h : Has K mg "parts_of" s_parts_of p_parts_of) (T : Txt K mg C kA) (c_kind_of : Cal P w K mg base 1 "kind_of" spKind []) (c_sorted_fields : Cal P w K mg base 1 "sorted_fields" spSF []) : Cal P w K mg base 2 "parts_of" spParts [] := by
  refine h.cal sc_parts_of (fun vs H Q E h => ?_) (fun f cdv A outer s H vs Q E hr h => ?_)
  · obtain ⟨n, v, d, rfl, _⟩ := h
    rfl
  obtain ⟨n, v, d, rfl, hd, h2, hz, q⟩ := h
  refine ⟨_, (pss_cons (ps_set (i := 1) sc_parts_of.nd rfl (Or.inl rfl) (pe_c c_kind_of hr (by omega) rfl (pa_cons (pv 0) pa_nil)))
      (pss_cons (ps_if (pt_cmpR op_eq (pv 1) pe_int (nomark _)) (pss_one (ps_ret (pe_callTy call_list_of rfl T.z_list (by decide +kernel) (pa_cons (pv 0) pa_nil)))) pss_nil)
      (pss_cons (ps_if (pt_cmpR op_eq (pv 1) pe_int (nomark _)) (pss_one (ps_ret (pe_lc (own := [("name", 2), ("part", 3)]) (g := gTup K 2 (gCons (gName 2) (gCons (gName 3) gNil))) (tt := tYes) rfl sc_parts_of.nd (pi_list (pe_c c_sorted_fields hr (by omega) rfl (pa_cons (pv 0) pa_nil))) (blkOk_by (own := [("name", 2), ("part", 3)]) (N := n_parts_of) (sc := fnScope s_parts_of) (by decide +kernel)) (fun _ _ _ _ _ => pg_tup rfl (pgs_cons (pg_name (i := 2) sc_parts_of.nd rfl (Or.inl rfl)) (pgs_cons (pg_name (i := 3) sc_parts_of.nd rfl (Or.inl rfl)) pgs_nil))) (fun _ _ _ _ _ => pts_nil) (fun _ _ _ _ _ => (pv 3))))) pss_nil)
      (pss_cons (ps_if (pt_cmpR op_eq (pv 1) pe_int (nomark _)) (pss_one (ps_ret (pe_lst (pa_cons (pe_ix ix_tup (pv 0) pe_int (fun _ _ => rfl)) pa_nil)))) pss_nil)
      (pss_one (ps_ret (pe_lst pa_nil))))))), ?_⟩
  refine ⟨_, rfl, n, v, d, rfl, hd, ?_⟩
  rw [rep_eq] at hd
  cases d with
  | int i => exact absurd h2 (by show ¬ (2 : Int) ≤ 0; decide)
  | str i => exact absurd h2 (by show ¬ (2 : Int) ≤ 1; decide)
  | lst ds =>
    obtain ⟨a, us, rfl, ha, hp⟩ := hd
    refine ⟨_, rfl, rfl, _, rfl, ifT rfl ?_⟩
    refine ⟨_, rfl, a, us, rfl, .inl (SqL.of ha), fun l hl => ?_⟩
    have s1 := same_new hl (.lst us)
    exact q l _ us ds s1 upd_same (paired_sub hp s1) (by simp only [D.size]; omega)
  | rcd fs =>
    obtain ⟨a, kvs, rfl, ha, nd, hp⟩ := hd
    refine ⟨_, rfl, rfl, _, rfl, ifF (by intro z; exact absurd (vint.mp z) (by show ¬ (3 : Int) = 2; decide)) ?_⟩
    refine ⟨_, rfl, rfl, _, rfl, ifT rfl ?_⟩
    refine ⟨_, rfl, a, kvs, fs.map (·.1), rfl, ha, keys_of hp, by rw [List.length_map]; exact nd.2, fun p H1 ys ts s1 hts hperm hpair => ?_⟩
    refine ⟨p, rfl, ⟨_, SqL.of hts⟩, fun L hD => ?_⟩
    refine lc_list (K := K) (xs := ts.map V.ref) (fun i H' => Same H1 H' ∧ ∃ us, H' L = some (.lst us) ∧ Paired (Sub n H1) us ((byN fs ys).take i))
      ⟨same_new hD _, [], upd_same, by rw [List.take_zero]; exact .nil⟩ (fun i H' _ h => SqL.of (h.1 _ _ hts)) ?_ ?_
    · rintro i x H' hx ⟨sm, us, hD', hus⟩
      rw [List.getElem?_map] at hx
      obtain ⟨t, ht, rfl⟩ := Option.map_eq_some_iff.mp hx
      obtain ⟨y, hy, v, hv, htv⟩ := paired_get hpair ht
      refine ⟨t, _, rfl, SqT.of (sm _ _ htv), rfl, _, _, rfl, _, _, rfl, rfl, rfl, _, rfl, ?_⟩
      have hlen : us.length ≤ 8 := by
        have h1 := hus.length
        have h3 := hperm.length_eq
        unfold byN at h1
        rw [List.length_take, List.length_map] at h1
        rw [List.length_map] at h3
        have := nd.2
        omega
      refine ⟨us, hD', line_lt (by omega), ?_, us ++ [v], upd_same, ?_⟩
      · intro b o e
        rw [upd_ne (ne_of_none e hD)]
        exact sm _ _ e
      · unfold byN at hus ⊢
        rw [List.take_add_one, List.getElem?_map, hy]
        refine paired_append hus (.cons ?_ .nil)
        rcases look_val y hp with ⟨e1, e2⟩ | ⟨v', d', e1, e2, e3⟩
        · rw [e2] at hv; cases hv
        · rw [e2] at hv; cases hv
          show Sub n H1 _ ((look fs y).getD (.int 0))
          rw [e1]
          exact Sub.same e3 s1
    · rintro H' ⟨sm, us, hD', hus⟩
      have e : ((byN fs ys).take (ts.map V.ref).length) = byN fs ys := by
        refine List.take_of_length_le ?_
        unfold byN
        rw [List.length_map, List.length_map, hpair.length]
        exact Nat.le_refl _
      rw [e] at hus
      exact q L H' us _ (s1.trans sm) hD' (paired_sub hus sm) (by rw [byN_size nd.1 hperm]; simp only [D.size]; omega)
  | cho t x =>
    obtain ⟨a, y, rfl, ha, hp⟩ := hd
    refine ⟨_, rfl, rfl, _, rfl, ifF (by intro z; exact absurd (vint.mp z) (by show ¬ (4 : Int) = 2; decide)) ?_⟩
    refine ⟨_, rfl, rfl, _, rfl, ifF (by intro z; exact absurd (vint.mp z) (by show ¬ (4 : Int) = 3; decide)) ?_⟩
    refine ⟨_, rfl, rfl, _, rfl, ifT rfl ?_⟩
    refine ⟨_, rfl, a, _, _, y, rfl, rfl, SqT.of ha, at_of (j := 1) rfl rfl, by show 1 ≤ sizeLine; decide, fun l hl => ?_⟩
    have s1 := same_new hl (.lst [y])
    exact q l _ [y] [x] s1 upd_same (.cons (Sub.same hp s1) .nil) (by simp only [D.size, sizeL]; omega)

/-! ### sizes -/
def spSz (n : Nat) : Sp := fun vs H Q _ => ∃ (v : V) (d : D), vs = [v] ∧ Sub n H v d ∧ d.size ≤ 100000 ∧ ∀ H', Same H H' → Q (.int d.size) H'
theorem sum_take {l : List Int} {i : Nat} {z : Int} (h : l[i]? = some z) : (l.take (i + 1)).sum = (l.take i).sum + z := L2.sum_take h
theorem sizeL_take {ds : List D} {i : Nat} {d : D} (h : ds[i]? = some d) : sizeL (ds.take (i + 1)) = sizeL (ds.take i) + d.size := by
  rw [List.take_add_one, h, sizeL_append]
  simp [sizeL]
theorem ok_size_succ {n : Nat} (h : Has K mg "size_of" s_size_of p_size_of) (T : Txt K mg C kA) (c_kind_of : Cal P w K mg base 1 "kind_of" spKind []) (c_parts_of : Cal P w K mg base 2 "parts_of" spParts [])
    (c_size_of : Cal P w K mg base (n + 2) "size_of" (spSz n) []) : Cal P w K mg base (n + 3) "size_of" (spSz (n + 1)) [] := by
  refine h.cal sc_size_of (fun vs H Q E h => ?_) (fun f cdv A outer s H vs Q E hr h => ?_)
  · obtain ⟨v, d, rfl, _⟩ := h
    rfl
  obtain ⟨v, d, rfl, hd, hz, q⟩ := h
  have hd : Rep n H v d := hd
  refine ⟨_, (pss_cons (ps_set (i := 1) sc_size_of.nd rfl (Or.inl rfl) (pe_c c_kind_of hr (by omega) rfl (pa_cons (pv 0) pa_nil)))
      (pss_cons (ps_if (pt_cmpR op_eq (pv 1) pe_int (nomark _)) (pss_one (ps_ret pe_int)) pss_nil)
      (pss_cons (ps_if (pt_cmpR op_eq (pv 1) pe_int (nomark _)) (pss_one (ps_ret (pe_op op_add pe_int (pe_callB call_len_str rfl T.z_len (by decide +kernel) (pa_cons (pv 0) pa_nil))))) pss_nil)
      (pss_one (ps_ret (pe_op op_add pe_int (pe_callB (cr_sum rfl) rfl T.z_sum (by decide +kernel) (pa_cons (pe_lc (own := [("part", 2)]) (g := gName 2) (tt := tYes) rfl sc_size_of.nd (pi_list (pe_c c_parts_of hr (by omega) rfl (pa_cons (pv 0) pa_nil))) (blkOk_by (own := [("part", 2)]) (N := n_size_of) (sc := fnScope s_size_of) (by decide +kernel)) (fun _ _ _ _ _ => pg_name (i := 2) sc_size_of.nd rfl (Or.inl rfl)) (fun _ _ _ _ _ => pts_nil) (fun _ _ _ _ _ => (pe_c c_size_of hr (by omega) rfl (pa_cons (pv 2) pa_nil)))) pa_nil)))))))), ?_⟩
  refine ⟨_, rfl, n, v, d, rfl, hd, ?_⟩
  have comp : 2 ≤ kd d → ∀ {N : Ends} {σ : L2.St}, σ = [some v, some (.int (kd d)), none] → N.rt = Q → tRet (tOp (rI0 fun i j => .int (i + j)) (tC (.int 1)) (tCB (rSum K) (tCons (tLc (iList K (tCall spParts [] C8.E0 (tCons (tVar 0) tNil))) (gName 2) tYes (tCall (spSz n) [] C8.E0 (tCons (tVar 2) tNil)) [2]) tNil))) N σ H := by
    rintro h2 N σ rfl rfl
    refine ⟨_, rfl, n, v, d, rfl, hd, h2, hz, fun p H1 us ds s1 hp hus hs => ?_⟩
    refine ⟨p, rfl, ⟨_, SqL.of hp⟩, fun L hD => ?_⟩
    refine lc_list (K := K) (xs := us) (fun i H' => Same H1 H' ∧ H' L = some (.lst (((ds.take i).map fun d => (d.size : Int)).map V.int))) ⟨same_new hD _, by rw [List.take_zero]; exact upd_same⟩ (fun i H' _ h => SqL.of (h.1 _ _ hp)) ?_ ?_
    · rintro i x H' hx ⟨sm, hD'⟩
      obtain ⟨e, he, hr⟩ := paired_get hus hx
      have hl := len_sizeL ds
      have hm := sizeL_mem (List.mem_of_getElem? he)
      refine ⟨rfl, _, rfl, x, e, rfl, Sub.same hr sm, by omega, fun H2 s2 => ?_⟩
      refine ⟨_, s2 _ _ hD', ?_, ?_, ?_⟩
      · rw [List.length_map, List.length_map, List.length_take]
        exact line_lt (by omega)
      · intro b o e
        rw [upd_ne (ne_of_none e hD)]
        exact s2 _ _ (sm _ _ e)
      · rw [upd_same, List.take_add_one, he, List.map_append, List.map_append]
        rfl
    · rintro H' ⟨sm, hD'⟩
      refine ⟨L, _, rfl, SqL.of hD', 1, _, rfl, rfl, ?_⟩
      have e2 : ds.take us.length = ds := by rw [hus.length, List.take_length]
      have e3 : ∀ l : List D, (l.map fun d => (d.size : Int)).sum = (sizeL l : Int) := fun l => by
        induction l with
        | nil => rfl
        | cons d r ih => rw [List.map_cons, List.sum_cons, ih]; simp only [sizeL]; omega
      rw [e2, e3]
      have e4 : (1 : Int) + (sizeL ds : Int) = (d.size : Int) := by omega
      show N.rt (V.int (1 + (sizeL ds : Int))) H'
      rw [e4]
      exact q H' (s1.trans sm)
  have hno : ∀ {a b : Int}, a ≠ b → ¬ V.int a = V.int b := fun h z => h (vint.mp z)
  cases d with
  | int i =>
    refine ⟨_, rfl, rfl, _, rfl, ifT rfl ?_⟩
    exact q H (Same.refl H)
  | str x =>
    rw [rep_eq] at hd
    obtain rfl : v = .str x := hd
    refine ⟨_, rfl, rfl, _, rfl, ifF (hno (by show ¬ (1 : Int) = 0; decide)) ?_⟩
    refine ⟨_, rfl, rfl, _, rfl, ifT rfl ?_⟩
    simp only [D.size] at hz q
    refine ⟨_, rfl, x, rfl, line_small (by omega), _, _, rfl, rfl, ?_⟩
    have e : (1 : Int) + (x.length : Int) = ((1 + x.length : Nat) : Int) := by omega
    show Q (V.int (1 + (x.length : Int))) H
    rw [e]
    exact q H (Same.refl H)
  | lst ds =>
    refine ⟨_, rfl, rfl, _, rfl, ifF (hno (by show ¬ (2 : Int) = 0; decide)) ?_⟩
    refine ⟨_, rfl, rfl, _, rfl, ifF (hno (by show ¬ (2 : Int) = 1; decide)) ?_⟩
    exact comp (by show (2 : Int) ≤ 2; decide) rfl rfl
  | rcd ds =>
    refine ⟨_, rfl, rfl, _, rfl, ifF (hno (by show ¬ (3 : Int) = 0; decide)) ?_⟩
    refine ⟨_, rfl, rfl, _, rfl, ifF (hno (by show ¬ (3 : Int) = 1; decide)) ?_⟩
    exact comp (by show (2 : Int) ≤ 3; decide) rfl rfl
  | cho t x =>
    refine ⟨_, rfl, rfl, _, rfl, ifF (hno (by show ¬ (4 : Int) = 0; decide)) ?_⟩
    refine ⟨_, rfl, rfl, _, rfl, ifF (hno (by show ¬ (4 : Int) = 1; decide)) ?_⟩
    exact comp (by show (2 : Int) ≤ 4; decide) rfl rfl
theorem ok_size_of (h : Has K mg "size_of" s_size_of p_size_of) (T : Txt K mg C kA) (c_kind_of : Cal P w K mg base 1 "kind_of" spKind []) (c_parts_of : Cal P w K mg base 2 "parts_of" spParts []) :
    ∀ n, Cal P w K mg base (n + 2) "size_of" (spSz n) []
  | 0 => by
    obtain ⟨f, fd, d, b⟩ := h.ex
    exact ⟨f, fd, p_size_of, [], ⟨fun _ _ _ _ z => by obtain ⟨_, _, _, z, _⟩ := z; exact z.elim, fun _ _ _ _ _ _ _ _ _ _ _ _ _ z => by obtain ⟨_, _, _, z, _⟩ := z; exact z.elim⟩, d.mgf, d.kp, b, .nil⟩
  | n + 1 => ok_size_succ h T c_kind_of c_parts_of (ok_size_of h T c_kind_of c_parts_of n)
end
end Ff
/-! The program, 3: formats; reading. -/
namespace Ff
open PySem L2 C8
/-! ### dict(d) -/
theorem call_dictC {X : Cx} : CallR X (.type "dict") (fun xs H Q => ∃ (a : Addr) (kvs : List (Key × V)), xs = [.ref a] ∧ Rd H a (.dK kvs) ∧ ∀ p, H p = none → Q (.ref p) (upd H p (.dK kvs))) := by
  intro pins s σ H xs us Q I r h
  obtain ⟨a, kvs, rfl, hr, q⟩ := h
  obtain rfl := Vals.ref1 r
  exact d_copyOf I hr fun p s' hp I' => ⟨.ref p, _, I', rfl, q p hp⟩

/-! ### formats -/
def flF (root : Str) (dd : Addr) : List (Str × V) := putF "definitions" (.ref dd) (putF "root" (.str root) [])
theorem rd_ne : ¬ (("root" : Str) = "definitions") := by decide +kernel
theorem flF_root (root : Str) (dd : Addr) : (flF root dd).lookup ("root" : Str) = some (.str root) := by
  unfold flF
  rw [lookup_putF, if_neg rd_ne, lookup_putF, if_pos rfl]
theorem flF_defs (root : Str) (dd : Addr) : (flF root dd).lookup ("definitions" : Str) = some (.ref dd) := by
  unfold flF
  rw [lookup_putF, if_pos rfl]
theorem flF_of (root : Str) (dd : Addr) : (flF root dd).lookup ("of" : Str) = none := by
  unfold flF
  rw [lookup_putF, if_neg (by decide +kernel), lookup_putF, if_neg (by decide +kernel)]
  rfl
def FormAt (C : Addr) (G : Hp) (o : Addr) (root : Str) (F : Dfs) : Prop := ∃ dx dd, G o = some (.ins C dx (flF root dd)) ∧ RepDs G dd F
theorem FormAt.same {C : Addr} {G G' : Hp} {o : Addr} {root : Str} {F : Dfs} (h : FormAt C G o root F) (s : Same G G') : FormAt C G' o root F := by
  obtain ⟨dx, dd, h1, h2⟩ := h
  exact ⟨dx, dd, s _ _ h1, h2.same s⟩
/-- a method, the making of the class at C -/
structure HasM (K : PySem.W.Frag) (C : Addr) (m qual : Str) (st : Stmt) (ps : List Str) : Prop where
  ex : ∃ (f : Addr) (fd : FuncData), Meth K C m f ∧ C8.Fun K m qual st f fd ∧ Binds K fd ps []
structure HasI (K : PySem.W.Frag) (mg : Str → Option Value) (C : Addr) (x qual : Str) (st : Stmt) (ps : List Str) : Prop where
  ex : ∃ (f : Addr) (fd : FuncData), Mk K C f ∧ mg x = some (.ref C) ∧ C8.Fun K "__init__" qual st f fd ∧ Binds K fd ps []
section
variable {P : Program} {w : World} {K : PySem.W.Frag} {mg : Str → Option Value} {base : Heap} {C kA : Addr}
def spInit (C : Addr) : Sp := fun vs H Q _ => ∃ (x d dx : Addr) (root : Str) (kvs : List (Key × V)), vs = [.ref x, .str root, .ref d] ∧ H x = some (.ins C dx []) ∧ H d = some (.dK kvs) ∧
  ∀ H' p, Stp [x] H H' → H p = none → H' x = some (.ins C dx (flF root p)) → H' p = some (.dK kvs) → Q .non H'
theorem ok_init (h : HasI K mg C "Format" "Format.__init__" s_Format_init p_Format_init) (T : Txt K mg C kA) : Mak P w K mg base 1 "Format" C (spInit C) [] := by
  obtain ⟨f, fd, M, hm, F, b⟩ := h.ex
  refine mak0 M hm F b .nil sc_Format_init (fun vs H Q E h => ?_) (fun cdv A outer s H vs Q E hr h => ?_)
  · obtain ⟨x, d, dx, root, kvs, rfl, _⟩ := h
    rfl
  obtain ⟨x, d, dx, root, kvs, rfl, hx, hd, q⟩ := h
  refine ⟨_, (pss_cons (ps_fld (pv 0) (pv 1) rfl)
      (pss_one (ps_fld (pv 0) (pe_callTy call_dictC rfl T.z_dict (by decide +kernel) (pa_cons (pv 2) pa_nil)) rfl))), ?_⟩
  have nxd : d ≠ x := ne_of hd hx (by intro z; cases z)
  refine ⟨_, rfl, _, rfl, x, C, dx, [], rfl, hx, T.cl, T.nRoot, by decide, ?_⟩
  refine ⟨_, rfl, d, kvs, rfl, .inl (by rw [upd_ne nxd]; exact hd), fun p hp => ?_⟩
  obtain ⟨npx, hp0⟩ := upd_none hp
  refine ⟨_, rfl, x, C, dx, _, rfl, by rw [upd_ne npx.symm, upd_same], T.cl, T.nDefs, Nat.lt_of_le_of_lt (length_putF _ _ _) (by decide), ?_⟩
  refine q _ p ?_ hp0 upd_same (by rw [upd_ne npx, upd_same])
  exact ((Stp.put (by simp)).trans (Stp.new hp)).trans (Stp.put (by simp))
def spOf (C : Addr) : Sp := fun vs H Q _ => ∃ (o : Addr) (root nm : Str) (F : Dfs) (M : List Addr), vs = [.ref o, .str nm] ∧ FormAt C (off M H) o root F ∧ ∃ df, look F nm = some df ∧ ∀ v, RepDf (off M H) v df → Q v H
theorem ok_of (h : HasM K C "of" "Format.of" s_Format_of p_Format_of) (T : Txt K mg C kA) : Met P w K mg base 1 C "of" (spOf C) [] := by
  obtain ⟨f, fd, M, F, b⟩ := h.ex
  refine met0 T.cl M F b sc_Format_of (fun vs H Q E h => ?_) (fun cdv A outer s H vs Q E hr h => ?_)
  · obtain ⟨o, root, nm, F, M, rfl, _⟩ := h
    rfl
  obtain ⟨o, root, nm, F, M, rfl, ⟨dx, dd, ho, kvs, hk, hp⟩, df, hl, q⟩ := h
  refine ⟨_, (pss_one (ps_ret (pe_dget (hu_of hr) (pe_fld (pv 0) rfl) (pv 1) (fun _ _ => rfl)))), ?_⟩
  rcases look_def nm hp with ⟨e1, _⟩ | ⟨v, df', e1, e2, e3⟩
  · rw [e1] at hl; cases hl
  · rw [e1] at hl; cases hl
    exact ⟨_, rfl, o, C, dx, _, _, rfl, off_at ho, T.cl, T.nDefs, flF_defs _ _, _, rfl, dd, v, rfl, e2 ▸ DGet.k (k := Sum.inr nm) (off_at hk), q v e3⟩
end

/-! ### the mirror below a value -/
def rdSub (F : Dfs) : Nat → Str → D → Res D
  | 0 => fun _ _ => .bad "wrong kind" []
  | n + 1 => rd F n
theorem rd_eq (F : Dfs) (n : Nat) : rd F n = rdStep F (rdSub F n) := by cases n <;> rfl
/-- types have definitions, nothing is left open -/
def tysOk (F : Dfs) : Df → Prop
  | .lst e _ _ => (look F e).isSome = true
  | .rcd fs => ∀ f ∈ fs, (look F f.ty).isSome = true ∧ f.pr ≠ .mark
  | .cho cs fb => (∀ c ∈ cs, (look F c.2).isSome = true) ∧ fb ≠ .mark
  | _ => True
structure WfR (F : Dfs) : Prop where
  nd : NdF F
  sz : Sz F
  ty : ∀ nm df, look F nm = some df → tysOk F df
abbrev gB : Nat := 2000
/-- what is known at a reading: the format at o, n more levels -/
structure RdAt (C : Addr) (M : List Addr) (H : Hp) (o : Addr) (root : Str) (F : Dfs) (n : Nat) : Prop where
  al : Al M H
  fm : FormAt C (off M H) o root F
  wf : WfR F
  n90 : n ≤ 90
theorem RdAt.same {C : Addr} {M : List Addr} {H H' : Hp} {o : Addr} {root : Str} {F : Dfs} {n : Nat} (r : RdAt C M H o root F n) (s : Same H H') : RdAt C M H' o root F n := ⟨r.al.same s, r.fm.same (offs_same s), r.wf, r.n90⟩
theorem RdAt.also {C : Addr} {M : List Addr} {H : Hp} {o p : Addr} {root : Str} {F : Dfs} {n : Nat} {u : HO} (r : RdAt C M H o root F n) (hp : H p = none) : RdAt C (p :: M) (upd H p u) o root F n := by
  have s : Same (off M H) (off (p :: M) (upd H p u)) := (Stp.new (M := M) hp).offs fun a ha => by
    rcases List.mem_cons.mp ha with rfl | ha
    · exact .inr hp
    · exact .inl ha
  exact ⟨(r.al.same (same_new hp u)).cons upd_same, r.fm.same s, r.wf, r.n90⟩
theorem off_also {M : List Addr} {H : Hp} {p : Addr} {u : HO} (hp : H p = none) : Same (off M H) (off (p :: M) (upd H p u)) := (Stp.new (M := M) hp).offs fun a ha => by
  rcases List.mem_cons.mp ha with rfl | ha
  · exact .inr hp
  · exact .inl ha
theorem off_put {M : List Addr} {H : Hp} {p : Addr} {u : HO} : Same (off (p :: M) H) (off (p :: M) (upd H p u)) := (Stp.put (M := p :: M) (by simp)).offs fun a ha => .inl ha
theorem off_less {M : List Addr} {H : Hp} {p : Addr} : Same (off (p :: M) H) (off M H) := off_sub fun a ha => by simp [ha]
/-- a value that a definition reads -/
structure Vl (n : Nat) (G : Hp) (v : V) (d : D) : Prop where
  sb : Sub n G v d
  gd : d.gd gB
  sz : d.size ≤ 100000
theorem Vl.same {n : Nat} {G G' : Hp} {v : V} {d : D} (h : Vl n G v d) (s : Same G G') : Vl n G' v d := ⟨h.sb.same s, h.gd, h.sz⟩
theorem rdSub_bad {F : Dfs} (wf : WfR F) {n : Nat} {nm : Str} {d : D} (g : d.gd gB) (z : d.size ≤ 100000) (hn : n ≤ 90) : ∀ r p, rdSub F n nm d = .bad r p → p.length ≤ 1000 := by
  intro r p e
  cases n with
  | zero => cases e; simp
  | succ n => have := (rd_bad wf.sz g z e).ln; omega
theorem under_bad {r : Res D} {e : V} {x : Str} {p : List V} (h : r.under e = .bad x p) : ∃ p', r = .bad x p' ∧ p = e :: p' := by
  cases r with
  | ok d => cases h
  | bad y q => injection h with h1 h2; exact ⟨q, by rw [h1], h2.symm⟩
theorem under_ok {r : Res D} {e : V} {d : D} (h : r.under e = .ok d) : r = .ok d := by
  cases r with
  | ok d' => exact h
  | bad y q => cases h
section
variable {P : Program} {w : World} {K : PySem.W.Frag} {mg : Str → Option Value} {base : Heap} {C kA : Addr}
/-- read_by at values of n levels less one -/
def spRB (C : Addr) (n : Nat) : Sp := fun vs H Q _ => ∃ (o : Addr) (root nm : Str) (F : Dfs) (M : List Addr) (v : V) (d : D), vs = [.ref o, .str nm, v] ∧ RdAt C M H o root F n ∧ (look F nm).isSome = true ∧ Vl n (off M H) v d ∧
  ∀ v' H', Same H H' → RepRes (n + 3) (off M H') v' (rdSub F n nm d) → Q v' H'
theorem fail_ne : ¬ V.str "value" = V.str "failure" := ne_str (by decide +kernel)
def resL (F : Dfs) (n : Nat) (e : Str) (lo hi : Int) (ds : List D) : Res D := if lo ≤ (ds.length : Int) ∧ (ds.length : Int) ≤ hi then (rdL (rdSub F n e) 0 ds).map .lst else .bad "wrong length" []
def spRL (C : Addr) (n : Nat) : Sp := fun vs H Q _ => ∃ (o da a : Addr) (root e : Str) (lo hi : Int) (F : Dfs) (M : List Addr) (us : List V) (ds : List D), vs = [.ref o, .ref da, .ref a] ∧ RdAt C M H o root F n ∧
  off M H da = some (.tup [.str "list", .str e, .int lo, .int hi]) ∧ (look F e).isSome = true ∧ off M H a = some (.lst us) ∧ Paired (Sub n (off M H)) us ds ∧ (D.lst ds).gd gB ∧ (D.lst ds).size ≤ 100000 ∧
  ∀ v' H', Same H H' → RepRes (n + 4) (off M H') v' (resL F n e lo hi ds) → Q v' H'
theorem map_map_cons {x : D} {pre : List D} {r : Res (List D)} : (r.map (x :: ·)).map (pre ++ ·) = r.map ((pre ++ [x]) ++ ·) := by
  cases r with
  | ok a => simp [Res.map]
  | bad r p => rfl
theorem ok_read_list {n : Nat} (h : Has K mg "read_list" s_read_list p_read_list) (T : Txt K mg C kA) (c_failed : Cal P w K mg base 1 "failed" spFailed []) (c_behind : Cal P w K mg base 2 "behind" spBehind [])
    (c_read_by : Cal P w K mg base (2 * n + 3) "read_by" (spRB C n) []) : Cal P w K mg base (2 * n + 4) "read_list" (spRL C n) [] := by
  refine h.cal sc_read_list (fun vs H Q E h => ?_) (fun f cdv A outer s H vs Q E hr h => ?_)
  · obtain ⟨o, da, a, root, e, lo, hi, F, M, us, ds, rfl, _⟩ := h
    rfl
  obtain ⟨o, da, a, root, e, lo, hi, F, M, us, ds, rfl, ra, hda, he, ha, hp, gd, sz, q⟩ := h
  refine ⟨_, (pss_cons (ps_if (pt_not (pt_chain op_le op_le (pe_ix ix_tup (pv 1) pe_int (fun _ _ => rfl)) (pe_callB call_len_seq rfl T.z_len (by decide +kernel) (pa_cons (pv 2) pa_nil)) (pe_ix ix_tup (pv 1) pe_int (fun _ _ => rfl)))) (pss_one (ps_ret (pe_c c_failed hr (by omega) rfl (pa_cons pe_str (pa_cons (pe_lst pa_nil) pa_nil))))) pss_nil)
      (pss_cons (ps_set (i := 3) sc_read_list.nd rfl (Or.inl rfl) (pe_lst pa_nil))
      (pss_cons (ps_for PassesOwn.never rfl (pi_enum rfl T.z_enumerate (pa_cons (pv 2) pa_nil)) (pg_tup rfl (pgs_cons (pg_name (i := 4) sc_read_list.nd rfl (Or.inl rfl)) (pgs_cons (pg_name (i := 5) sc_read_list.nd rfl (Or.inl rfl)) pgs_nil)))
        (pss_cons (ps_set (i := 6) sc_read_list.nd rfl (Or.inl rfl) (pe_c c_behind hr (by omega) rfl (pa_cons (pv 4) (pa_cons (pe_c c_read_by hr (by omega) rfl (pa_cons (pv 0) (pa_cons (pe_ix ix_tup (pv 1) pe_int (fun _ _ => rfl)) (pa_cons (pv 5) pa_nil)))) pa_nil))))
        (pss_cons (ps_if (pt_cmpR op_eq (pe_ix ix_tup (pv 6) pe_int (fun _ _ => rfl)) (pe_gc rfl T.v_FAILURE) (nomark _)) (pss_one (ps_ret (pv 6))) pss_nil)
        (pss_one (ps_expr (pe_bm PySem.F.plainAttrs_list PySem.F.slot_list_append PySem.F.type_list_append mt_append (pv 3) (pa_cons (pe_ix ix_tup (pv 6) pe_int (fun _ _ => rfl)) pa_nil)))))))
      (pss_one (ps_ret (pe_tup (pa_cons (pe_gc rfl T.v_VALUE) (pa_cons (pv 3) pa_nil)))))))), ?_⟩
  have hlen : us.length = ds.length := hp.length
  have hdl := len_sizeL ds
  simp only [D.size, D.gd] at sz gd
  have da' : ∀ {H'}, Same H H' → H' da = some (.tup [.str "list", .str e, .int lo, .int hi]) := fun s => s _ _ (off_at hda)
  have ha' : ∀ {H'}, Same H H' → H' a = some (.lst us) := fun s => s _ _ (off_at ha)
  have wrong : resL F n e lo hi ds = .bad "wrong length" [] → ∀ {N : Ends} {σ : L2.St}, N.rt = Q → tRet (tCall spFailed [] C8.E0 (tCons (tC (.str "wrong length")) (tCons (tLst tNil) tNil))) N σ H := by
    rintro ew N σ rfl
    refine ⟨by show 0 ≤ sizeLine; decide, fun l hl => ?_⟩
    refine ⟨"wrong length", l, [], M, rfl, ra.al.same (same_new hl _), upd_same, fun v' H' s2 hv => q v' H' ((same_new hl _).trans s2) ?_⟩
    rw [ew]
    obtain ⟨a', q', e1, e2, e3⟩ := hv
    exact ⟨a', q', e1, e2, e3⟩
  refine ⟨_, rfl, da, _, _, .int lo, rfl, rfl, SqT.of (da' (Same.refl H)), at_of (j := 2) rfl rfl, _, rfl, a, us, rfl, .inl (SqL.of (ha' (Same.refl H))), lo, _, rfl, rfl, _, rfl, ?_⟩
  by_cases h1 : lo ≤ (us.length : Int)
  case neg =>
    refine ifF h1 ⟨_, rfl, ?_⟩
    exact wrong (by unfold resL; rw [if_neg (fun z => h1 (by rw [hlen]; exact z.1))]) rfl
  refine ifT h1 ⟨_, rfl, da, _, _, .int hi, rfl, rfl, SqT.of (da' (Same.refl H)), at_of (j := 3) rfl rfl, _, _, rfl, rfl, _, rfl, ?_⟩
  by_cases h2 : (us.length : Int) ≤ hi
  case neg =>
    refine ifNT h2 ?_
    exact wrong (by unfold resL; rw [if_neg (fun z => h2 (by rw [hlen]; exact z.2))]) rfl
  refine ifNF h2 ?_
  have er : resL F n e lo hi ds = (rdL (rdSub F n e) 0 ds).map .lst := by unfold resL; rw [if_pos ⟨by rw [← hlen]; exact h1, by rw [← hlen]; exact h2⟩]
  rw [er] at q
  refine ⟨by show 0 ≤ sizeLine; decide, fun p hp0 => ?_⟩
  have ra1 : RdAt C (p :: M) (upd H p (.lst [])) o root F n := ra.also hp0
  have s1 := same_new hp0 (.lst ([] : List V))
  refine ⟨_, rfl, a, us, rfl, SqL.of (ha' s1), ?_⟩
  refine for_it (walk_enum (K := K) (a := a) (xs := us)) (fun i σ H' => Same H H' ∧ Stp [p] (upd H p (.lst [])) H' ∧ (∃ ys ds', H' p = some (.lst ys) ∧ Paired (Rep (n + 3) (off (p :: M) H')) ys ds' ∧ ds'.length = i ∧ rdL (rdSub F n e) 0 ds = (rdL (rdSub F n e) i (ds.drop i)).map (ds' ++ ·)) ∧
      ∃ x4 x5 x6, σ = [some (.ref o), some (.ref da), some (.ref a), some (.ref p), x4, x5, x6])
    ⟨s1, Stp.refl, ⟨[], [], upd_same, .nil, rfl, ?_⟩, _, _, _, rfl⟩ (fun i σ H' _ h => SqL.of (ha' h.1)) ?_ ?_
  · rw [List.drop_zero]
    cases rdL (rdSub F n e) 0 ds <;> rfl
  · rintro i x σ H1 H1' hi ⟨sm, st, ⟨ys, ds', hp1, hys, hl, ht⟩, x4, x5, x6, rfl⟩ ⟨t, x, y, rfl, nt, rfl, e1, e2⟩
    cases e1
    obtain ⟨d, hd, hsub⟩ := paired_get hp e2
    have hm := sizeL_mem (List.mem_of_getElem? hd)
    have g1 := gdL_iff.mp gd d (List.mem_of_getElem? hd)
    have npt : p ≠ t := ne_of_none hp1 nt
    have st2 := st.trans (Stp.new (M := [p]) (o := .tup [.int (i : Nat), y]) nt)
    -- the reading at this turn
    have rd1 : ∀ {H2}, Stp [p] (upd H p (.lst [])) H2 → RdAt C (p :: M) H2 o root F n := fun {H2} z => by
      have s3 : Same (off (p :: M) (upd H p (.lst []))) (off (p :: M) H2) := (z.mono (M' := p :: M) (by simp)).offs fun a ha => .inl ha
      exact ⟨ra1.al.stp z, ra1.fm.same s3, ra1.wf, ra1.n90⟩
    have hsub' : ∀ {H2}, Stp [p] (upd H p (.lst [])) H2 → Sub n (off (p :: M) H2) y d := fun {H2} z => by
      have s3 : Same (off (p :: M) (upd H p (.lst []))) (off (p :: M) H2) := (z.mono (M' := p :: M) (by simp)).offs fun a ha => .inl ha
      exact (hsub.same (off_also hp0)).same s3
    refine ⟨t, _, rfl, SqT.of upd_same, rfl, _, _, rfl, _, _, rfl, rfl, ?_⟩
    have sm1 := sm.trans (same_new nt (.tup [.int (i : Nat), y]))
    refine ⟨_, rfl, _, rfl, _, rfl, da, _, _, .str e, rfl, rfl, SqT.of (da' sm1), at_of (j := 1) rfl rfl, _, rfl, o, root, e, F, p :: M, y, d, rfl, rd1 st2, he, ⟨hsub' st2, g1, by omega⟩, fun v1 H2 s2 hv1 => ?_⟩
    have st3 := st2.trans (Stp.of_same s2)
    refine ⟨n + 3, .int (i : Nat), v1, rdSub F n e d, p :: M, rfl, (rd1 st3).al, hv1, rdSub_bad ra.wf g1 (by omega) ra.n90, fun v2 H3 s3 hv2 => ?_⟩
    have st4 := st3.trans (Stp.of_same s3)
    have sm3 := (sm1.trans s2).trans s3
    have hpH : H3 p = some (.lst ys) := s3 _ _ (s2 _ _ (by rw [upd_ne npt]; exact hp1))
    have hys3 : Paired (Rep (n + 3) (off (p :: M) H3)) ys ds' := paired_same hys (offs_same (((same_new nt _).trans s2).trans s3))
    have edrop : ds.drop i = d :: ds.drop (i + 1) := by
      obtain ⟨hlt, hge⟩ := List.getElem?_eq_some_iff.mp hd
      rw [List.drop_eq_getElem_cons hlt, hge]
    cases er2 : rdSub F n e d with
    | bad r pth =>
      rw [er2] at hv2
      obtain ⟨a', q', rfl, f1, f2⟩ := hv2
      refine ⟨_, rfl, a', _, _, .str "failure", rfl, rfl, SqT.of (off_at f1), at_of (j := 0) rfl rfl, rfl, _, rfl, ifT rfl ?_⟩
      refine ⟨_, rfl, q _ _ sm3 ?_⟩
      have et : (rdL (rdSub F n e) 0 ds).map D.lst = .bad r (.int (i : Nat) :: pth) := by
        rw [ht, edrop]
        unfold rdL
        rw [er2]
        rfl
      rw [et]
      exact ⟨a', q', rfl, off_less _ _ f1, off_less _ _ f2⟩
    | ok d2 =>
      rw [er2] at hv2
      obtain ⟨a', y2, rfl, f1, f2⟩ := hv2
      refine ⟨_, rfl, a', _, _, .str "value", rfl, rfl, SqT.of (off_at f1), at_of (j := 0) rfl rfl, rfl, _, rfl, ifF fail_ne ?_⟩
      have hyl : ys.length ≤ 100000 := by rw [hys.length, hl]; omega
      refine ⟨_, rfl, .inl ⟨rfl, _, SqL.of hpH⟩, _, rfl, a', _, _, y2, rfl, rfl, SqT.of (off_at f1), at_of (j := 1) rfl rfl, p, _, _, rfl, rfl, hpH, line_lt hyl, ?_⟩
      refine ⟨fun b u hb => ?_, st4.trans (Stp.put (by simp)), ⟨ys ++ [y2], ds' ++ [d2], upd_same, ?_, by simp [hl], ?_⟩, _, _, _, rfl⟩
      · rw [upd_ne (ne_of_none hb hp0)]
        exact sm3 _ _ hb
      · exact paired_same (paired_append hys3 (.cons f2 .nil)) off_put
      · rw [ht, edrop]
        conv => lhs; unfold rdL
        rw [er2]
        exact map_map_cons
  · rintro σ H1 ⟨sm, st, ⟨ys, ds', hp1, hys, hl, ht⟩, x4, x5, x6, rfl⟩
    refine ⟨_, rfl, by show 2 ≤ sizeLine; decide, fun t nt => ?_⟩
    have npt : p ≠ t := ne_of_none hp1 nt
    have sm2 := sm.trans (same_new nt (.tup [.str "value", .ref p]))
    refine q _ _ sm2 ?_
    have e0 : ds.drop us.length = [] := List.drop_eq_nil_of_le (by omega)
    rw [ht, e0]
    unfold rdL
    show RepRes (n + 4) _ _ (.ok (.lst (ds' ++ [])))
    rw [List.append_nil]
    refine ⟨t, .ref p, rfl, off_in ra.al (sm.free nt) upd_same, p, ys, rfl, off_in ra.al hp0 (by rw [upd_ne npt]; exact hp1), ?_⟩
    exact paired_same hys ((off_less).trans (offs_same (same_new nt _)))
end
end Ff
/-! The program, 4: reading records and choices. -/
namespace Ff
open PySem L2 C8
theorem repFd_three {G : Hp} {v : V} {f : Fd} (h : RepFd G v f) : ∃ z r, v = .ref z ∧ G z = some (.tup (.str f.nm :: .str f.ty :: .str (prS f.pr) :: r)) ∧ ∀ d, f.pr = .dft d → ∃ x, r = [x] ∧ Rep 3 G x d := by
  obtain ⟨a, e, h⟩ := h
  cases q : f.pr <;> rw [q] at h <;> dsimp only at h
  case dft d =>
    obtain ⟨x, h1, h2⟩ := h
    exact ⟨a, [x], e, h1, fun d' e' => by cases e'; exact ⟨x, rfl, h2⟩⟩
  all_goals exact ⟨a, [], e, h, fun d e' => by cases e'⟩
theorem req_str (p : Pr) : (V.str (prS p) = V.str "required") ↔ p = .req := by
  rw [vstr]
  cases p with
  | req => simp [prS]
  | opt => exact ⟨fun z => absurd z (by decide +kernel), fun z => by cases z⟩
  | mark => exact ⟨fun z => absurd z (by decide +kernel), fun z => by cases z⟩
  | dft d => exact ⟨fun z => absurd z (by show ¬ ("default" : Str) = "required"; decide +kernel), fun z => by cases z⟩
theorem dft_str (p : Pr) : (V.str (prS p) = V.str "default") ↔ (p = .mark ∨ ∃ d, p = .dft d) := by
  rw [vstr]
  cases p with
  | req => exact ⟨fun z => absurd z (by decide +kernel), fun z => by rcases z with z | ⟨_, z⟩ <;> cases z⟩
  | opt => exact ⟨fun z => absurd z (by decide +kernel), fun z => by rcases z with z | ⟨_, z⟩ <;> cases z⟩
  | mark => exact ⟨fun _ => .inl rfl, fun _ => rfl⟩
  | dft d => exact ⟨fun _ => .inr ⟨d, rfl⟩, fun _ => rfl⟩
theorem map_map_cons' {α : Type} {x : α} {pre : List α} {r : Res (List α)} : (r.map (x :: ·)).map (pre ++ ·) = r.map ((pre ++ [x]) ++ ·) := by
  cases r with
  | ok a => simp [Res.map]
  | bad r p => rfl
section
variable {P : Program} {w : World} {K : PySem.W.Frag} {mg : Str → Option Value} {base : Heap} {C kA : Addr}
def spRR (C : Addr) (n : Nat) : Sp := fun vs H Q _ => ∃ (o da b a : Addr) (root : Str) (F : Dfs) (M : List Addr) (xs : List V) (fs : List Fd) (kvs : List (Key × V)) (gs : List (Str × D)), vs = [.ref o, .ref da, .ref a] ∧ RdAt C M H o root F n ∧
  off M H da = some (.tup [.str "record", .ref b]) ∧ off M H b = some (.tup xs) ∧ Paired (RepFd (off M H)) xs fs ∧ (∀ f ∈ fs, (look F f.ty).isSome = true ∧ f.pr ≠ .mark) ∧ (fs.map (·.nm)).Nodup ∧ fs.length ≤ 3 ∧
  off M H a = some (.dK kvs) ∧ Paired (fun kv f => kv.1 = Sum.inr f.1 ∧ Sub n (off M H) kv.2 f.2) kvs gs ∧ (D.rcd gs).gd gB ∧ (D.rcd gs).size ≤ 100000 ∧
  ∀ v' H', Same H H' → RepRes (n + 4) (off M H') v' ((rdF (rdSub F n) gs fs).map .rcd) → Q v' H'
theorem ok_read_record {n : Nat} (h : Has K mg "read_record" s_read_record p_read_record) (T : Txt K mg C kA) (c_failed : Cal P w K mg base 1 "failed" spFailed []) (c_behind : Cal P w K mg base 2 "behind" spBehind [])
    (c_read_by : Cal P w K mg base (2 * n + 3) "read_by" (spRB C n) []) : Cal P w K mg base (2 * n + 4) "read_record" (spRR C n) [] := by
  refine h.cal sc_read_record (fun vs H Q E h => ?_) (fun f cdv A outer s H vs Q E hr h => ?_)
  · obtain ⟨o, da, b, a, root, F, M, xs, fs, kvs, gs, rfl, _⟩ := h
    rfl
  obtain ⟨o, da, b, a, root, F, M, xs, fs, kvs, gs, rfl, ra, hda, hb, hfs, hty, hnd, h3, ha, hp, gd, sz, q⟩ := h
  refine ⟨_, (pss_cons (ps_set (i := 3) sc_read_record.nd rfl (Or.inl rfl) pe_dnewK)
      (pss_cons (ps_for PassesOwn.never rfl (pi_tup (pe_ix ix_tup (pv 1) pe_int (fun _ _ => rfl))) (pg_name (i := 4) sc_read_record.nd rfl (Or.inl rfl))
        (pss_one (ps_if (pt_cmp (pc_din (hu_of hr) (pe_ix ix_tup (pv 4) pe_int (fun _ _ => rfl)) (pv 2))) (pss_cons (ps_set (i := 5) sc_read_record.nd rfl (Or.inl rfl) (pe_c c_behind hr (by omega) rfl (pa_cons (pe_ix ix_tup (pv 4) pe_int (fun _ _ => rfl)) (pa_cons (pe_c c_read_by hr (by omega) rfl (pa_cons (pv 0) (pa_cons (pe_ix ix_tup (pv 4) pe_int (fun _ _ => rfl)) (pa_cons (pe_dget (hu_of hr) (pv 2) (pe_ix ix_tup (pv 4) pe_int (fun _ _ => rfl)) (fun _ _ => rfl)) pa_nil)))) pa_nil))))
          (pss_cons (ps_if (pt_cmpR op_eq (pe_ix ix_tup (pv 5) pe_int (fun _ _ => rfl)) (pe_gc rfl T.v_FAILURE) (nomark _)) (pss_one (ps_ret (pv 5))) pss_nil)
          (pss_one (ps_dput (hu_of hr) (pv 3) (pe_ix ix_tup (pv 4) pe_int (fun _ _ => rfl)) (pe_ix ix_tup (pv 5) pe_int (fun _ _ => rfl)) rfl)))) (pss_one (ps_if (pt_cmpR op_eq (pe_ix ix_tup (pv 4) pe_int (fun _ _ => rfl)) (pe_gc rfl T.v_REQUIRED) (nomark _)) (pss_one (ps_ret (pe_c c_failed hr (by omega) rfl (pa_cons pe_str (pa_cons (pe_lst (pa_cons (pe_ix ix_tup (pv 4) pe_int (fun _ _ => rfl)) pa_nil)) pa_nil))))) (pss_one (ps_if (pt_cmpR op_eq (pe_ix ix_tup (pv 4) pe_int (fun _ _ => rfl)) (pe_gc rfl T.v_DEFAULT) (nomark _)) (pss_one (ps_dput (hu_of hr) (pv 3) (pe_ix ix_tup (pv 4) pe_int (fun _ _ => rfl)) (pe_ix ix_tup (pv 4) pe_int (fun _ _ => rfl)) rfl)) pss_nil)))))))
      (pss_one (ps_ret (pe_tup (pa_cons (pe_gc rfl T.v_VALUE) (pa_cons (pv 3) pa_nil))))))), ?_⟩
  simp only [D.size, D.gd] at sz gd
  have da' : ∀ {H'}, Same H H' → H' da = some (.tup [.str "record", .ref b]) := fun s => s _ _ (off_at hda)
  have hb' : ∀ {H'}, Same H H' → H' b = some (.tup xs) := fun s => s _ _ (off_at hb)
  have ha' : ∀ {H'}, Same H H' → H' a = some (.dK kvs) := fun s => s _ _ (off_at ha)
  refine fun p hp0 => ?_
  have ra1 : RdAt C (p :: M) (upd H p (.dK [])) o root F n := ra.also hp0
  have s1 := same_new hp0 (.dK ([] : List (Key × V)))
  refine ⟨_, rfl, da, _, _, .ref b, rfl, rfl, SqT.of (da' s1), at_of (j := 1) rfl rfl, b, rfl, ⟨_, SqT.of (hb' s1)⟩, ?_⟩
  refine for_tup (K := K) (a := b) (xs := xs) (fun i σ H' => Same H H' ∧ Stp [p] (upd H p (.dK [])) H' ∧ (∃ acc gs', H' p = some (.dK acc) ∧ Paired (RepF (n + 3) (off (p :: M) H')) acc gs' ∧ gs'.length ≤ i ∧ (∀ x ∈ gs'.map (·.1), x ∈ (fs.take i).map (·.nm)) ∧ (gs'.map (·.1)).Nodup ∧
      rdF (rdSub F n) gs fs = (rdF (rdSub F n) gs (fs.drop i)).map (gs' ++ ·)) ∧ ∃ x4 x5, σ = [some (.ref o), some (.ref da), some (.ref a), some (.ref p), x4, x5])
    ⟨s1, Stp.refl, ⟨[], [], upd_same, .nil, Nat.le_refl _, by simp, by simp, ?_⟩, _, _, rfl⟩ (fun i σ H' _ h => SqT.of (hb' h.1)) ?_ ?_
  · rw [List.drop_zero]
    cases rdF (rdSub F n) gs fs <;> rfl
  · rintro i x σ H1 hx ⟨sm, st, ⟨acc, gs', hp1, hac, hl, hsub, hnd', ht⟩, x4, x5, rfl⟩
    obtain ⟨f, hf, hrf⟩ := paired_get hfs hx
    obtain ⟨z, r, rfl, hz, hd⟩ := repFd_three hrf
    have hz' : ∀ {H'}, Same H H' → H' z = some (.tup (.str f.nm :: .str f.ty :: .str (prS f.pr) :: r)) := fun s => s _ _ (off_at hz)
    have hfm := List.mem_of_getElem? hf
    have ilen : i < fs.length := (List.getElem?_eq_some_iff.mp hf).1
    have edrop : fs.drop i = f :: fs.drop (i + 1) := by
      obtain ⟨hlt, hge⟩ := List.getElem?_eq_some_iff.mp hf
      rw [List.drop_eq_getElem_cons hlt, hge]
    have etake : (fs.take (i + 1)).map (·.nm) = (fs.take i).map (·.nm) ++ [f.nm] := by
      rw [List.take_add_one, hf]; simp
    have hnew : f.nm ∉ (fs.take i).map (·.nm) := by
      intro hm
      have : ((fs.take (i + 1)).map (·.nm)).Nodup := (hnd.sublist ((List.take_sublist _ _).map _))
      rw [etake] at this
      have := (List.nodup_append.mp this).2.2 _ hm _ (List.mem_singleton.mpr rfl)
      exact this rfl
    have hno : valV acc (Sum.inr f.nm) = none := by
      rcases look_val f.nm hac with ⟨_, e⟩ | ⟨_, _, e, _⟩
      · exact e
      · exact absurd (hsub _ (look_some.mp ⟨_, e⟩)) hnew
    have wider : ∀ x ∈ gs'.map (·.1), x ∈ (fs.take (i + 1)).map (·.nm) := fun x hx => by rw [etake]; exact List.mem_append_left _ (hsub x hx)
    have nd2 : ∀ d : D, ((gs' ++ [(f.nm, d)]).map (·.1)).Nodup := fun d => by
      rw [List.map_append]
      refine List.nodup_append.mpr ⟨hnd', by simp, ?_⟩
      rintro x hx y hy rfl
      simp at hy
      rw [hy] at hx
      exact hnew (hsub _ hx)
    have sub2 : ∀ d : D, ∀ x ∈ (gs' ++ [(f.nm, d)]).map (·.1), x ∈ (fs.take (i + 1)).map (·.nm) := fun d x hx => by
      rw [List.map_append] at hx
      rcases List.mem_append.mp hx with hx | hx
      · exact wider x hx
      · rw [etake]
        simp at hx
        rw [hx]; simp
    have accl : acc.length < sizeLine := line_lt (by rw [hac.length]; omega)
    refine ⟨_, rfl, z, _, _, .str f.nm, rfl, rfl, SqT.of (hz' sm), at_of (j := 0) rfl rfl, _, rfl, a, _, rfl, DGet.k (k := Sum.inr f.nm) (ha' sm), _, rfl, ?_⟩
    rcases look_val f.nm hp with ⟨e1, e2⟩ | ⟨y, d, e1, e2, hsb⟩
    · rw [e2]
      refine iteF ?_
      refine ⟨_, rfl, z, _, _, .str (prS f.pr), rfl, rfl, SqT.of (hz' sm), at_of (j := 2) rfl rfl, rfl, _, rfl, ifS (fun er => ?_) (fun er => ?_)⟩
      · -- a required field is missing
        have er := (req_str _).mp er
        refine ⟨_, rfl, z, _, _, .str f.nm, rfl, rfl, SqT.of (hz' sm), at_of (j := 0) rfl rfl, by show 1 ≤ sizeLine; decide, fun l hl => ?_⟩
        have sm1 := sm.trans (same_new hl (.lst [.str f.nm]))
        refine ⟨"missing field", l, _, M, rfl, ra.al.same sm1, upd_same, fun v' H' s2 hv => q v' H' (sm1.trans s2) ?_⟩
        have et : (rdF (rdSub F n) gs fs).map D.rcd = .bad "missing field" [.str f.nm] := by
          rw [ht, edrop]
          unfold rdF
          rw [e1]
          dsimp only
          rw [er]
          rfl
        rw [et]
        obtain ⟨a', q', g1, g2, g3⟩ := hv
        exact ⟨a', q', g1, g2, g3⟩
      · refine ⟨_, rfl, z, _, _, .str (prS f.pr), rfl, rfl, SqT.of (hz' sm), at_of (j := 2) rfl rfl, rfl, _, rfl, ifS (fun ed => ?_) (fun ed => ?_)⟩
        · -- a default is filled in
          rcases (dft_str _).mp ed with ed | ⟨dv, ed⟩
          · exact absurd ed (hty f hfm).2
          obtain ⟨y, rfl, hy⟩ := hd dv ed
          refine ⟨_, rfl, z, _, _, y, rfl, rfl, SqT.of (hz' sm), at_of (j := 3) rfl rfl, _, rfl, _, rfl, z, _, _, .str f.nm, rfl, rfl, SqT.of (hz' sm), at_of (j := 0) rfl rfl, p, _, rfl, DPut.k (k := Sum.inr f.nm) hp1 accl, ?_⟩
          refine ⟨fun b u hb => by rw [upd_ne (ne_of_none hb hp0)]; exact sm _ _ hb, st.trans (Stp.put (by simp)), ⟨_, gs' ++ [(f.nm, dv)], upd_same, ?_, by simp; omega, sub2 dv, nd2 dv, ?_⟩, _, _, rfl⟩
          · rw [putK_new _ hno]
            refine pairedF_same (paired_append hac (.cons ⟨rfl, ?_⟩ .nil)) off_put
            have s3 : Same (off (p :: M) (upd H p (.dK []))) (off (p :: M) H1) := (st.mono (M' := p :: M) (by simp)).offs fun a ha => .inl ha
            exact ((hy.mono (by omega : 3 ≤ n + 3)).same (off_also hp0)).same s3
          · rw [ht, edrop]
            conv => lhs; unfold rdF
            rw [e1]
            dsimp only
            rw [ed]
            exact map_map_cons'
        · -- an optional field stays missing
          have eo : f.pr = .opt := by
            cases h9 : f.pr with
            | req => exact absurd ((req_str _).mpr h9) er
            | opt => rfl
            | mark => exact absurd ((dft_str _).mpr (.inl h9)) ed
            | dft d => exact absurd ((dft_str _).mpr (.inr ⟨d, h9⟩)) ed
          refine ⟨sm, st, ⟨acc, gs', hp1, hac, by omega, wider, hnd', ?_⟩, _, _, rfl⟩
          rw [ht, edrop]
          conv => lhs; unfold rdF
          rw [e1]
          dsimp only
          rw [eo]
    · rw [e2]
      refine iteT ?_
      have hm := sizeF_mem (look_mem e1)
      have g1 := (gdF_iff.mp gd _ (look_mem e1)).2
      have hgl := hp.length
      have rd1 : ∀ {H2}, Stp [p] (upd H p (.dK [])) H2 → RdAt C (p :: M) H2 o root F n := fun {H2} z => by
        have s3 : Same (off (p :: M) (upd H p (.dK []))) (off (p :: M) H2) := (z.mono (M' := p :: M) (by simp)).offs fun a ha => .inl ha
        exact ⟨ra1.al.stp z, ra1.fm.same s3, ra1.wf, ra1.n90⟩
      have s3 : Same (off (p :: M) (upd H p (.dK []))) (off (p :: M) H1) := (st.mono (M' := p :: M) (by simp)).offs fun a ha => .inl ha
      refine ⟨_, rfl, z, _, _, .str f.nm, rfl, rfl, SqT.of (hz' sm), at_of (j := 0) rfl rfl, _, rfl, _, rfl, z, _, _, .str f.ty, rfl, rfl, SqT.of (hz' sm), at_of (j := 1) rfl rfl,
        _, rfl, _, rfl, z, _, _, .str f.nm, rfl, rfl, SqT.of (hz' sm), at_of (j := 0) rfl rfl, a, y, rfl, e2 ▸ DGet.k (k := Sum.inr f.nm) (ha' sm),
        o, root, f.ty, F, p :: M, y, d, rfl, rd1 st, (hty f hfm).1, ⟨(hsb.same (off_also hp0)).same s3, g1, by have : d.size ≤ sizeF gs := hm; omega⟩, fun v1 H2 s2 hv1 => ?_⟩
      have st3 := st.trans (Stp.of_same s2)
      refine ⟨n + 3, .str f.nm, v1, rdSub F n f.ty d, p :: M, rfl, (rd1 st3).al, hv1, rdSub_bad ra.wf g1 (by have : d.size ≤ sizeF gs := hm; omega) ra.n90, fun v2 H3 s4 hv2 => ?_⟩
      have st4 := st3.trans (Stp.of_same s4)
      have sm3 := (sm.trans s2).trans s4
      have hpH : H3 p = some (.dK acc) := s4 _ _ (s2 _ _ hp1)
      have hac3 := pairedF_same hac (offs_same (M := p :: M) (s2.trans s4))
      cases er2 : rdSub F n f.ty d with
      | bad r' pth =>
        rw [er2] at hv2
        obtain ⟨a', q', rfl, f1, f2⟩ := hv2
        refine ⟨_, rfl, a', _, _, .str "failure", rfl, rfl, SqT.of (off_at f1), at_of (j := 0) rfl rfl, rfl, _, rfl, ifT rfl ?_⟩
        refine ⟨_, rfl, q _ _ sm3 ?_⟩
        have et : (rdF (rdSub F n) gs fs).map D.rcd = .bad r' (.str f.nm :: pth) := by
          rw [ht, edrop]
          unfold rdF
          rw [e1]
          dsimp only
          rw [er2]
          rfl
        rw [et]
        exact ⟨a', q', rfl, off_less _ _ f1, off_less _ _ f2⟩
      | ok d2 =>
        rw [er2] at hv2
        obtain ⟨a', y2, rfl, f1, f2⟩ := hv2
        refine ⟨_, rfl, a', _, _, .str "value", rfl, rfl, SqT.of (off_at f1), at_of (j := 0) rfl rfl, rfl, _, rfl, ifF fail_ne ?_⟩
        refine ⟨_, rfl, a', _, _, y2, rfl, rfl, SqT.of (off_at f1), at_of (j := 1) rfl rfl, _, rfl, _, rfl, z, _, _, .str f.nm, rfl, rfl, SqT.of (hz' sm3), at_of (j := 0) rfl rfl, p, _, rfl, DPut.k (k := Sum.inr f.nm) hpH accl, ?_⟩
        refine ⟨fun b u hb => by rw [upd_ne (ne_of_none hb hp0)]; exact sm3 _ _ hb, st4.trans (Stp.put (by simp)), ⟨_, gs' ++ [(f.nm, d2)], upd_same, ?_, by simp; omega, sub2 d2, nd2 d2, ?_⟩, _, _, rfl⟩
        · rw [putK_new _ hno]
          exact pairedF_same (paired_append hac3 (.cons ⟨rfl, f2⟩ .nil)) off_put
        · rw [ht, edrop]
          conv => lhs; unfold rdF
          rw [e1]
          dsimp only
          rw [er2]
          exact map_map_cons'
  · rintro σ H1 ⟨sm, st, ⟨acc, gs', hp1, hac, hl, hsub, hnd', ht⟩, x4, x5, rfl⟩
    refine ⟨_, rfl, by show 2 ≤ sizeLine; decide, fun t nt => ?_⟩
    have npt : p ≠ t := ne_of_none hp1 nt
    have sm2 := sm.trans (same_new nt (.tup [.str "value", .ref p]))
    refine q _ _ sm2 ?_
    have e0 : fs.drop xs.length = [] := List.drop_eq_nil_of_le (by rw [hfs.length]; exact Nat.le_refl _)
    rw [ht, e0]
    unfold rdF
    show RepRes (n + 4) _ _ (.ok (.rcd (gs' ++ [])))
    rw [List.append_nil]
    refine ⟨t, .ref p, rfl, off_in ra.al (sm.free nt) upd_same, p, acc, rfl, off_in ra.al hp0 (by rw [upd_ne npt]; exact hp1), ⟨hnd', by have := hfs.length; omega⟩, ?_⟩
    exact pairedF_same hac ((off_less).trans (offs_same (same_new nt _)))
end
end Ff
/-! The program, 5: reading choices, read_by, read. -/
namespace Ff
open PySem L2 C8
theorem non_str {s : Str} : ¬ (V.str s = V.non) := fun z => nomatch z
theorem non_ref {a : Addr} : ¬ (V.ref a = V.non) := fun z => nomatch z
theorem rep_not_non {n : Nat} {G : Hp} {v : V} {d : D} (h : Rep n G v d) : ¬ (v = V.non) := by
  rw [rep_eq] at h
  intro e
  subst e
  cases d with
  | int i => exact nomatch (show V.non = V.int i from h)
  | str s => exact nomatch (show V.non = V.str s from h)
  | lst ds => obtain ⟨a, _, e, _⟩ := h; exact nomatch e
  | rcd fs => obtain ⟨a, _, e, _⟩ := h; exact nomatch e
  | cho t x => obtain ⟨a, _, e, _⟩ := h; exact nomatch e
section
variable {P : Program} {w : World} {K : PySem.W.Frag} {mg : Str → Option Value} {base : Heap} {C kA : Addr}
def resFb : Fb → Res D
  | .val d => .ok d
  | _ => .bad "unknown tag" []
def resC (F : Dfs) (n : Nat) (cs : List (Str × Str)) (fb : Fb) (t : Str) (x : D) : Res D :=
  match look cs t with
  | some ty => ((rdSub F n ty x).under (.str ("$" ++ t))).map (.cho t)
  | none => resFb fb
def spRC (C : Addr) (n : Nat) : Sp := fun vs H Q _ => ∃ (o da b a : Addr) (root : Str) (F : Dfs) (M : List Addr) (xs : List V) (cs : List (Str × Str)) (fb : Fb) (y u : V) (t : Str) (x : D), vs = [.ref o, .ref da, .ref a] ∧ RdAt C M H o root F n ∧
  off M H da = some (.tup [.str "choice", .ref b, y]) ∧ off M H b = some (.tup xs) ∧ Paired (RepCs (off M H)) xs cs ∧ RepFb (off M H) y fb ∧ (∀ c ∈ cs, (look F c.2).isSome = true) ∧ fb ≠ .mark ∧
  off M H a = some (.tup [.str t, u]) ∧ Sub n (off M H) u x ∧ (D.cho t x).gd gB ∧ (D.cho t x).size ≤ 100000 ∧
  ∀ v' H', Same H H' → RepRes (n + 4) (off M H') v' (resC F n cs fb t x) → Q v' H'
theorem ok_read_choice {n : Nat} (h : Has K mg "read_choice" s_read_choice p_read_choice) (T : Txt K mg C kA) (c_case_of : Cal P w K mg base 1 "case_of" spCase []) (c_failed : Cal P w K mg base 1 "failed" spFailed []) (c_behind : Cal P w K mg base 2 "behind" spBehind [])
    (c_read_by : Cal P w K mg base (2 * n + 3) "read_by" (spRB C n) []) : Cal P w K mg base (2 * n + 4) "read_choice" (spRC C n) [] := by
  refine h.cal sc_read_choice (fun vs H Q E h => ?_) (fun f cdv A outer s H vs Q E hr h => ?_)
  · obtain ⟨o, da, b, a, root, F, M, xs, cs, fb, y, u, t, x, rfl, _⟩ := h
    rfl
  obtain ⟨o, da, b, a, root, F, M, xs, cs, fb, y, u, t, x, rfl, ra, hda, hb, hcs, hfb, hty, hnm, ha, hsb, gd, sz, q⟩ := h
  refine ⟨_, (pss_cons (ps_set (i := 3) sc_read_choice.nd rfl (Or.inl rfl) (pe_c c_case_of hr (by omega) rfl (pa_cons (pv 1) (pa_cons (pe_ix ix_tup (pv 2) pe_int (fun _ _ => rfl)) pa_nil))))
      (pss_cons (ps_if (pt_cmpR op_notN (pv 3) pe_non (nomark _)) (pss_cons (ps_set (i := 4) sc_read_choice.nd rfl (Or.inl rfl) (pe_c c_behind hr (by omega) rfl (pa_cons (pe_op op_add_str pe_str (pe_ix ix_tup (pv 2) pe_int (fun _ _ => rfl))) (pa_cons (pe_c c_read_by hr (by omega) rfl (pa_cons (pv 0) (pa_cons (pv 3) (pa_cons (pe_ix ix_tup (pv 2) pe_int (fun _ _ => rfl)) pa_nil)))) pa_nil))))
        (pss_cons (ps_if (pt_cmpR op_eq (pe_ix ix_tup (pv 4) pe_int (fun _ _ => rfl)) (pe_gc rfl T.v_FAILURE) (nomark _)) (pss_one (ps_ret (pv 4))) pss_nil)
        (pss_one (ps_ret (pe_tup (pa_cons (pe_gc rfl T.v_VALUE) (pa_cons (pe_tup (pa_cons (pe_ix ix_tup (pv 2) pe_int (fun _ _ => rfl)) (pa_cons (pe_ix ix_tup (pv 4) pe_int (fun _ _ => rfl)) pa_nil))) pa_nil))))))) pss_nil)
      (pss_cons (ps_if (pt_cmpR op_isN (pe_ix ix_tup (pv 1) pe_int (fun _ _ => rfl)) pe_non (nomark _)) (pss_one (ps_ret (pe_c c_failed hr (by omega) rfl (pa_cons pe_str (pa_cons (pe_lst pa_nil) pa_nil))))) pss_nil)
      (pss_one (ps_ret (pe_tup (pa_cons (pe_gc rfl T.v_VALUE) (pa_cons (pe_ix ix_tup (pv 1) pe_int (fun _ _ => rfl)) pa_nil)))))))), ?_⟩
  simp only [D.size, D.gd] at sz gd
  have da' : ∀ {H'}, Same H H' → H' da = some (.tup [.str "choice", .ref b, y]) := fun s => s _ _ (off_at hda)
  have ha' : ∀ {H'}, Same H H' → H' a = some (.tup [.str t, u]) := fun s => s _ _ (off_at ha)
  have sm0 := Same.refl H
  refine ⟨_, rfl, _, rfl, a, _, _, .str t, rfl, rfl, SqT.of (ha' sm0), at_of (j := 0) rfl rfl, da, b, y, xs, cs, t, rfl, da' sm0, off_at hb, L2.Paired.mapP hcs fun _ _ z => z.same off_full, fun ty hl => ?_, fun hl => ?_⟩
  · refine ⟨_, rfl, rfl, _, rfl, ifNT non_str ?_⟩
    have g1 := gd.1.1
    have hm : (look F ty).isSome = true := hty _ (look_mem hl)
    refine ⟨_, rfl, a, _, _, .str t, rfl, rfl, SqT.of (ha' sm0), at_of (j := 0) rfl rfl, "$", t, rfl, rfl, ?_, _, rfl, _, rfl, _, rfl, a, _, _, u, rfl, rfl, SqT.of (ha' sm0), at_of (j := 1) rfl rfl, o, root, ty, F, M, u, x, rfl, ra, hm, ⟨hsb, gd.2, by omega⟩, fun v1 H2 s2 hv1 => ?_⟩
    · have e1 : ("$" : Str).length = 1 := by decide +kernel
      rw [e1]
      exact line_small (by omega)
    refine ⟨n + 3, _, v1, rdSub F n ty x, M, rfl, (ra.same s2).al, hv1, rdSub_bad ra.wf gd.2 (by omega) ra.n90, fun v2 H3 s4 hv2 => ?_⟩
    have sm3 := s2.trans s4
    have er : resC F n cs fb t x = ((rdSub F n ty x).under (.str ("$" ++ t))).map (.cho t) := by
      unfold resC
      rw [hl]
    rw [er] at q
    cases er2 : rdSub F n ty x with
    | bad r' pth =>
      rw [er2] at hv2 q
      obtain ⟨a', q', rfl, f1, f2⟩ := hv2
      refine ⟨_, rfl, a', _, _, .str "failure", rfl, rfl, SqT.of (off_at f1), at_of (j := 0) rfl rfl, rfl, _, rfl, ifT rfl ?_⟩
      exact ⟨_, rfl, q _ _ sm3 ⟨a', q', rfl, f1, f2⟩⟩
    | ok d2 =>
      rw [er2] at hv2 q
      obtain ⟨a', y2, rfl, f1, f2⟩ := hv2
      refine ⟨_, rfl, a', _, _, .str "value", rfl, rfl, SqT.of (off_at f1), at_of (j := 0) rfl rfl, rfl, _, rfl, ifF fail_ne ?_⟩
      refine ⟨_, rfl, a, _, _, .str t, rfl, rfl, SqT.of (ha' sm3), at_of (j := 0) rfl rfl, _, rfl, a', _, _, y2, rfl, rfl, SqT.of (off_at f1), at_of (j := 1) rfl rfl, by show 2 ≤ sizeLine; decide, fun t1 n1 => ⟨by show 2 ≤ sizeLine; decide, fun t2 n2 => ?_⟩⟩
      have s5 := same_new n1 (.tup [.str t, y2])
      have s6 := same_new n2 (.tup [.str "value", .ref t1])
      have n12 : t1 ≠ t2 := ne_of_none upd_same n2
      refine q _ _ ((sm3.trans s5).trans s6) ⟨t2, .ref t1, rfl, off_in ra.al (((sm3.trans s5)).free n2) upd_same, t1, y2, rfl, off_in ra.al (sm3.free n1) (by rw [upd_ne n12, upd_same]), ?_⟩
      exact f2.same (offs_same (s5.trans s6))
  · refine ⟨_, rfl, rfl, _, rfl, ifNF rfl ?_⟩
    have er : resC F n cs fb t x = resFb fb := by
      unfold resC
      rw [hl]
    rw [er] at q
    refine ⟨_, rfl, da, _, _, y, rfl, rfl, SqT.of (da' sm0), at_of (j := 2) rfl rfl, rfl, _, rfl, ?_⟩
    cases fb with
    | mark => exact absurd rfl hnm
    | non =>
      obtain rfl : y = .non := hfb
      refine ifT rfl ?_
      refine ⟨by show 0 ≤ sizeLine; decide, fun l hl => ?_⟩
      refine ⟨"unknown tag", l, [], M, rfl, ra.al.same (same_new hl _), upd_same, fun v' H' s2 hv => q v' H' ((same_new hl _).trans s2) ?_⟩
      obtain ⟨a', q', e1, e2, e3⟩ := hv
      exact ⟨a', q', e1, e2, e3⟩
    | val d =>
      refine ifF (rep_not_non hfb) ?_
      refine ⟨_, rfl, da, _, _, y, rfl, rfl, SqT.of (da' sm0), at_of (j := 2) rfl rfl, by show 2 ≤ sizeLine; decide, fun t1 n1 => ?_⟩
      have s5 := same_new n1 (.tup [.str "value", y])
      have hfb' : Rep 3 (off M H) y d := hfb
      exact q _ _ s5 ⟨t1, y, rfl, off_in ra.al n1 upd_same, (hfb'.mono (by omega)).same (offs_same s5)⟩

/-! ### read_by -/
def dfS : Df → Str
  | .any => "any"
  | .int _ _ => "integer"
  | .txt _ => "text"
  | .lst _ _ _ => "list"
  | .rcd _ => "record"
  | .cho _ _ => "choice"
theorem repDf_head {G : Hp} {v : V} {df : Df} (h : RepDf G v df) : ∃ a r, v = .ref a ∧ G a = some (.tup (.str (dfS df) :: r)) := by
  obtain ⟨a, e, h⟩ := h
  cases df <;> dsimp only at h
  case any => exact ⟨a, _, e, h⟩
  case int lo hi => exact ⟨a, _, e, h⟩
  case txt n => exact ⟨a, _, e, h⟩
  case lst x lo hi => exact ⟨a, _, e, h⟩
  case rcd fs => obtain ⟨b, xs, h, _⟩ := h; exact ⟨a, _, e, h⟩
  case cho cs fb => obtain ⟨b, xs, y, h, _⟩ := h; exact ⟨a, _, e, h⟩
def ks : Nat → Str
  | 0 => "integer"
  | 1 => "text"
  | 2 => "list"
  | 3 => "record"
  | 4 => "choice"
  | _ => "any"
theorem ks_inj : ∀ i j : _root_.Fin 6, ks i = ks j → i = j := by decide +kernel
def kdN : D → _root_.Fin 6
  | .int _ => 0
  | .str _ => 1
  | .lst _ => 2
  | .rcd _ => 3
  | .cho _ _ => 4
def dfN : Df → _root_.Fin 6
  | .int _ _ => 0
  | .txt _ => 1
  | .lst _ _ _ => 2
  | .rcd _ => 3
  | .cho _ _ => 4
  | .any => 5
theorem df_any {df : Df} (h : dfS df = "any") : df = .any := by
  have h2 : dfS df = ks (dfN df) := by cases df <;> rfl
  have h3 := ks_inj (dfN df) 5 (by rw [← h2]; exact h)
  cases df <;> first | rfl | exact absurd h3 (by simp [dfN])
theorem kind_tag {d : D} {df : Df} (h : kindS d = dfS df) : kdN d = dfN df := by
  refine ks_inj _ _ ?_
  have h1 : kindS d = ks (kdN d) := by cases d <;> rfl
  have h2 : dfS df = ks (dfN df) := by cases df <;> rfl
  rw [← h1, ← h2]
  exact h
theorem spell : ("any" : Str) ≠ "integer" ∧ ("integer" : Str) ≠ "text" ∧ ("integer" : Str) ≠ "list" ∧ ("integer" : Str) ≠ "record" ∧ ("integer" : Str) ≠ "choice" ∧ ("text" : Str) ≠ "list" ∧ ("text" : Str) ≠ "record" ∧ ("text" : Str) ≠ "choice" ∧ ("list" : Str) ≠ "record" ∧ ("list" : Str) ≠ "choice" ∧ ("record" : Str) ≠ "choice" ∧
    ("integer" : Str) ≠ "any" ∧ ("text" : Str) ≠ "any" ∧ ("list" : Str) ≠ "any" ∧ ("record" : Str) ≠ "any" ∧ ("choice" : Str) ≠ "any" := by decide +kernel
theorem ok_read_by_succ {n : Nat} (h : Has K mg "read_by" s_read_by p_read_by) (T : Txt K mg C kA) (m_of : Met P w K mg base 1 C "of" (spOf C) []) (c_is_kind : Cal P w K mg base 2 "is_kind" spIsKind []) (c_failed : Cal P w K mg base 1 "failed" spFailed [])
    (c_read_list : Cal P w K mg base (2 * n + 4) "read_list" (spRL C n) []) (c_read_record : Cal P w K mg base (2 * n + 4) "read_record" (spRR C n) []) (c_read_choice : Cal P w K mg base (2 * n + 4) "read_choice" (spRC C n) []) :
    Cal P w K mg base (2 * n + 5) "read_by" (spRB C (n + 1)) [] := by
  refine h.cal sc_read_by (fun vs H Q E h => ?_) (fun f cdv A outer s H vs Q E hr h => ?_)
  · obtain ⟨o, root, nm, F, M, v, d, rfl, _⟩ := h
    rfl
  obtain ⟨o, root, nm, F, M, v, d, rfl, ra, hl, hv, q⟩ := h
  have hr2 : Rep n (off M H) v d := hv.sb
  have hrf : Rep n H v d := hr2.same off_full
  refine ⟨_, (pss_cons (ps_set (i := 3) sc_read_by.nd rfl (Or.inl rfl) (pe_mt m_of hr (by omega) (pv 0) (pa_cons (pv 1) pa_nil)))
      (pss_cons (ps_if (pt_cmpR op_eq (pe_ix ix_tup (pv 3) pe_int (fun _ _ => rfl)) pe_str (nomark _)) (pss_one (ps_ret (pe_tup (pa_cons (pe_gc rfl T.v_VALUE) (pa_cons (pv 2) pa_nil))))) pss_nil)
      (pss_cons (ps_if (pt_not (pt_val (pe_c c_is_kind hr (by omega) rfl (pa_cons (pv 3) (pa_cons (pv 2) pa_nil))))) (pss_one (ps_ret (pe_c c_failed hr (by omega) rfl (pa_cons pe_str (pa_cons (pe_lst pa_nil) pa_nil))))) pss_nil)
      (pss_cons (ps_if (pt_cmpR op_eq (pe_ix ix_tup (pv 3) pe_int (fun _ _ => rfl)) pe_str (nomark _)) (pss_one (ps_ret (pe_c c_read_list hr (by omega) rfl (pa_cons (pv 0) (pa_cons (pv 3) (pa_cons (pv 2) pa_nil)))))) pss_nil)
      (pss_cons (ps_if (pt_cmpR op_eq (pe_ix ix_tup (pv 3) pe_int (fun _ _ => rfl)) pe_str (nomark _)) (pss_one (ps_ret (pe_c c_read_record hr (by omega) rfl (pa_cons (pv 0) (pa_cons (pv 3) (pa_cons (pv 2) pa_nil)))))) pss_nil)
      (pss_cons (ps_if (pt_cmpR op_eq (pe_ix ix_tup (pv 3) pe_int (fun _ _ => rfl)) pe_str (nomark _)) (pss_one (ps_ret (pe_c c_read_choice hr (by omega) rfl (pa_cons (pv 0) (pa_cons (pv 3) (pa_cons (pv 2) pa_nil)))))) pss_nil)
      (pss_cons (ps_if (PW.pt (pw_and (pt_cmpR op_eq (pe_ix ix_tup (pv 3) pe_int (fun _ _ => rfl)) pe_str (nomark _)) (pw_and1 (pt_not (pt_chain op_le op_le (pe_ix ix_tup (pv 3) pe_int (fun _ _ => rfl)) (pv 2) (pe_ix ix_tup (pv 3) pe_int (fun _ _ => rfl))))))) (pss_one (ps_ret (pe_c c_failed hr (by omega) rfl (pa_cons pe_str (pa_cons (pe_lst pa_nil) pa_nil))))) pss_nil)
      (pss_cons (ps_if (PW.pt (pw_and (pt_cmpR op_eq (pe_ix ix_tup (pv 3) pe_int (fun _ _ => rfl)) pe_str (nomark _)) (pw_and1 (pt_cmpR op_gt (pe_callB call_len_str rfl T.z_len (by decide +kernel) (pa_cons (pv 2) pa_nil)) (pe_ix ix_tup (pv 3) pe_int (fun _ _ => rfl)) (nomark _))))) (pss_one (ps_ret (pe_c c_failed hr (by omega) rfl (pa_cons pe_str (pa_cons (pe_lst pa_nil) pa_nil))))) pss_nil)
      (pss_one (ps_ret (pe_tup (pa_cons (pe_gc rfl T.v_VALUE) (pa_cons (pv 2) pa_nil))))))))))))), ?_⟩
  obtain ⟨df, hdf⟩ := Option.isSome_iff_exists.mp hl
  have q : ∀ v' H', Same H H' → RepRes (n + 4) (off M H') v' (rdStep F (rdSub F n) nm d) → Q v' H' := fun v' H' s hres => q v' H' s (by show RepRes _ _ _ (rd F n nm d); rw [rd_eq]; exact hres)
  have ho := ra.fm
  obtain ⟨dx, dd, ho1, _⟩ := id ho
  refine ⟨_, rfl, o, dx, _, rfl, off_at ho1, flF_of _ _, _, rfl, o, root, nm, F, M, rfl, ho, df, hdf, fun vd hvd => ?_⟩
  obtain ⟨a, r, rfl, hda⟩ := repDf_head hvd
  have da' : ∀ {H'}, Same H H' → H' a = some (.tup (.str (dfS df) :: r)) := fun s => s _ _ (off_at hda)
  have sm0 := Same.refl H
  have wf := ra.wf
  have ra0 : RdAt C M H o root F n := ⟨ra.al, ra.fm, ra.wf, by have := ra.n90; omega⟩
  have back : ∀ {N : Ends} {σ : L2.St}, N.rt = Q → σ = [some (.ref o), some (.str nm), some v, some (.ref a)] → (rdStep F (rdSub F n) nm d = .ok d) → tRet (tTup (tCons (tC (.str "value")) (tCons (tVar 2) tNil))) N σ H := by
    rintro N σ rfl rfl e
    refine ⟨_, rfl, by show 2 ≤ sizeLine; decide, fun t nt => ?_⟩
    have s1 := same_new nt (.tup [.str "value", v])
    refine q _ _ s1 ?_
    rw [e]
    exact ⟨t, v, rfl, off_in ra.al nt upd_same, (hr2.mono (by omega)).same (offs_same s1)⟩
  have fails : ∀ {N : Ends} {σ : L2.St} {x : Str}, N.rt = Q → (rdStep F (rdSub F n) nm d = .bad x []) → tRet (tCall spFailed [] C8.E0 (tCons (tC (.str x)) (tCons (tLst tNil) tNil))) N σ H := by
    rintro N σ x rfl e
    refine ⟨by show 0 ≤ sizeLine; decide, fun l hl => ?_⟩
    refine ⟨x, l, [], M, rfl, ra.al.same (same_new hl _), upd_same, fun v' H' s2 hv => q v' H' ((same_new hl _).trans s2) ?_⟩
    rw [e]
    obtain ⟨a', q', e1, e2, e3⟩ := hv
    exact ⟨a', q', e1, e2, e3⟩
  refine ⟨_, rfl, a, _, _, .str (dfS df), rfl, rfl, SqT.of (da' sm0), at_of (j := 0) rfl rfl, rfl, _, rfl, ?_⟩
  by_cases hany : dfS df = "any"
  · refine ifT (vstr.mpr hany) ?_
    refine back rfl rfl ?_
    unfold rdStep
    rw [hdf]
    rw [df_any hany]
  refine ifF (fun z => hany (vstr.mp z)) ?_
  refine ⟨_, rfl, _, rfl, n, a, _, r, v, d, rfl, da' sm0, hrf, _, rfl, ?_⟩
  by_cases hk : kindS d = dfS df
  case neg =>
    refine ifNT hk ?_
    refine fails rfl ?_
    unfold rdStep
    rw [hdf]
    cases df <;> cases d <;> first | rfl | exact absurd rfl hk | exact absurd rfl hany
  refine ifNF hk ?_
  obtain ⟨sp1, sp2, sp3, sp4, sp5, sp6, sp7, sp8, sp9, sp10, sp11, _⟩ := spell
  -- the four tests of the kind
  have nx : ∀ {x : Str}, ¬ dfS df = x → ¬ V.str (dfS df) = V.str x := fun h => ne_str h
  rw [rep_eq] at hr2
  cases df with
  | any => exact absurd rfl hany
  | int lo hi =>
    cases d with
    | int i =>
      obtain ⟨a1, e1, h1⟩ := hvd
      cases e1
      have hx : V.int i = v := Eq.symm hr2
      subst hx
      refine ⟨_, rfl, a, _, _, .str "integer", rfl, rfl, SqT.of (da' sm0), at_of (j := 0) rfl rfl, rfl, _, rfl, ifF (ne_str sp3) ?_⟩
      refine ⟨_, rfl, a, _, _, .str "integer", rfl, rfl, SqT.of (da' sm0), at_of (j := 0) rfl rfl, rfl, _, rfl, ifF (ne_str sp4) ?_⟩
      refine ⟨_, rfl, a, _, _, .str "integer", rfl, rfl, SqT.of (da' sm0), at_of (j := 0) rfl rfl, rfl, _, rfl, ifF (ne_str sp5) ?_⟩
      refine ⟨_, rfl, a, _, _, .str "integer", rfl, rfl, SqT.of (da' sm0), at_of (j := 0) rfl rfl, rfl, _, rfl, ifT rfl ?_⟩
      refine ⟨_, rfl, a, _, _, .int lo, rfl, rfl, SqT.of (off_at h1), at_of (j := 1) rfl rfl, _, rfl, lo, i, rfl, rfl, _, rfl, ?_⟩
      have er : rdStep F (rdSub F n) nm (.int i) = if lo ≤ i ∧ i ≤ hi then .ok (.int i) else .bad "out of range" [] := by
        unfold rdStep
        rw [hdf]
      by_cases c1 : lo ≤ i
      case neg =>
        refine ifF c1 ⟨_, rfl, ?_⟩
        exact fails rfl (by rw [er, if_neg (fun z => c1 z.1)])
      refine ifT c1 ⟨_, rfl, a, _, _, .int hi, rfl, rfl, SqT.of (off_at h1), at_of (j := 2) rfl rfl, i, hi, rfl, rfl, _, rfl, ?_⟩
      by_cases c2 : i ≤ hi
      case neg =>
        refine ifNT c2 ?_
        exact fails rfl (by rw [er, if_neg (fun z => c2 z.2)])
      refine ifNF c2 ?_
      refine ⟨_, rfl, a, _, _, .str "integer", rfl, rfl, SqT.of (da' sm0), at_of (j := 0) rfl rfl, rfl, _, rfl, ifF (ne_str sp2) ?_⟩
      exact back rfl rfl (by rw [er, if_pos ⟨c1, c2⟩])
    | _ => exact absurd (kind_tag hk) (by simp [kdN, dfN])
  | txt m =>
    cases d with
    | str x =>
      obtain ⟨a1, e1, h1⟩ := hvd
      cases e1
      have hx : V.str x = v := Eq.symm hr2
      subst hx
      have hz := hv.sz
      simp only [D.size] at hz
      refine ⟨_, rfl, a, _, _, .str "text", rfl, rfl, SqT.of (da' sm0), at_of (j := 0) rfl rfl, rfl, _, rfl, ifF (ne_str sp6) ?_⟩
      refine ⟨_, rfl, a, _, _, .str "text", rfl, rfl, SqT.of (da' sm0), at_of (j := 0) rfl rfl, rfl, _, rfl, ifF (ne_str sp7) ?_⟩
      refine ⟨_, rfl, a, _, _, .str "text", rfl, rfl, SqT.of (da' sm0), at_of (j := 0) rfl rfl, rfl, _, rfl, ifF (ne_str sp8) ?_⟩
      refine ⟨_, rfl, a, _, _, .str "text", rfl, rfl, SqT.of (da' sm0), at_of (j := 0) rfl rfl, rfl, _, rfl, ifF (ne_str sp2.symm) ?_⟩
      refine ⟨_, rfl, a, _, _, .str "text", rfl, rfl, SqT.of (da' sm0), at_of (j := 0) rfl rfl, rfl, _, rfl, ifT rfl ?_⟩
      refine ⟨_, rfl, x, rfl, line_small (by omega), _, rfl, a, _, _, .int m, rfl, rfl, SqT.of (off_at h1), at_of (j := 1) rfl rfl, _, _, rfl, rfl, _, rfl, ifS (fun c => ?_) (fun c => ?_)⟩
      · refine fails rfl ?_
        unfold rdStep
        rw [hdf]
        dsimp only
        rw [if_pos c]
      · refine back rfl rfl ?_
        unfold rdStep
        rw [hdf]
        dsimp only
        rw [if_neg c]
    | _ => exact absurd (kind_tag hk) (by simp [kdN, dfN])
  | lst e lo hi =>
    cases d with
    | lst ds =>
      obtain ⟨a1, e1, h1⟩ := hvd
      cases e1
      obtain ⟨b, us, rfl, hb, hp⟩ := hr2
      refine ⟨_, rfl, a, _, _, .str "list", rfl, rfl, SqT.of (da' sm0), at_of (j := 0) rfl rfl, rfl, _, rfl, ifT rfl ?_⟩
      have := wf.ty nm _ hdf
      exact ⟨_, rfl, _, rfl, _, rfl, o, a, b, root, e, lo, hi, F, M, us, ds, rfl, ra0, h1, this, hb, hp, hv.gd, hv.sz, fun v' H' s hres => q v' H' s (by
        unfold rdStep
        rw [hdf]
        exact hres)⟩
    | _ => exact absurd (kind_tag hk) (by simp [kdN, dfN])
  | rcd fs =>
    cases d with
    | rcd gs =>
      obtain ⟨a1, e1, b, xs, h1, h2, h3⟩ := hvd
      cases e1
      obtain ⟨c, kvs, rfl, hb, hnd, hp⟩ := hr2
      refine ⟨_, rfl, a, _, _, .str "record", rfl, rfl, SqT.of (da' sm0), at_of (j := 0) rfl rfl, rfl, _, rfl, ifF (ne_str sp9.symm) ?_⟩
      refine ⟨_, rfl, a, _, _, .str "record", rfl, rfl, SqT.of (da' sm0), at_of (j := 0) rfl rfl, rfl, _, rfl, ifT rfl ?_⟩
      have := wf.ty nm _ hdf
      exact ⟨_, rfl, _, rfl, _, rfl, o, a, b, c, root, F, M, xs, fs, kvs, gs, rfl, ra0, h1, h2, h3, this, wf.nd _ _ hdf, (wf.sz.len _ _ hdf).1, hb, hp, hv.gd, hv.sz, fun v' H' s hres => q v' H' s (by
        unfold rdStep
        rw [hdf]
        exact hres)⟩
    | _ => exact absurd (kind_tag hk) (by simp [kdN, dfN])
  | cho cs fb =>
    cases d with
    | cho t x =>
      obtain ⟨a1, e1, b, xs, y, h1, h2, h3, h4⟩ := hvd
      cases e1
      obtain ⟨c, u, rfl, hb, hp⟩ := hr2
      refine ⟨_, rfl, a, _, _, .str "choice", rfl, rfl, SqT.of (da' sm0), at_of (j := 0) rfl rfl, rfl, _, rfl, ifF (ne_str sp10.symm) ?_⟩
      refine ⟨_, rfl, a, _, _, .str "choice", rfl, rfl, SqT.of (da' sm0), at_of (j := 0) rfl rfl, rfl, _, rfl, ifF (ne_str sp11.symm) ?_⟩
      refine ⟨_, rfl, a, _, _, .str "choice", rfl, rfl, SqT.of (da' sm0), at_of (j := 0) rfl rfl, rfl, _, rfl, ifT rfl ?_⟩
      have := wf.ty nm _ hdf
      exact ⟨_, rfl, _, rfl, _, rfl, o, a, b, c, root, F, M, xs, cs, fb, y, u, t, x, rfl, ra0, h1, h2, h3, h4, this.1, this.2, hb, hp, hv.gd, hv.sz, fun v' H' s hres => q v' H' s (by
        unfold rdStep
        rw [hdf]
        exact hres)⟩
    | _ => exact absurd (kind_tag hk) (by simp [kdN, dfN])
/-- all that reading needs -/
structure RdDefs (K : PySem.W.Frag) (mg : Str → Option Value) (C : Addr) : Prop where
  kind_of : Has K mg "kind_of" s_kind_of p_kind_of
  case_of : Has K mg "case_of" s_case_of p_case_of
  is_kind : Has K mg "is_kind" s_is_kind p_is_kind
  failed : Has K mg "failed" s_failed p_failed
  behind : Has K mg "behind" s_behind p_behind
  read_list : Has K mg "read_list" s_read_list p_read_list
  read_record : Has K mg "read_record" s_read_record p_read_record
  read_choice : Has K mg "read_choice" s_read_choice p_read_choice
  read_by : Has K mg "read_by" s_read_by p_read_by
  «of» : HasM K C "of" "Format.of" s_Format_of p_Format_of
theorem ok_read_by (h : RdDefs K mg C) (T : Txt K mg C kA) : ∀ n, Cal P w K mg base (2 * n + 3) "read_by" (spRB C n) []
  | 0 => by
    obtain ⟨f, fd, d, b⟩ := h.read_by.ex
    exact ⟨f, fd, p_read_by, [], ⟨fun _ _ _ _ z => by obtain ⟨_, _, _, _, _, _, _, _, _, _, z, _⟩ := z; exact z.sb.elim, fun _ _ _ _ _ _ _ _ _ _ _ _ _ z => by obtain ⟨_, _, _, _, _, _, _, _, _, _, z, _⟩ := z; exact z.sb.elim⟩, d.mgf, d.kp, b, .nil⟩
  | n + 1 => by
    have ih : Cal P w K mg base (2 * n + 3) "read_by" (spRB C n) [] := ok_read_by h T n
    have c1 : Cal P w K mg base 1 "kind_of" spKind [] := ok_kind_of h.kind_of T
    have c2 : Cal P w K mg base 2 "is_kind" spIsKind [] := ok_is_kind h.is_kind T c1
    have c3 : Cal P w K mg base 1 "failed" spFailed [] := ok_failed h.failed T
    have c4 : Cal P w K mg base 2 "behind" spBehind [] := ok_behind h.behind T c3
    have c5 : Cal P w K mg base 1 "case_of" spCase [] := ok_case_of h.case_of T
    exact ok_read_by_succ h.read_by T (ok_of h.of T) c2 c3 (ok_read_list h.read_list T c3 c4 ih) (ok_read_record h.read_record T c3 c4 ih) (ok_read_choice h.read_choice T c5 c3 c4 ih)
end
end Ff
/-! The program, 6: read. -/
namespace Ff
open PySem L2 C8
section
variable {P : Program} {w : World} {K : PySem.W.Frag} {mg : Str → Option Value} {base : Heap} {C kA : Addr}
def spRd (C : Addr) (m : Nat) : Sp := fun vs H Q _ => ∃ (o : Addr) (root : Str) (F : Dfs) (M : List Addr) (v : V) (d : D), vs = [.ref o, v] ∧ RdAt C M H o root F m ∧ (look F root).isSome = true ∧ Vl m (off M H) v d ∧ (∀ d', rdSub F m root d = .ok d' → d'.size ≤ 300) ∧
  ∀ v' H', Same H H' → RepRes (m + 3) (off M H') v' (rdSub F m root d) → Q v' H'
theorem ok_read {m : Nat} (h : Has K mg "read" s_read p_read) (T : Txt K mg C kA) (c_read_by : Cal P w K mg base (2 * m + 3) "read_by" (spRB C m) []) (c_size_of : Cal P w K mg base (m + 6) "size_of" (spSz (m + 4)) []) :
    Cal P w K mg base (2 * m + 7) "read" (spRd C m) [] := by
  refine h.cal sc_read (fun vs H Q E h => ?_) (fun f cdv A outer s H vs Q E hr h => ?_)
  · obtain ⟨o, root, F, M, v, d, rfl, _⟩ := h
    rfl
  obtain ⟨o, root, F, M, v, d, rfl, ra, hl, hv, hz, q⟩ := h
  refine ⟨_, (pss_cons (ps_set (i := 2) sc_read.nd rfl (Or.inl rfl) (pe_c c_read_by hr (by omega) rfl (pa_cons (pv 0) (pa_cons (pe_fld (pv 0) rfl) (pa_cons (pv 1) pa_nil)))))
      (pss_cons (ps_if (PW.pt (pw_and (pt_cmpR op_eq (pe_ix ix_tup (pv 2) pe_int (fun _ _ => rfl)) (pe_gc rfl T.v_VALUE) (nomark _)) (pw_and1 (pt_cmpR op_gt (pe_c c_size_of hr (by omega) rfl (pa_cons (pe_ix ix_tup (pv 2) pe_int (fun _ _ => rfl)) pa_nil)) (pe_gc rfl T.v_SIZE_MOST) (nomark _))))) (pss_one ps_never) pss_nil)
      (pss_one (ps_ret (pv 2))))), ?_⟩
  obtain ⟨dx, dd, ho, _⟩ := id ra.fm
  refine ⟨_, rfl, _, rfl, o, C, dx, _, _, rfl, off_at ho, T.cl, T.nRoot, flF_root _ _, _, rfl, o, root, root, F, M, v, d, rfl, ra, hl, hv, fun v1 H1 s1 hv1 => ?_⟩
  cases er : rdSub F m root d with
  | ok d' =>
    rw [er] at hv1
    obtain ⟨a, y, rfl, f1, f2⟩ := id hv1
    refine ⟨_, rfl, a, _, _, .str "value", rfl, rfl, SqT.of (off_at f1), at_of (j := 0) rfl rfl, rfl, _, rfl, ifT rfl ?_⟩
    have hz' := hz d' er
    refine ⟨_, rfl, a, _, _, y, rfl, rfl, SqT.of (off_at f1), at_of (j := 1) rfl rfl, y, d', rfl, Rep.same f2 off_full, by omega, fun H2 s2 => ?_⟩
    refine ⟨_, _, rfl, rfl, _, rfl, ifF (by omega) ?_⟩
    refine ⟨_, rfl, q _ _ (s1.trans s2) ?_⟩
    rw [er]
    exact hv1.same (offs_same s2)
  | bad r p =>
    rw [er] at hv1
    obtain ⟨a, b, rfl, f1, f2⟩ := id hv1
    refine ⟨_, rfl, a, _, _, .str "failure", rfl, rfl, SqT.of (off_at f1), at_of (j := 0) rfl rfl, rfl, _, rfl, ifF val_ne_fail ?_⟩
    refine ⟨_, rfl, q _ _ s1 ?_⟩
    rw [er]
    exact hv1
end
end Ff
/-! The law, 1: the box of numbers and its draws. -/
namespace Ff
open PySem L2 C8
theorem fmod_lt {x m : Int} (h : 0 < m) : 0 ≤ x.fmod m ∧ x.fmod m < m := ⟨Int.fmod_nonneg_of_pos x h, Int.fmod_lt_of_pos x h⟩
/-- a box: its numbers, and how many are taken -/
structure Box (M : List Addr) (H : Hp) (b : Addr) : Prop where
  mem : b ∈ M
  al : Al M H
  ex : ∃ (r : Addr) (row : List Int) (k : Int), H b = some (.lst [.ref r, .int k]) ∧ 0 ≤ k ∧ off M H r = some (.lst (row.map V.int))
theorem Box.ne {M : List Addr} {H : Hp} {b p : Addr} (x : Box M H b) (h : H p = none) : p ≠ b := fun e => by
  obtain ⟨r, row, k, h1, _⟩ := x.ex
  rw [e, h1] at h
  cases h
/-- the box stands as it stood -/
theorem Box.stay {M M' : List Addr} {H H' : Hp} {b : Addr} (x : Box M H b) (hb : H' b = H b) (al : Al M' H') (hm : ∀ a ∈ M, a ∈ M') (s : Same (off M H) (off M' H')) : Box M' H' b := by
  obtain ⟨r, row, k, h1, h2, h3⟩ := x.ex
  exact ⟨hm _ x.mem, al, r, row, k, by rw [hb]; exact h1, h2, s _ _ h3⟩
theorem Box.same {M : List Addr} {H H' : Hp} {b : Addr} (x : Box M H b) (s : Same H H') : Box M H' b := by
  obtain ⟨r, row, k, h1, h2, h3⟩ := id x.ex
  exact x.stay ((s _ _ h1).trans h1.symm) (x.al.same s) (fun _ h => h) (offs_same s)
/-- another object that is changed -/
theorem Box.put {M : List Addr} {H : Hp} {b p : Addr} {u : HO} (x : Box M H b) (hp : p ∈ M) (hn : p ≠ b) : Box M (upd H p u) b :=
  x.stay (upd_ne hn.symm) (x.al.stp (Stp.put (M := [p]) (by simp))) (fun _ h => h) ((Stp.put hp).offs fun a h => .inl h)
/-- a new object, to be changed later -/
theorem Box.also {M : List Addr} {H : Hp} {b p : Addr} {u : HO} (x : Box M H b) (hp : H p = none) : Box (p :: M) (upd H p u) b :=
  x.stay (upd_ne (x.ne hp).symm) ((x.al.same (same_new hp u)).cons upd_same) (fun _ h => List.mem_cons_of_mem _ h) (off_also hp)
theorem Box.less {M : List Addr} {H : Hp} {b p : Addr} (x : Box (p :: M) H b) (hm : b ∈ M) : Box M H b := by
  obtain ⟨r, row, k, h1, h2, h3⟩ := id x.ex
  exact ⟨hm, fun a ha => x.al a (List.mem_cons_of_mem _ ha), r, row, k, h1, h2, off_less _ _ h3⟩
theorem Stp.offb {M : List Addr} {H H' : Hp} {b : Addr} (s : Stp [b] H H') (hb : b ∈ M) : Same (off M H) (off M H') := (s.mono (M' := M) (by simpa using hb)).offs fun a h => .inl h
section
variable {P : Program} {w : World} {K : PySem.W.Frag} {mg : Str → Option Value} {base : Heap} {C kA : Addr}
/-! ### the script -/
def spCell (K : PySem.W.Frag) : Sp := fun vs H Q _ => ∃ (a : Addr) (ns : List Int) (k : Int), vs = [.ref a, .int k] ∧ SqL K H a (ns.map V.int) ∧ 0 ≤ k ∧ ∀ z, Q (.int z) H
theorem ok_cell (h : Has K mg "_law_cell" s_l_cell p_l_cell) (T : Txt K mg C kA) : Cal P w K mg base 1 "_law_cell" (spCell K) [] := by
  refine h.cal sc_l_cell (fun vs H Q E h => ?_) (fun f cdv A outer s H vs Q E hr h => ?_)
  · obtain ⟨a, ns, k, rfl, _⟩ := h
    rfl
  obtain ⟨a, ns, k, rfl, hS, h0, q⟩ := h
  refine ⟨_, (pss_cons (ps_if (pt_cmpR op_lt (pv 1) (pe_callB call_len_seq rfl T.z_len (by decide +kernel) (pa_cons (pv 0) pa_nil)) (nomark _)) (pss_one (ps_ret (pe_ix ix_list (pv 0) (pv 1) (fun _ _ => rfl)))) pss_nil)
      (pss_one (ps_ret pe_int))), ?_⟩
  refine ⟨_, rfl, _, rfl, a, _, rfl, .inl hS, _, _, rfl, rfl, _, rfl, ifS (fun c => ?_) (fun c => ?_)⟩
  · rw [List.length_map] at c
    have e : (ns.map V.int)[k.toNat]? = some (.int (ns[k.toNat]'(by omega))) := by
      rw [List.getElem?_map, List.getElem?_eq_getElem (by omega)]
      rfl
    exact ⟨_, rfl, _, rfl, a, _, _, _, rfl, rfl, hS, at_of (j := k.toNat) (by omega) e, q _⟩
  · exact q 0
def spRow : Sp := fun vs H Q _ => ∃ (c k : Int), vs = [.int c, .int k, .int 12] ∧ ∀ p H' (ns : List Int), Same H H' → H p = none → H' p = some (.lst (ns.map V.int)) → ns.length ≤ 60 → Q (.ref p) H'
theorem ok_row (h : Has K mg "_law_row" s_l_row p_l_row) (T : Txt K mg C kA) : Cal P w K mg base 1 "_law_row" spRow [] := by
  refine h.cal sc_l_row (fun vs H Q E h => ?_) (fun f cdv A outer s H vs Q E hr h => ?_)
  · obtain ⟨c, k, rfl, _⟩ := h
    rfl
  obtain ⟨c, k, rfl, q⟩ := h
  refine ⟨_, (pss_cons (ps_set (i := 3) sc_l_row.nd rfl (Or.inl rfl) (pe_lst pa_nil))
      (C8.pss_cut (ps_if (pt_cmpR op_lt (pv 0) pe_int (nomark _)) (pss_one (ps_set (i := 0) sc_l_row.nd rfl (Or.inl rfl) (pe_op op_sub pe_int (pe_op op_mul pe_int (pv 0))))) pss_nil)
      (pss_cons (ps_if (pt_cmpR op_ge (pv 0) (pe_op op_pow pe_int pe_int) (nomark _)) (pss_cons (ps_for PassesOwn.never rfl (pi_range1 rfl T.z_range (pa_cons pe_int pa_nil)) (pg_name (i := 4) sc_l_row.nd rfl (Or.inl rfl))
          (pss_one (ps_if (PW.pt (pw_and (pt_cmpR op_gt (pv 0) pe_int (nomark _)) (pw_and1 (pt_cmpR op_lt (pe_callB call_len_seq rfl T.z_len (by decide +kernel) (pa_cons (pv 3) pa_nil)) (pv 2) (nomark _))))) (pss_cons (ps_expr (pe_bm PySem.F.plainAttrs_list PySem.F.slot_list_append PySem.F.type_list_append mt_append (pv 3) (pa_cons (pe_op op_modN (pe_callTy call_int1 rfl T.z_int (by decide +kernel) (pa_cons (pv 0) pa_nil)) pe_int) pa_nil)))
            (pss_one (ps_set (i := 0) sc_l_row.nd rfl (Or.inl rfl) (pe_op op_fdivN (pv 0) pe_int)))) pss_nil)))
        (pss_one (ps_ret (pv 3)))) pss_nil)
      (pss_cons (ps_set (i := 5) sc_l_row.nd rfl (Or.inl rfl) (pe_op op_modN (pe_callTy call_int1 rfl T.z_int (by decide +kernel) (pa_cons (pe_op op_add (pe_op op_add (pe_op op_mul (pv 0) pe_int) (pe_op op_mul (pv 1) pe_int)) pe_int) pa_nil)) pe_int))
      (pss_cons (ps_for PassesOwn.never rfl (pi_range1 rfl T.z_range (pa_cons (pv 2) pa_nil)) (pg_name (i := 4) sc_l_row.nd rfl (Or.inl rfl))
        (pss_cons (ps_set (i := 5) sc_l_row.nd rfl (Or.inl rfl) (pe_op op_modN (pe_callTy call_int1 rfl T.z_int (by decide +kernel) (pa_cons (pe_op op_add (pe_op op_add (pe_op op_mul (pv 5) pe_int) (pe_op op_mul pe_int (pv 4))) pe_int) pa_nil)) pe_int))
        (pss_one (ps_expr (pe_bm PySem.F.plainAttrs_list PySem.F.slot_list_append PySem.F.type_list_append mt_append (pv 3) (pa_cons (pe_op op_modN (pe_callTy call_int1 rfl T.z_int (by decide +kernel) (pa_cons (pe_op op_fdivN (pv 5) pe_int) pa_nil)) pe_int) pa_nil))))))
      (pss_one (ps_ret (pv 3)))))))), ?_⟩
  refine ⟨by show 0 ≤ sizeLine; decide, fun p hp => ?_⟩
  have s1 := same_new hp (.lst ([] : List V))
  refine ⟨fun σ' H' => H' = upd H p (.lst []) ∧ ∃ z, σ' = [some (.int z), some (.int k), some (.int 12), some (.ref p), none, none], ?_, ?_⟩
  · refine ⟨_, rfl, _, _, rfl, rfl, _, rfl, ifS (fun _ => ?_) (fun _ => ⟨rfl, c, rfl⟩)⟩
    exact ⟨_, rfl, _, _, rfl, rfl, .inl ⟨by decide, by decide⟩, _, _, rfl, rfl, rfl, _, rfl⟩
  rintro σ H1 ⟨rfl, z, rfl⟩
  refine ⟨_, rfl, _, _, rfl, rfl, ⟨by decide, by decide, by decide⟩, _, _, rfl, rfl, _, rfl, ifS (fun _ => ?_) (fun _ => ?_)⟩
  · refine ⟨60, rfl, by decide, by decide, ?_⟩
    refine for_range (lo := 0) (n := 60) (fun i σ H' => Same H H' ∧ ∃ (z : Int) (ns : List Int) (v : Option V), H' p = some (.lst (ns.map V.int)) ∧ ns.length ≤ i ∧ σ = [some (.int z), some (.int k), some (.int 12), some (.ref p), v, none])
      ⟨s1, z, [], none, upd_same, Nat.le_refl _, rfl⟩ ?_ ?_
    · rintro i σ H1 hi ⟨sm, z, ns, v, hp1, hl, rfl⟩
      refine ⟨_, rfl, _, _, rfl, rfl, _, rfl, ?_⟩
      by_cases c1 : (0 : Int) < z
      case neg => exact ifF c1 (iteF ⟨sm, z, ns, _, hp1, by omega, rfl⟩)
      refine ifT c1 ⟨_, rfl, p, _, rfl, .inl (SqL.of hp1), _, rfl, _, _, rfl, rfl, _, rfl, ?_⟩
      by_cases c2 : ((ns.map V.int).length : Int) < 12
      case neg => exact ifF c2 ⟨sm, z, ns, _, hp1, by omega, rfl⟩
      refine ifT c2 ⟨_, rfl, .inl ⟨rfl, _, SqL.of hp1⟩, _, rfl, .inl ⟨z, rfl, _, _, rfl, rfl, (by show (1000 : Int) ≠ 0; decide), p, _, _, rfl, rfl, hp1, by rw [List.length_map]; exact line_lt (by omega), ?_⟩⟩
      refine ⟨_, rfl, _, _, rfl, rfl, ⟨by decide, by decide⟩, ?_⟩
      refine ⟨fun b o e => by rw [upd_ne (ne_of_none e hp)]; exact sm _ _ e, _, ns ++ [z.fmod 1000], _, by rw [upd_same, List.map_append]; rfl, by simp; omega, rfl⟩
    · rintro σ H1 ⟨sm, z, ns, v, hp1, hl, rfl⟩
      exact ⟨_, rfl, q p H1 ns sm hp hp1 (by omega)⟩
  · refine ⟨_, rfl, _, _, rfl, rfl, .inr ⟨by decide, by decide⟩, _, rfl, _, _, rfl, rfl, .inr ⟨by decide, by decide⟩, _, _, rfl, rfl, _, _, rfl, rfl, .inl ⟨_, rfl, _, _, rfl, rfl, (by show (2147483647 : Int) ≠ 0; decide), ?_⟩⟩
    refine ⟨_, rfl, 12, rfl, by decide, by decide, ?_⟩
    refine for_range (lo := 0) (n := 12) (fun i σ H' => Same H H' ∧ ∃ (z y : Int) (ns : List Int) (v : Option V), H' p = some (.lst (ns.map V.int)) ∧ ns.length ≤ i ∧ σ = [some (.int z), some (.int k), some (.int 12), some (.ref p), v, some (.int y)])
      ⟨s1, z, _, [], none, upd_same, Nat.le_refl _, rfl⟩ ?_ ?_
    · rintro i σ H1 hi ⟨sm, z, y, ns, v, hp1, hl, rfl⟩
      refine ⟨_, rfl, _, _, rfl, rfl, .inr ⟨by decide, by decide⟩, _, rfl, _, _, rfl, rfl, .inl ⟨by decide, by decide⟩, _, _, rfl, rfl, _, _, rfl, rfl, .inl ⟨_, rfl, _, _, rfl, rfl, (by show (2147483647 : Int) ≠ 0; decide), ?_⟩⟩
      refine ⟨_, rfl, .inl ⟨rfl, _, SqL.of hp1⟩, _, rfl, _, _, rfl, rfl, ⟨by decide, by decide⟩, .inl ⟨_, rfl, _, _, rfl, rfl, (by show (1000 : Int) ≠ 0; decide), p, _, _, rfl, rfl, hp1, by rw [List.length_map]; exact line_lt (by omega), ?_⟩⟩
      refine ⟨fun b o e => by rw [upd_ne (ne_of_none e hp)]; exact sm _ _ e, _, _, ns ++ [_], _, by rw [upd_same, List.map_append]; rfl, by simp; omega, rfl⟩
    · rintro σ H1 ⟨sm, z, y, ns, v, hp1, hl, rfl⟩
      exact ⟨_, rfl, q p H1 ns sm hp hp1 (by omega)⟩
theorem SqL.stp {H H' : Hp} {a : Addr} {xs : List V} (h : SqL K H a xs) (s : Same H H') : SqL K H' a xs := s.seq h
def spBox (K : PySem.W.Frag) : Sp := fun vs H Q _ => ∃ (a : Addr) (ns : List Int), vs = [.ref a, .int 0, .int 50] ∧ SqL K H a (ns.map V.int) ∧
  ∀ b r H' (row : List Int), Same H H' → H b = none → H' b = some (.lst [.ref r, .int 0]) → b ≠ r → H' r = some (.lst (row.map V.int)) → Q (.ref b) H'
theorem ok_box (h : Has K mg "_law_box" s_l_box p_l_box) (T : Txt K mg C kA) (c_l_cell : Cal P w K mg base 1 "_law_cell" (spCell K) []) (c_l_row : Cal P w K mg base 1 "_law_row" spRow []) : Cal P w K mg base 2 "_law_box" (spBox K) [] := by
  refine h.cal sc_l_box (fun vs H Q E h => ?_) (fun f cdv A outer s H vs Q E hr h => ?_)
  · obtain ⟨a, ns, rfl, _⟩ := h
    rfl
  obtain ⟨a, ns, rfl, hS, q⟩ := h
  refine ⟨_, (pss_cons (ps_set (i := 3) sc_l_box.nd rfl (Or.inl rfl) (pe_lst pa_nil))
      (pss_cons (ps_for PassesOwn.never rfl (pi_range2 rfl T.z_range (pa_cons (pv 1) (pa_cons (pv 2) pa_nil))) (pg_name (i := 4) sc_l_box.nd rfl (Or.inl rfl))
        (pss_one (ps_set (i := 3) sc_l_box.nd rfl (Or.inl rfl) (pe_op op_cat (pv 3) (pe_c c_l_row hr (by omega) rfl (pa_cons (pe_c c_l_cell hr (by omega) rfl (pa_cons (pv 0) (pa_cons (pv 4) pa_nil))) (pa_cons (pv 4) (pa_cons pe_int pa_nil))))))))
      (pss_one (ps_ret (pe_lst (pa_cons (pv 3) (pa_cons pe_int pa_nil))))))), ?_⟩
  refine ⟨by show 0 ≤ sizeLine; decide, fun p hp => ?_⟩
  have s1 := same_new hp (.lst ([] : List V))
  refine ⟨_, rfl, _, rfl, 0, 50, rfl, ⟨by decide, by decide, by decide, by decide⟩, ?_⟩
  refine for_range (lo := 0) (n := 50) (fun i σ H' => Same H H' ∧ ∃ (r : Addr) (row : List Int) (v : Option V), H' r = some (.lst (row.map V.int)) ∧ row.length ≤ 60 * i ∧ σ = [some (.ref a), some (.int 0), some (.int 50), some (.ref r), v])
    ⟨s1, p, [], none, upd_same, Nat.zero_le _, rfl⟩ ?_ ?_
  · rintro i σ H1 hi ⟨sm, r, row, v, hr1, hl, rfl⟩
    refine ⟨_, rfl, _, rfl, _, rfl, a, ns, _, rfl, sm.seq hS, by omega, fun z => ?_⟩
    refine ⟨_, rfl, z, _, rfl, fun p2 H2 ns2 s2 _ hp2 hl2 => ?_⟩
    refine ⟨r, p2, _, _, rfl, rfl, s2 _ _ hr1, hp2, by rw [List.length_map, List.length_map]; exact line_small (by omega), fun p3 hp3 => ?_⟩
    refine ⟨(sm.trans s2).trans (same_new hp3 _), p3, row ++ ns2, _, by rw [upd_same, List.map_append], by rw [List.length_append]; omega, rfl⟩
  · rintro σ H1 ⟨sm, r, row, v, hr1, hl, rfl⟩
    refine ⟨_, rfl, by show 2 ≤ sizeLine; decide, fun b hb => ?_⟩
    have nbr : r ≠ b := ne_of_none hr1 hb
    exact q b r _ row (sm.trans (same_new hb _)) (sm.free hb) upd_same nbr.symm (by rw [upd_ne nbr]; exact hr1)

/-! ### draws -/
def spDraw : Sp := fun vs H Q _ => ∃ (b : Addr) (m : Int) (M : List Addr), vs = [.ref b, .int m] ∧ 0 < m ∧ Box M H b ∧ ∀ z H', 0 ≤ z → z < m → Stp [b] H H' → Box M H' b → Q (.int z) H'
theorem ok_draw (h : Has K mg "_law_draw" s_l_draw p_l_draw) (T : Txt K mg C kA) : Cal P w K mg base 1 "_law_draw" spDraw [] := by
  refine h.cal sc_l_draw (fun vs H Q E h => ?_) (fun f cdv A outer s H vs Q E hr h => ?_)
  · obtain ⟨b, m, M, rfl, _⟩ := h
    rfl
  obtain ⟨b, m, M, rfl, hm, bx, q⟩ := h
  refine ⟨_, (pss_cons (ps_set (i := 2) sc_l_draw.nd rfl (Or.inl rfl) (pe_ix ix_list (pv 0) pe_int (fun _ _ => rfl)))
      (pss_cons (ps_asg (pe_op op_add (pv 2) pe_int) (pg_sub (pv 0) pe_int set_list))
      (pss_cons (ps_if (pt_cmpR op_lt (pv 2) (pe_callB call_len_seq rfl T.z_len (by decide +kernel) (pa_cons (pe_ix ix_list (pv 0) pe_int (fun _ _ => rfl)) pa_nil)) (nomark _)) (pss_one (ps_ret (pe_op op_modN (pe_callTy call_int1 rfl T.z_int (by decide +kernel) (pa_cons (pe_ix ix_list (pe_ix ix_list (pv 0) pe_int (fun _ _ => rfl)) (pv 2) (fun _ _ => rfl)) pa_nil)) (pv 1)))) pss_nil)
      (pss_one (ps_ret (pe_op op_modN (pe_callTy call_int1 rfl T.z_int (by decide +kernel) (pa_cons (pe_op op_add (pe_op op_mul (pv 2) pe_int) pe_int) pa_nil)) (pv 1))))))), ?_⟩
  obtain ⟨r, row, k, h1, h2, h3⟩ := id bx.ex
  refine ⟨_, rfl, b, _, _, .int k, rfl, rfl, SqL.of h1, at_of (j := 1) rfl rfl, ?_⟩
  refine ⟨_, rfl, _, _, rfl, rfl, _, rfl, b, _, 1, 1, rfl, rfl, h1, rfl, ?_⟩
  have nrb : r ≠ b := fun e => (off_some.mp h3).1 (e ▸ bx.mem)
  have h1' : upd H b (.lst [.ref r, .int (k + 1)]) b = some (.lst [.ref r, .int (k + 1)]) := upd_same
  have h3' : upd H b (.lst [.ref r, .int (k + 1)]) r = some (.lst (row.map V.int)) := by rw [upd_ne nrb]; exact off_at h3
  have st : Stp [b] H (upd H b (.lst [.ref r, .int (k + 1)])) := Stp.put (by simp)
  have bx' : Box M (upd H b (.lst [.ref r, .int (k + 1)])) b := ⟨bx.mem, bx.al.stp st, r, row, k + 1, upd_same, by omega, st.offb bx.mem _ _ h3⟩
  show tSeq _ _ _ _ (upd H b (.lst [.ref r, .int (k + 1)]))
  refine ⟨_, rfl, _, rfl, b, _, _, .ref r, rfl, rfl, SqL.of h1', at_of (j := 0) rfl rfl, r, _, rfl, .inl (SqL.of h3'), _, _, rfl, rfl, _, rfl, ifS (fun c => ?_) (fun c => ?_)⟩
  · rw [List.length_map] at c
    have e : (row.map V.int)[k.toNat]? = some (.int (row[k.toNat]'(by omega))) := by
      rw [List.getElem?_map, List.getElem?_eq_getElem (by omega)]
      rfl
    refine ⟨_, rfl, b, _, _, .ref r, rfl, rfl, SqL.of h1', at_of (j := 0) rfl rfl, _, rfl, r, _, _, _, rfl, rfl, SqL.of h3', at_of (j := k.toNat) (by omega) e, .inl ⟨_, rfl, _, rfl, _, _, rfl, rfl, by omega, ?_⟩⟩
    exact q _ _ (fmod_lt hm).1 (fmod_lt hm).2 st bx'
  · refine ⟨_, rfl, _, _, rfl, rfl, .inr ⟨by decide, by decide⟩, _, _, rfl, rfl, .inl ⟨_, rfl, _, rfl, _, _, rfl, rfl, by omega, ?_⟩⟩
    exact q _ _ (fmod_lt hm).1 (fmod_lt hm).2 st bx'
def spDrawn : Sp := fun vs H Q _ => ∃ (b l : Addr) (M : List Addr) (xs : List V), vs = [.ref b, .ref l] ∧ Box M H b ∧ off M H l = some (.lst xs) ∧ 0 < xs.length ∧ ∀ x H', x ∈ xs → Stp [b] H H' → Box M H' b → Q x H'
theorem ok_drawn (h : Has K mg "_law_drawn" s_l_drawn p_l_drawn) (T : Txt K mg C kA) (c_l_draw : Cal P w K mg base 1 "_law_draw" spDraw []) : Cal P w K mg base 2 "_law_drawn" spDrawn [] := by
  refine h.cal sc_l_drawn (fun vs H Q E h => ?_) (fun f cdv A outer s H vs Q E hr h => ?_)
  · obtain ⟨b, l, M, xs, rfl, _⟩ := h
    rfl
  obtain ⟨b, l, M, xs, rfl, bx, hl, h0, q⟩ := h
  refine ⟨_, (pss_one (ps_ret (pe_ix ix_list (pv 1) (pe_op op_modN (pe_callTy call_int1 rfl T.z_int (by decide +kernel) (pa_cons (pe_c c_l_draw hr (by omega) rfl (pa_cons (pv 0) (pa_cons pe_int pa_nil))) pa_nil)) (pe_callB call_len_seq rfl T.z_len (by decide +kernel) (pa_cons (pv 1) pa_nil))) (fun _ _ => rfl)))), ?_⟩
  refine ⟨_, rfl, _, rfl, b, 900, M, rfl, by decide, bx, fun z H1 z0 z9 st bx1 => ?_⟩
  have hl1 := off_at (st.offb bx.mem _ _ hl)
  have hm := fmod_lt (x := z) (m := (xs.length : Int)) (by omega)
  refine .inl ⟨_, rfl, _, rfl, l, _, rfl, .inl (SqL.of hl1), _, _, rfl, rfl, by omega, ?_⟩
  have e : xs[(z.fmod xs.length).toNat]? = some (xs[(z.fmod xs.length).toNat]'(by omega)) := List.getElem?_eq_getElem (by omega)
  exact ⟨l, _, _, _, rfl, rfl, SqL.of hl1, at_of (j := (z.fmod xs.length).toNat) (by omega) e, q _ _ (List.getElem_mem _) st bx1⟩

/-! ### kinds of values -/
def spIsInt : Sp := fun vs H Q _ => ∃ (n : Nat) (v : V) (d : D), vs = [v] ∧ Rep n H v d ∧ Q (.bl (decide (tyN d = "int"))) H
theorem ok_is_integer (h : Has K mg "_law_is_integer" s_l_is_integer p_l_is_integer) (T : Txt K mg C kA) : Cal P w K mg base 1 "_law_is_integer" spIsInt [] := by
  refine h.cal sc_l_is_integer (fun vs H Q E h => ?_) (fun f cdv A outer s H vs Q E hr h => ?_)
  · obtain ⟨n, v, d, rfl, _⟩ := h
    rfl
  obtain ⟨n, v, d, rfl, hd, q⟩ := h
  refine ⟨_, (pss_one (ps_ret (pe_and (pe_callB call_isi rfl T.z_isinstance (by decide +kernel) (pa_cons (pv 0) (pa_cons (pe_bltn (v := .ty "int") (u := .type "int") rfl T.z_int (by decide +kernel) rfl) pa_nil))) (pe_one (pe_not (pe_callB call_isi rfl T.z_isinstance (by decide +kernel) (pa_cons (pv 0) (pa_cons (pe_bltn (v := .ty "bool") (u := .type "bool") rfl T.z_bool (by decide +kernel) rfl) pa_nil)))))))), ?_⟩
  refine isiV hd rfl (by decide) ⟨_, rfl, ifS (fun c => ?_) (fun c => ?_)⟩
  · refine isiV hd rfl (by decide) ⟨_, rfl, ?_⟩
    have e1 : decide (tyN d = "bool") = false := by
      cases d <;> simp [tyN]
    have e2 : decide (tyN d = "int") = true := decide_eq_true c
    rw [e2] at q
    rw [e1]
    exact q
  · have e2 : decide (tyN d = "int") = false := decide_eq_false c
    rw [e2] at q
    exact q
end
end Ff
/-! The law, 2: values of any kind. -/
namespace Ff
open PySem L2 C8
/-- a value of at most n levels, of a size of at most s, its integers at most b -/
def Vg (n s b : Nat) (G : Hp) (v : V) : Prop := ∃ d, Rep n G v d ∧ d.gd b ∧ d.size ≤ s
theorem Vg.same {n s b : Nat} {G G' : Hp} {v : V} (h : Vg n s b G v) (e : Same G G') : Vg n s b G' v := by
  obtain ⟨d, h1, h2⟩ := h
  exact ⟨d, h1.same e, h2⟩
theorem Vg.mono {n n' s s' b b' : Nat} {G : Hp} {v : V} (h : Vg n s b G v) (hn : n ≤ n') (hs : s ≤ s') (hb : b ≤ b') : Vg n' s' b' G v := by
  obtain ⟨d, h1, h2, h3⟩ := h
  exact ⟨d, h1.mono hn, gd_mono hb d h2, by omega⟩
theorem rep_int {n : Nat} {G : Hp} {i : Int} : Rep n G (.int i) (.int i) := by rw [rep_eq]; exact rfl
theorem rep_str {n : Nat} {G : Hp} {i : Str} : Rep n G (.str i) (.str i) := by rw [rep_eq]; exact rfl
theorem Vg.int {n s b : Nat} {G : Hp} {i : Int} (h : i.natAbs ≤ b) (hs : 1 ≤ s := by decide) : Vg n s b G (.int i) := ⟨.int i, rep_int, by simp only [D.gd]; exact h, by simp only [D.size]; exact hs⟩
theorem Vg.str {n s b : Nat} {G : Hp} {x : Str} (h : chk x) (hs : 1 + x.length ≤ s) : Vg n s b G (.str x) := ⟨.str x, rep_str, by simp only [D.gd]; exact h, by simp only [D.size]; exact hs⟩
theorem Vg.nil {n s b : Nat} {G : Hp} {a : Addr} (h : G a = some (.lst [])) (hs : 1 ≤ s := by decide) : Vg n s b G (.ref a) := ⟨.lst [], by rw [rep_eq]; exact ⟨a, [], rfl, h, .nil⟩, by simp [D.gd, gdL], by simp only [D.size, sizeL]; exact hs⟩
theorem Vg.emp {n s b : Nat} {G : Hp} {a : Addr} (h : G a = some (.dK [])) (hs : 1 ≤ s := by decide) : Vg n s b G (.ref a) := ⟨.rcd [], by rw [rep_eq]; exact ⟨a, [], rfl, h, ⟨by simp, by simp⟩, .nil⟩, by simp [D.gd, gdF], by simp only [D.size, sizeF]; exact hs⟩
theorem sizeL_le {s : Nat} : ∀ {ds : List D}, (∀ d ∈ ds, d.size ≤ s) → sizeL ds ≤ ds.length * s
  | [], _ => by simp [sizeL]
  | d :: r, h => by
    have h1 := h d List.mem_cons_self
    have h2 := sizeL_le fun e he => h e (List.mem_cons_of_mem _ he)
    simp only [sizeL, List.length_cons, Nat.add_mul]
    omega
theorem vg_list {n s b : Nat} {G : Hp} : ∀ (vs : List V), (∀ v ∈ vs, Vg n s b G v) → ∃ ds, Paired (Rep n G) vs ds ∧ (∀ d ∈ ds, d.gd b ∧ d.size ≤ s)
  | [], _ => ⟨[], .nil, by simp⟩
  | v :: vs, h => by
    obtain ⟨d, h1, h2⟩ := h v List.mem_cons_self
    obtain ⟨ds, h3, h4⟩ := vg_list vs fun w hw => h w (List.mem_cons_of_mem _ hw)
    refine ⟨d :: ds, .cons h1 h3, fun e he => ?_⟩
    rcases List.mem_cons.mp he with rfl | he
    · exact h2
    · exact h4 e he
theorem Vg.lst {n s b : Nat} {G : Hp} {a : Addr} {vs : List V} (h : ∀ v ∈ vs, Vg n s b G v) (ha : G a = some (.lst vs)) : Vg (n + 1) (1 + vs.length * s) b G (.ref a) := by
  obtain ⟨ds, h1, h2⟩ := vg_list vs h
  refine ⟨.lst ds, ⟨a, vs, rfl, ha, h1⟩, by simp only [D.gd]; exact gdL_iff.mpr fun d hd => (h2 d hd).1, ?_⟩
  have := sizeL_le fun d hd => (h2 d hd).2
  rw [← h1.length] at this
  simp only [D.size]
  omega
/-- the fields of a record -/
structure RecOk (n s b : Nat) (G : Hp) (kvs : List (Key × V)) : Prop where
  ks : ∃ ks : List Str, kvs.map (·.1) = ks.map Sum.inr ∧ ks.Nodup ∧ ∀ k ∈ ks, nm1 k
  vs : ∀ kv ∈ kvs, Vg n s b G kv.2
theorem RecOk.same {n s b : Nat} {G G' : Hp} {kvs : List (Key × V)} (h : RecOk n s b G kvs) (e : Same G G') : RecOk n s b G' kvs := ⟨h.ks, fun kv hk => (h.vs kv hk).same e⟩
theorem RecOk.len {n s b : Nat} {G : Hp} {kvs : List (Key × V)} (h : RecOk n s b G kvs) : kvs.length ≤ 8 := by
  obtain ⟨ks, h1, h2, h3⟩ := h.ks
  have := congrArg List.length h1
  rw [List.length_map, List.length_map] at this
  rw [this]
  exact nm1_len h2 h3
theorem sizeF_le {s : Nat} : ∀ {fs : List (Str × D)}, (∀ f ∈ fs, f.2.size ≤ s) → sizeF fs ≤ fs.length * s
  | [], _ => by simp [sizeF]
  | (n, d) :: r, h => by
    have h1 := h (n, d) List.mem_cons_self
    have h2 := sizeF_le fun e he => h e (List.mem_cons_of_mem _ he)
    simp only [sizeF, List.length_cons, Nat.add_mul] at *
    omega
theorem rec_list {n s b : Nat} {G : Hp} : ∀ (kvs : List (Key × V)) (ks : List Str), kvs.map (·.1) = ks.map Sum.inr → (∀ kv ∈ kvs, Vg n s b G kv.2) → ∃ fs : List (Str × D), Paired (RepF n G) kvs fs ∧ fs.map (·.1) = ks ∧ ∀ f ∈ fs, f.2.gd b ∧ f.2.size ≤ s
  | [], ks, e, _ => by
    cases ks with
    | nil => exact ⟨[], .nil, rfl, by simp⟩
    | cons k ks => simp at e
  | kv :: kvs, ks, e, h => by
    cases ks with
    | nil => simp at e
    | cons k ks =>
      rw [List.map_cons, List.map_cons] at e
      injection e with e1 e2
      obtain ⟨d, h1, h2⟩ := h kv List.mem_cons_self
      obtain ⟨fs, h3, h4, h5⟩ := rec_list kvs ks e2 fun w hw => h w (List.mem_cons_of_mem _ hw)
      refine ⟨(k, d) :: fs, .cons ⟨e1, h1⟩ h3, by rw [List.map_cons, h4], fun e he => ?_⟩
      rcases List.mem_cons.mp he with rfl | he
      · exact h2
      · exact h5 e he
theorem Vg.rcd {n s b : Nat} {G : Hp} {a : Addr} {kvs : List (Key × V)} (h : RecOk n s b G kvs) (ha : G a = some (.dK kvs)) : Vg (n + 1) (1 + kvs.length * s) b G (.ref a) := by
  obtain ⟨ks, k1, k2, k3⟩ := h.ks
  obtain ⟨fs, h1, h2, h3⟩ := rec_list kvs ks k1 h.vs
  refine ⟨.rcd fs, ⟨a, kvs, rfl, ha, ⟨by rw [h2]; exact k2, by rw [← h1.length]; exact h.len⟩, h1⟩, ?_, ?_⟩
  · simp only [D.gd]
    refine gdF_iff.mpr fun f hf => ⟨k3 _ ?_, (h3 f hf).1⟩
    rw [← h2]
    exact List.mem_map_of_mem hf
  · have := sizeF_le fun f hf => (h3 f hf).2
    rw [← h1.length] at this
    simp only [D.size]
    omega
theorem Vg.cho {n s b : Nat} {G : Hp} {a : Addr} {t : Str} {x : V} (h : Vg n s b G x) (ht : nm1 t) (ha : G a = some (.tup [.str t, x])) : Vg (n + 1) (1 + s) b G (.ref a) := by
  obtain ⟨d, h1, h2, h3⟩ := h
  exact ⟨.cho t d, ⟨a, x, rfl, ha, h1⟩, by simp only [D.gd]; exact ⟨ht, h2⟩, by simp only [D.size]; omega⟩
/-! ### a field is stored -/
theorem keys_put_old {kvs : List (Key × V)} {k : Key} {v : V} (h : k ∈ kvs.map (·.1)) : (putK kvs k v).map (·.1) = kvs.map (·.1) := by
  obtain ⟨p, hp, e⟩ := List.mem_map.mp h
  unfold putK
  rw [if_pos (List.any_eq_true.mpr ⟨p, hp, decide_eq_true e⟩), List.map_map]
  refine List.map_congr_left fun q hq => ?_
  show (if q.1 = k then (q.1, v) else q).1 = q.1
  split <;> rfl
theorem keys_put_new {kvs : List (Key × V)} {k : Key} {v : V} (h : ¬ k ∈ kvs.map (·.1)) : (putK kvs k v).map (·.1) = kvs.map (·.1) ++ [k] := by
  unfold putK
  rw [if_neg, List.map_append]
  · rfl
  · intro hm
    obtain ⟨p, hp, e⟩ := List.any_eq_true.mp hm
    exact h (by rw [← of_decide_eq_true e]; exact List.mem_map_of_mem hp)
theorem mem_put {kvs : List (Key × V)} {k : Key} {v : V} {p : Key × V} (h : p ∈ putK kvs k v) : p.2 = v ∨ p ∈ kvs := by
  unfold putK at h
  split at h
  · obtain ⟨q, hq, e⟩ := List.mem_map.mp h
    by_cases c : q.1 = k
    · rw [if_pos c] at e
      exact .inl (by rw [← e])
    · rw [if_neg c] at e
      exact .inr (by rw [← e]; exact hq)
  · rcases List.mem_append.mp h with h | h
    · exact .inr h
    · exact .inl (by rw [List.mem_singleton.mp h])
theorem RecOk.put {n s b : Nat} {G : Hp} {kvs : List (Key × V)} {k : Str} {v : V} (h : RecOk n s b G kvs) (hk : nm1 k) (hv : Vg n s b G v) : RecOk n s b G (putK kvs (Sum.inr k) v) := by
  obtain ⟨ks, h1, h2, h3⟩ := h.ks
  refine ⟨?_, fun kv hkv => ?_⟩
  · by_cases c : (Sum.inr k : Key) ∈ kvs.map (·.1)
    · exact ⟨ks, by rw [keys_put_old c, h1], h2, h3⟩
    · refine ⟨ks ++ [k], by rw [keys_put_new c, h1, List.map_append]; rfl, ?_, fun x hx => ?_⟩
      · refine List.nodup_append.mpr ⟨h2, by simp, ?_⟩
        rintro x hx y hy rfl
        rw [List.mem_singleton.mp hy] at hx
        exact c (by rw [h1]; exact List.mem_map_of_mem hx)
      · rcases List.mem_append.mp hx with hx | hx
        · exact h3 x hx
        · rw [List.mem_singleton.mp hx]; exact hk
  · rcases mem_put hkv with e | e
    · rw [e]; exact hv
    · exact h.vs kv e
/-! ### tests that are pure -/
theorem or2 {t u : TT} {σ : L2.St} {H : Hp} {a b : Bool} {Q : Bool → Hp → Prop} (h1 : ∀ Q : Bool → Hp → Prop, Q a H → t σ H Q) (h2 : ∀ Q : Bool → Hp → Prop, Q b H → u σ H Q) (h : Q (a || b) H) : tOr t u σ H Q := by
  refine h1 _ ?_
  cases a with
  | true => exact iteT h
  | false => exact iteF (h2 _ h)
theorem and2 {t u : TT} {σ : L2.St} {H : Hp} {a b : Bool} {Q : Bool → Hp → Prop} (h1 : ∀ Q : Bool → Hp → Prop, Q a H → t σ H Q) (h2 : a = true → ∀ Q : Bool → Hp → Prop, Q b H → u σ H Q) (h : Q (a && b) H) : tAnd t u σ H Q := by
  refine h1 _ ?_
  cases a with
  | true => exact iteT (h2 rfl _ h)
  | false => exact iteF h
theorem ifOr {p r : Prop} [Decidable p] [Decidable r] {A B : Prop} (h1 : p ∨ r → A) (h2 : ¬ p → ¬ r → B) : if (decide p || decide r) = true then A else B := by
  by_cases hp : p
  · rw [decide_eq_true hp, Bool.true_or]; exact iteT (h1 (.inl hp))
  · by_cases hr : r
    · rw [decide_eq_true hr, Bool.or_true]; exact iteT (h1 (.inr hr))
    · rw [decide_eq_false hp, decide_eq_false hr]; exact iteF (h2 hp hr)
theorem ifAnd {p r : Prop} [Decidable p] [Decidable r] {A B : Prop} (h1 : p → r → A) (h2 : ¬ (p ∧ r) → B) : if (decide p && decide r) = true then A else B := by
  by_cases hp : p
  · by_cases hr : r
    · rw [decide_eq_true hp, decide_eq_true hr]; exact iteT (h1 hp hr)
    · rw [decide_eq_false hr, Bool.and_false]; exact iteF (h2 fun z => hr z.2)
  · rw [decide_eq_false hp, Bool.false_and]; exact iteF (h2 fun z => hp z.1)

/-! ### wild values -/
def sW : Nat → Nat
  | 0 => 4
  | n + 1 => 1 + 4 * sW n
theorem sW_pos : ∀ n, 4 ≤ sW n
  | 0 => Nat.le_refl _
  | n + 1 => by have := sW_pos n; unfold sW; omega
section
variable {P : Program} {w : World} {K : PySem.W.Frag} {mg : Str → Option Value} {base : Heap} {C kA : Addr}
def spWild (n : Nat) : Sp := fun vs H Q _ => ∃ (b : Addr) (M : List Addr), vs = [.ref b, .int (n : Int)] ∧ Box M H b ∧ ∀ v H', Stp [b] H H' → Box M H' b → Vg n (sW n) 1000 (off M H') v → Q v H'
def spWs : Nat → Sp
  | 0 => fun _ _ _ _ => False
  | n + 1 => spWild n
theorem leaf_chk : ∀ x ∈ (["", "a", "aa", "b", "abc"] : List Str), (∀ c ∈ x.cps.toList, c < 128) ∧ 1 + x.length ≤ 4 := by decide +kernel
theorem dec1 {k : Nat} : ((k + 1 : Nat) : Int) - 1 = (k : Int) := by omega
theorem uxyz : ∀ x ∈ (["u", "x", "y", "z"] : List Str), x ∈ names8 := by decide +kernel
theorem pqrs : ∀ x ∈ (["p", "q", "r", "s"] : List Str), x ∈ names8 := by decide +kernel
theorem ok_wild_at {n : Nat} (h : Has K mg "_law_wild" s_l_wild p_l_wild) (T : Txt K mg C kA) (c_l_draw : Cal P w K mg base 1 "_law_draw" spDraw []) (c_l_drawn : Cal P w K mg base 2 "_law_drawn" spDrawn []) (c_l_wild : Cal P w K mg base (n + 2) "_law_wild" (spWs n) []) :
    Cal P w K mg base (n + 3) "_law_wild" (spWild n) [] := by
  refine h.cal sc_l_wild (fun vs H Q E h => ?_) (fun f cdv A outer s H vs Q E hr h => ?_)
  · obtain ⟨b, M, rfl, _⟩ := h
    rfl
  obtain ⟨b, M, rfl, bx, q⟩ := h
  refine ⟨_, (pss_cons (ps_set (i := 2) sc_l_wild.nd rfl (Or.inl rfl) (pe_c c_l_draw hr (by omega) rfl (pa_cons (pv 0) (pa_cons pe_int pa_nil))))
      (pss_cons (ps_if (PW.pt (pw_or (pt_cmpR op_eq (pv 1) pe_int (nomark _)) (pw_or1 (pt_cmpR op_lt (pv 2) pe_int (nomark _))))) (pss_one (ps_ret (pe_c c_l_drawn hr (by omega) rfl (pa_cons (pv 0) (pa_cons (pe_lst (pa_cons pe_int (pa_cons pe_int (pa_cons (pe_un un_neg pe_int) (pa_cons pe_int (pa_cons pe_int (pa_cons (pe_un un_neg pe_int) (pa_cons pe_int (pa_cons pe_str (pa_cons pe_str (pa_cons pe_str (pa_cons pe_str (pa_cons pe_str (pa_cons (pe_lst pa_nil) (pa_cons pe_dnewK pa_nil))))))))))))))) pa_nil))))) pss_nil)
      (pss_cons (ps_if (pt_cmpR op_lt (pv 2) pe_int (nomark _)) (pss_one (ps_ret (pe_lc (own := [("_law_turn", 5)]) (g := gName 5) (tt := tYes) rfl sc_l_wild.nd (pi_range1 rfl T.z_range (pa_cons (pe_c c_l_draw hr (by omega) rfl (pa_cons (pv 0) (pa_cons pe_int pa_nil))) pa_nil)) (blkOk_by (own := [("_law_turn", 5)]) (N := n_l_wild) (sc := fnScope s_l_wild) (by decide +kernel)) (fun _ _ _ _ _ => pg_name (i := 5) sc_l_wild.nd rfl (Or.inl rfl)) (fun _ _ _ _ _ => pts_nil) (fun _ _ _ _ _ => (pe_c c_l_wild hr (by omega) rfl (pa_cons (pv 0) (pa_cons (pe_op op_sub (pv 1) pe_int) pa_nil))))))) pss_nil)
      (pss_cons (ps_if (pt_cmpR op_lt (pv 2) pe_int (nomark _)) (pss_cons (ps_set (i := 3) sc_l_wild.nd rfl (Or.inl rfl) pe_dnewK)
        (pss_cons (ps_for PassesOwn.never rfl (pi_list (pe_lst (pa_cons pe_str (pa_cons pe_str (pa_cons pe_str (pa_cons pe_str pa_nil)))))) (pg_name (i := 4) sc_l_wild.nd rfl (Or.inl rfl))
          (pss_one (ps_if (pt_cmpR op_eq (pe_c c_l_draw hr (by omega) rfl (pa_cons (pv 0) (pa_cons pe_int pa_nil))) pe_int (nomark _)) (pss_one (ps_dput (hu_of hr) (pv 3) (pv 4) (pe_c c_l_wild hr (by omega) rfl (pa_cons (pv 0) (pa_cons (pe_op op_sub (pv 1) pe_int) pa_nil))) rfl)) pss_nil)))
        (pss_one (ps_ret (pv 3))))) pss_nil)
      (pss_one (ps_ret (pe_tup (pa_cons (pe_ix ix_list (pe_lst (pa_cons pe_str (pa_cons pe_str (pa_cons pe_str (pa_cons pe_str pa_nil))))) (pe_c c_l_draw hr (by omega) rfl (pa_cons (pv 0) (pa_cons pe_int pa_nil))) (fun _ _ => rfl)) (pa_cons (pe_c c_l_wild hr (by omega) rfl (pa_cons (pv 0) (pa_cons (pe_op op_sub (pv 1) pe_int) pa_nil))) pa_nil))))))))), ?_⟩
  refine ⟨_, rfl, b, 9, M, rfl, by decide, bx, fun z H1 z0 z9 st1 bx1 => ?_⟩
  have s4 := sW_pos n
  dsimp only [gName, tSeq, tIfS]
  refine or2 (a := decide (V.int (n : Int) = V.int 0)) (b := decide (z < 2)) ?_ ?_ ?_
  · exact fun Q q => ⟨_, rfl, rfl, _, rfl, q⟩
  · exact fun Q q => ⟨_, rfl, _, _, rfl, rfl, _, rfl, q⟩
  refine ifOr (fun _ => ?_) (fun hn _ => ?_)
  · -- a small one
    refine ⟨_, rfl, _, rfl, _, rfl, by show 0 ≤ sizeLine; decide, fun l hl => fun d hd => ⟨by show 14 ≤ sizeLine; decide, fun p hp => ?_⟩⟩
    have e1 := same_new hl (.lst ([] : List V))
    have e2 := same_new hd (.dK ([] : List (Key × V)))
    have e3 := same_new hp (.lst [.int 0, .int 1, .int (-1), .int 2, .int 3, .int (-2), .int 4, .str "", .str "a", .str "aa", .str "b", .str "abc", .ref l, .ref d])
    have e123 := (e1.trans e2).trans e3
    have bx2 := bx1.same e123
    refine ⟨b, p, M, _, rfl, bx2, off_in bx1.al ((e1.trans e2).free hp) upd_same, by simp, fun x H2 hx st2 bx3 => ?_⟩
    refine q x H2 (st1.trans ((Stp.of_same e123).trans st2)) bx3 ?_
    have hl' : off M H2 l = some (.lst []) := (st2.offb bx2.mem) _ _ (off_in bx1.al hl (e3 _ _ (e2 _ _ upd_same)))
    have hd' : off M H2 d = some (.dK []) := (st2.offb bx2.mem) _ _ (off_in bx1.al (e1.free hd) (e3 _ _ upd_same))
    have str : ∀ x ∈ (["", "a", "aa", "b", "abc"] : List Str), Vg n (sW n) 1000 (off M H2) (.str x) := fun x hx => Vg.str (leaf_chk x hx).1 (by have := (leaf_chk x hx).2; omega)
    simp only [List.mem_cons, List.not_mem_nil, or_false] at hx
    rcases hx with rfl | rfl | rfl | rfl | rfl | rfl | rfl | rfl | rfl | rfl | rfl | rfl | rfl | rfl
    · exact Vg.int (by decide) (by omega)
    · exact Vg.int (by decide) (by omega)
    · exact Vg.int (by decide) (by omega)
    · exact Vg.int (by decide) (by omega)
    · exact Vg.int (by decide) (by omega)
    · exact Vg.int (by decide) (by omega)
    · exact Vg.int (by decide) (by omega)
    · exact str _ (by simp)
    · exact str _ (by simp)
    · exact str _ (by simp)
    · exact str _ (by simp)
    · exact str _ (by simp)
    · exact Vg.nil hl' (by omega)
    · exact Vg.emp hd' (by omega)
  -- at least one level more
  cases n with
  | zero => exact absurd rfl hn
  | succ k =>
  have c_l_wild' : Cal P w K mg base (k + 3) "_law_wild" (spWild k) [] := c_l_wild
  have arg : ([V.ref b, V.int (((k + 1 : Nat) : Int) - 1)] : List V) = [.ref b, .int (k : Int)] := by rw [dec1]
  refine ⟨_, rfl, _, _, rfl, rfl, _, rfl, ifS (fun _ => ?_) (fun _ => ?_)⟩
  · -- a list
    refine ⟨_, rfl, b, 4, M, rfl, by decide, bx1, fun y H2 y0 y4 st2 bx2 => ?_⟩
    refine ⟨y, rfl, by omega, by omega, fun L hL => ?_⟩
    have bx3 : Box (L :: M) (upd H2 L (.lst [])) b := bx2.also hL
    refine lc_range (lo := 0) (n := y.toNat) (fun i H' => Stp [b] H2 H' ∧ Box (L :: M) H' b ∧ ∃ vs, H' L = some (.lst vs) ∧ vs.length = i ∧ ∀ v ∈ vs, Vg k (sW k) 1000 (off (L :: M) H') v)
      ⟨Stp.new hL, bx3, [], upd_same, rfl, by simp⟩ ?_ ?_
    · rintro i H3 hi ⟨st3, bx3, vs, hv1, hv2, hv3⟩
      refine ⟨rfl, _, rfl, _, rfl, _, _, rfl, rfl, b, L :: M, arg, bx3, fun v H4 st4 bx4 hv => ?_⟩
      have nLb : L ≠ b := bx2.ne hL
      have hv4 : H4 L = some (.lst vs) := st4.keep _ _ (by simpa using nLb) hv1
      refine ⟨vs, hv4, line_lt (by omega), ⟨?_, bx4.put (by simp) nLb, vs ++ [v], upd_same, by simp [hv2], fun u hu => ?_⟩⟩
      · have st34 := st3.trans st4
        refine ⟨fun a o ha e => ?_, fun a e => st34.al a (upd_none e).2⟩
        rw [upd_ne (ne_of_none e hL)]
        exact st34.keep a o ha e
      · refine Vg.same ?_ off_put
        rcases List.mem_append.mp hu with hu | hu
        · exact (hv3 u hu).same (st4.offb bx3.mem)
        · rw [List.mem_singleton.mp hu]
          exact hv
    · rintro H3 ⟨st3, bx3, vs, hv1, hv2, hv3⟩
      refine q _ H3 (st1.trans (st2.trans st3)) (bx3.less bx2.mem) ?_
      have h1 := Vg.lst (fun v hv => (hv3 v hv).same off_less) (off_in bx2.al hL hv1)
      refine h1.mono (Nat.le_refl _) ?_ (Nat.le_refl _)
      rw [hv2]
      have : y.toNat * sW k ≤ 4 * sW k := Nat.mul_le_mul_right _ (by omega)
      show 1 + y.toNat * sW k ≤ 1 + 4 * sW k
      omega
  · refine ⟨_, rfl, _, _, rfl, rfl, _, rfl, ifS (fun _ => ?_) (fun _ => ?_)⟩
    · -- a record
      refine fun r hr0 => ?_
      have bx2 : Box (r :: M) (upd H1 r (.dK [])) b := bx1.also hr0
      refine ⟨by show 4 ≤ sizeLine; decide, fun p hp => ⟨p, rfl, ⟨_, SqL.of upd_same⟩, ?_⟩⟩
      have nrp : r ≠ p := ne_of_none upd_same hp
      have nrb : r ≠ b := bx1.ne hr0
      have npb : p ≠ b := bx2.ne hp
      have bx3 := bx2.same (same_new hp (.lst [.str "u", .str "x", .str "y", .str "z"]))
      have st12 : Stp [b, r] H1 (upd (upd H1 r (.dK [])) p (.lst [.str "u", .str "x", .str "y", .str "z"])) := (Stp.new hr0).trans (Stp.new hp)
      refine for_list (K := K) (a := p) (xs := [.str "u", .str "x", .str "y", .str "z"]) (fun i σ H' => Stp [b, r] (upd (upd H1 r (.dK [])) p (.lst [.str "u", .str "x", .str "y", .str "z"])) H' ∧ Box (r :: M) H' b ∧ (∃ kvs, H' r = some (.dK kvs) ∧ RecOk k (sW k) 1000 (off (r :: M) H') kvs ∧ kvs.length ≤ i) ∧
          ∃ v, σ = [some (.ref b), some (.int ((k + 1 : Nat) : Int)), some (.int z), some (.ref r), v, none])
        ⟨Stp.refl, bx3, ⟨[], by rw [upd_ne nrp, upd_same], ⟨⟨[], rfl, by simp, by simp⟩, by simp⟩, Nat.le_refl _⟩, _, rfl⟩ (fun i σ H' _ h => SqL.of (h.1.keep _ _ (by simp [npb, nrp.symm]) upd_same)) ?_ ?_
      · rintro i x σ H3 hx ⟨st3, bx3, ⟨kvs, hk1, hk2, hk3⟩, v, rfl⟩
        have hi4 : i < 4 := (List.getElem?_eq_some_iff.mp hx).1
        obtain ⟨y, rfl, hy⟩ : ∃ y, x = V.str y ∧ nm1 y := by
          have hm := List.mem_of_getElem? hx
          have : x ∈ (["u", "x", "y", "z"] : List Str).map V.str := hm
          obtain ⟨y, hy, e⟩ := List.mem_map.mp this
          exact ⟨y, e.symm, nm1_of (uxyz y hy)⟩
        refine ⟨_, rfl, b, 2, r :: M, rfl, by decide, bx3, fun g H4 g0 g2 st4 bx4 => ?_⟩
        have hr4 : H4 r = some (.dK kvs) := st4.keep _ _ (by simpa using nrb) hk1
        have st34 := st3.trans (st4.mono (M' := [b, r]) (by simp))
        have rec4 : RecOk k (sW k) 1000 (off (r :: M) H4) kvs := hk2.same (st4.offb bx3.mem)
        refine ⟨rfl, _, rfl, ifS (fun _ => ?_) (fun _ => ⟨st34, bx4, ⟨kvs, hr4, rec4, by omega⟩, _, rfl⟩)⟩
        refine ⟨_, rfl, _, rfl, _, _, rfl, rfl, b, r :: M, arg, bx4, fun u H5 st5 bx5 hu => ?_⟩
        have hr5 : H5 r = some (.dK kvs) := st5.keep _ _ (by simpa using nrb) hr4
        refine ⟨_, rfl, _, rfl, r, _, rfl, DPut.k (k := Sum.inr y) hr5 (line_lt (by omega)), ?_⟩
        refine ⟨(st34.trans (st5.mono (M' := [b, r]) (by simp))).trans (Stp.put (by simp)), bx5.put (by simp) nrb, ⟨_, upd_same, ?_, ?_⟩, _, rfl⟩
        · exact ((rec4.same (st5.offb bx4.mem)).put hy hu).same off_put
        · have := length_putK kvs (Sum.inr y) u
          omega
      · rintro σ H3 ⟨st3, bx3, ⟨kvs, hk1, hk2, hk3⟩, v, rfl⟩
        have st13 := st12.trans st3
        refine ⟨_, rfl, q _ H3 (st1.trans ⟨fun a o ha e => st13.keep a o ?_ e, st13.al⟩) (bx3.less bx1.mem) ?_⟩
        · have : a ≠ r := ne_of_none e hr0
          simp only [List.mem_singleton] at ha
          simp [ha, this]
        · have h1 := Vg.rcd (hk2.same off_less) (off_in bx1.al hr0 hk1)
          refine h1.mono (Nat.le_refl _) ?_ (Nat.le_refl _)
          have h4 : kvs.length ≤ 4 := hk3
          have : kvs.length * sW k ≤ 4 * sW k := Nat.mul_le_mul_right _ h4
          show 1 + kvs.length * sW k ≤ 1 + 4 * sW k
          omega
    · -- a choice
      refine ⟨by show 4 ≤ sizeLine; decide, fun p hp => ?_⟩
      have e1 := same_new hp (.lst [.str "p", .str "q", .str "r", .str "s"])
      refine ⟨_, rfl, b, 4, M, rfl, by decide, bx1.same e1, fun g H2 g0 g4 st2 bx2 => ?_⟩
      have npb : p ≠ b := bx1.ne hp
      have hp2 : H2 p = some (.lst [.str "p", .str "q", .str "r", .str "s"]) := st2.keep _ _ (by simpa using npb) upd_same
      obtain ⟨y, hy, hyn⟩ : ∃ y, ([.str "p", .str "q", .str "r", .str "s"] : List V)[g.toNat]? = some (.str y) ∧ nm1 y := by
        have hlt : g.toNat < (["p", "q", "r", "s"] : List Str).length := by show g.toNat < 4; omega
        refine ⟨(["p", "q", "r", "s"] : List Str)[g.toNat], ?_, nm1_of (pqrs _ (List.getElem_mem hlt))⟩
        show ((["p", "q", "r", "s"] : List Str).map V.str)[g.toNat]? = _
        rw [List.getElem?_map, List.getElem?_eq_getElem hlt]
        rfl
      refine ⟨p, _, _, _, rfl, rfl, SqL.of hp2, at_of (j := g.toNat) (by omega) hy, _, rfl, _, rfl, _, _, rfl, rfl, b, M, arg, bx2, fun v H3 st3 bx3 hv => ⟨by show 2 ≤ sizeLine; decide, fun t nt => ?_⟩⟩
      have e2 := same_new nt (.tup [.str y, v])
      refine q _ _ ((st1.trans (Stp.of_same e1)).trans ((st2.trans st3).trans (Stp.of_same e2))) (bx3.same e2) ?_
      have h1 := Vg.cho (hv.same (offs_same e2)) hyn (off_in bx3.al nt upd_same)
      refine h1.mono (Nat.le_refl _) ?_ (Nat.le_refl _)
      show 1 + sW k ≤ 1 + 4 * sW k
      omega
theorem ok_wild (h : Has K mg "_law_wild" s_l_wild p_l_wild) (T : Txt K mg C kA) (c_l_draw : Cal P w K mg base 1 "_law_draw" spDraw []) (c_l_drawn : Cal P w K mg base 2 "_law_drawn" spDrawn []) : ∀ n, Cal P w K mg base (n + 3) "_law_wild" (spWild n) []
  | 0 => ok_wild_at h T c_l_draw c_l_drawn (Cal.mono (cal_never h) (Nat.zero_le _))
  | n + 1 => ok_wild_at h T c_l_draw c_l_drawn (ok_wild h T c_l_draw c_l_drawn n)
end
end Ff
/-! The law, 3: spoilt values. -/
namespace Ff
open PySem L2 C8
theorem gd_lst {b : Nat} {xs : List D} (h : ∀ d ∈ xs, d.gd b) : (D.lst xs).gd b := by
  simp only [D.gd]
  exact gdL_iff.mpr h
/-! ### slices -/
theorem cut_take {xs : List V} {j : Nat} (h : j ≤ xs.length) : cutV xs none (some (j : Int)) = xs.take j := by
  unfold cutV
  rw [HT.sIx_none, HT.sIx_nat, List.drop_zero, Nat.sub_zero, Nat.min_eq_left h]
theorem cut_drop {xs : List V} {j : Nat} : cutV xs (some (j : Int)) none = xs.drop j := by
  unfold cutV
  rw [HT.sIx_none, HT.sIx_nat]
  by_cases h : j ≤ xs.length
  · rw [Nat.min_eq_left h]
    exact List.take_of_length_le (by rw [List.length_drop]; exact Nat.le_refl _)
  · rw [Nat.min_eq_right (by omega), List.drop_of_length_le (Nat.le_refl _), List.drop_of_length_le (by omega), List.take_nil]
/-! ### dict(pairs) -/
theorem valV_none_of {kvs : List (Key × V)} {k : Key} (h : k ∉ kvs.map (·.1)) : valV kvs k = none := by
  induction kvs with
  | nil => rfl
  | cons p r ih =>
    rw [List.map_cons, List.mem_cons, not_or] at h
    rw [valV_neg (fun e => h.1 e.symm)]
    exact ih h.2
theorem mergeK_nd : ∀ (more acc : List (Key × V)), ((acc ++ more).map (·.1)).Nodup → mergeK acc more = acc ++ more
  | [], acc, _ => by rw [List.append_nil]; rfl
  | kv :: more, acc, nd => by
    show mergeK (putK acc kv.1 kv.2) more = _
    have hn : kv.1 ∉ acc.map (·.1) := by
      rw [List.map_append, List.map_cons] at nd
      intro hm
      exact (List.nodup_append.mp nd).2.2 _ hm _ List.mem_cons_self rfl
    rw [putK_new _ (valV_none_of hn)]
    have e : acc ++ kv :: more = (acc ++ [kv]) ++ more := by simp
    rw [mergeK_nd more (acc ++ [(kv.1, kv.2)]) (by rw [show ((kv.1, kv.2) : Key × V) = kv from rfl, ← e]; exact nd), show ((kv.1, kv.2) : Key × V) = kv from rfl, ← e]
/-! ### some fields of a record -/
def recN (fs : List (Str × D)) (ys : List Str) : List (Str × D) := ys.map fun y => (y, (look fs y).getD (.int 0))
theorem recN_size (fs : List (Str × D)) (ys : List Str) : sizeF (recN fs ys) = sizeL (byN fs ys) := by
  rw [← sizeL_snd]
  unfold recN byN
  rw [List.map_map]
  rfl
theorem recN_filter (fs : List (Str × D)) (p : Str → Bool) : ∀ ys : List Str, sizeF (recN fs (ys.filter p)) ≤ sizeF (recN fs ys)
  | [] => Nat.le_refl _
  | y :: ys => by
    have ih := recN_filter fs p ys
    rw [List.filter_cons]
    split
    · simp only [recN, List.map_cons, sizeF] at *; omega
    · simp only [recN, List.map_cons, sizeF] at *; omega
theorem recN_names (fs : List (Str × D)) (ys : List Str) : (recN fs ys).map (·.1) = ys := by
  unfold recN
  rw [List.map_map]
  exact (List.map_congr_left fun y _ => rfl).trans (List.map_id ys)
theorem recN_gd {b : Nat} {fs : List (Str × D)} (g : gdF b fs) {ys : List Str} (h : ∀ y ∈ ys, y ∈ fs.map (·.1)) : gdF b (recN fs ys) := by
  refine gdF_iff.mpr fun p hp => ?_
  obtain ⟨y, hy, rfl⟩ := List.mem_map.mp hp
  obtain ⟨d, hd⟩ := look_some.mpr (h y hy)
  have := gdF_iff.mp g _ (look_mem hd)
  show nm1 y ∧ ((look fs y).getD (.int 0)).gd b
  rw [hd]
  exact this
theorem recN_rep {n : Nat} {G : Hp} {fs : List (Str × D)} {kvs : List (Key × V)} (hp : Paired (fun kv f => kv.1 = Sum.inr f.1 ∧ Sub n G kv.2 f.2) kvs fs) : ∀ (kvs' : List (Key × V)) (ys : List Str), kvs'.map (·.1) = ys.map Sum.inr → (∀ kv ∈ kvs', valV kvs kv.1 = some kv.2) → Paired (RepF n G) kvs' (recN fs ys)
  | [], ys, e, _ => by
    cases ys with
    | nil => exact .nil
    | cons y ys => simp at e
  | kv :: kvs', ys, e, h => by
    cases ys with
    | nil => simp at e
    | cons y ys =>
      rw [List.map_cons, List.map_cons] at e
      injection e with e1 e2
      refine .cons ⟨e1, ?_⟩ (recN_rep hp kvs' ys e2 fun w hw => h w (List.mem_cons_of_mem _ hw))
      have h1 := h kv List.mem_cons_self
      rw [e1] at h1
      rcases look_val y hp with ⟨_, h2⟩ | ⟨v, d, h2, h3, h4⟩
      · rw [h2] at h1; cases h1
      · rw [h3] at h1; cases h1
        show Rep n G kv.2 ((look fs y).getD (.int 0))
        rw [h2]
        exact h4.rep
/-- a field that is replaced -/
def repN (fs : List (Str × D)) (k : Str) (d : D) : List (Str × D) := fs.map fun f => if f.1 = k then (f.1, d) else f
theorem repN_names (fs : List (Str × D)) (k : Str) (d : D) : (repN fs k d).map (·.1) = fs.map (·.1) := by
  unfold repN
  rw [List.map_map]
  refine List.map_congr_left fun f _ => ?_
  show (if f.1 = k then (f.1, d) else f).1 = f.1
  split <;> rfl
theorem repN_size {k : Str} {d e : D} : ∀ {fs : List (Str × D)}, (fs.map (·.1)).Nodup → look fs k = some e → sizeF (repN fs k d) + e.size = sizeF fs + d.size
  | [], _, h => by cases h
  | (n, x) :: r, nd, h => by
    have nd' := List.nodup_cons.mp nd
    rw [look_cons] at h
    unfold repN
    rw [List.map_cons]
    by_cases c : n = k
    · rw [if_pos c] at h
      cases h
      have e1 : r.map (fun f => if f.1 = k then (f.1, d) else f) = r := by
        refine (List.map_congr_left fun f hf => ?_).trans (List.map_id r)
        show (if f.1 = k then (f.1, d) else f) = f
        rw [if_neg]
        intro e2
        exact nd'.1 (by show n ∈ _; rw [c, ← e2]; exact List.mem_map_of_mem hf)
      rw [e1]
      dsimp only
      rw [if_pos c]
      simp only [sizeF]
      omega
    · rw [if_neg c] at h
      have ih := repN_size nd'.2 h (d := d)
      unfold repN at ih
      dsimp only
      rw [if_neg c]
      simp only [sizeF]
      omega
theorem repN_rep {n : Nat} {G : Hp} {k : Str} {v : V} {d : D} (hv : Rep n G v d) : ∀ {kvs : List (Key × V)} {fs : List (Str × D)}, Paired (RepF n G) kvs fs → Paired (RepF n G) (kvs.map fun kv => if kv.1 = Sum.inr k then (kv.1, v) else kv) (repN fs k d)
  | _, _, .nil => .nil
  | _, _, .cons (a := a) (b := b) r t => by
    refine .cons ?_ (repN_rep hv t)
    dsimp only
    by_cases c : b.1 = k
    · rw [if_pos c, if_pos (by rw [r.1, c])]
      exact ⟨r.1, hv⟩
    · rw [if_neg c, if_neg (by rw [r.1]; intro z; exact c (Sum.inr.inj z))]
      exact r
theorem putK_old {kvs : List (Key × V)} {k : Key} {v : V} (h : k ∈ kvs.map (·.1)) : putK kvs k v = kvs.map fun kv => if kv.1 = k then (kv.1, v) else kv := by
  obtain ⟨p, hp, e⟩ := List.mem_map.mp h
  unfold putK
  rw [if_pos (List.any_eq_true.mpr ⟨p, hp, decide_eq_true e⟩)]
section
variable {P : Program} {w : World} {K : PySem.W.Frag} {mg : Str → Option Value} {base : Heap} {C kA : Addr}
/-- [(other, value[other]) for other in sorted(value) if other != ..] -/
theorem nd_inr : ∀ {ys : List Str}, ys.Nodup → (ys.map (Sum.inr : Str → Key)).Nodup
  | [], _ => .nil
  | y :: ys, h => by
    obtain ⟨h1, h2⟩ := List.nodup_cons.mp h
    refine List.nodup_cons.mpr ⟨fun hm => ?_, nd_inr h2⟩
    obtain ⟨z, hz, e⟩ := List.mem_map.mp hm
    exact h1 (Sum.inr.inj e ▸ hz)
theorem fields_comp {a : Addr} {kvs : List (Key × V)} {ks : List Str} {nm : Str} {tb : TE} {x0 x2 x3 x4 x5 : Option V} {H : Hp} {Q : VK} (ha : H a = some (.dK kvs)) (hk : kvs.map (·.1) = ks.map Sum.inr) (hl : ks.length ≤ 8)
    (htb : ∀ (y : V) (H' : Hp) (Q : VK), Q (.str nm) H' → tb [x0, some (.ref a), x2, x3, x4, x5, some y] H' Q)
    (h : ∀ (L : Addr) (H' : Hp) (ys : List Str) (ps : List Addr) (kvs' : List (Key × V)), Same H H' → H L = none → H' L = some (.lst (ps.map V.ref)) → ys.Perm ks → Paired (fun p (kv : Key × V) => SqT K H' p [kV kv.1, kv.2]) ps kvs' → kvs'.map (·.1) = (ys.filter fun y => !decide (y = nm)).map Sum.inr → (∀ kv ∈ kvs', valV kvs kv.1 = some kv.2) → Q (.ref L) H') :
    tLc (iList K (tCB rSD (tCons (tVar 1) tNil))) (gName 6) (tTest (tOp rNe (tVar 6) tb)) (tTup (tCons (tVar 6) (tCons (tDGet (tVar 1) (tVar 6)) tNil))) [6] [x0, some (.ref a), x2, x3, x4, x5, none] H Q := by
  refine ⟨_, rfl, a, kvs, ks, rfl, .inl ha, hk, by omega, fun ys p hp _ np => ?_⟩
  have s1 := same_new np (.lst (ys.map V.str))
  refine ⟨p, rfl, ⟨_, SqL.of upd_same⟩, fun L hL => ?_⟩
  refine lc_list (K := K) (xs := ys.map V.str) (fun i H' => Same (upd H p (.lst (ys.map V.str))) H' ∧ ∃ (ps : List Addr) (kvs' : List (Key × V)), H' L = some (.lst (ps.map V.ref)) ∧ Paired (fun p (kv : Key × V) => H' p = some (.tup [kV kv.1, kv.2])) ps kvs' ∧ kvs'.map (·.1) = ((ys.take i).filter fun y => !decide (y = nm)).map Sum.inr ∧ ∀ kv ∈ kvs', valV kvs kv.1 = some kv.2)
    ⟨same_new hL _, [], [], upd_same, .nil, by simp, by simp⟩ (fun i H' _ h => SqL.of (h.1 _ _ upd_same)) ?_ ?_
  · rintro i x H' hx ⟨sm, ps, kvs', hL', hps, hks, hvs⟩
    rw [List.getElem?_map] at hx
    obtain ⟨y, hy, rfl⟩ := Option.map_eq_some_iff.mp hx
    have et : ys.take (i + 1) = ys.take i ++ [y] := by rw [List.take_add_one, hy]; rfl
    refine ⟨rfl, _, rfl, htb _ _ _ ⟨rfl, _, rfl, ifNS (fun c => ?_) (fun c => ?_)⟩⟩
    · have hm : Sum.inr y ∈ kvs.map (·.1) := by
        rw [hk]
        exact List.mem_map_of_mem (hp.mem_iff.mp (List.mem_of_getElem? hy))
      obtain ⟨v, hv⟩ := valV_some hm
      have ha' : H' a = some (.dK kvs) := sm _ _ (s1 _ _ ha)
      refine ⟨_, rfl, _, rfl, _, rfl, a, v, rfl, hv ▸ DGet.k (k := Sum.inr y) ha', by show 2 ≤ sizeLine; decide, fun t ht => ?_⟩
      have nLt : L ≠ t := ne_of_none hL' ht
      have hlen : ps.length ≤ 8 := by
        have h1 := hps.length
        have h2 := congrArg List.length hks
        have h3 := hp.length_eq
        rw [List.length_map, List.length_map] at h2
        have h4 := List.length_filter_le (fun y => !decide (y = nm)) (ys.take i)
        rw [List.length_take] at h4
        omega
      refine ⟨ps.map V.ref, by rw [upd_ne nLt]; exact hL', by rw [List.length_map]; exact line_lt (by omega), ?_, ps ++ [t], kvs' ++ [(Sum.inr y, v)], by rw [upd_same, List.map_append]; rfl, ?_, ?_, ?_⟩
      · intro b o e
        rw [upd_ne (ne_of_none e hL), upd_ne (ne_of_none (sm _ _ e) ht)]
        exact sm _ _ e
      · refine paired_append ?_ (.cons (by rw [upd_ne nLt.symm, upd_same]; rfl) .nil)
        refine L2.Paired.mapP hps fun t' kv h2 => ?_
        rw [upd_ne (ne_of h2 hL' (by intro z; cases z)), upd_ne (ne_of_none h2 ht)]
        exact h2
      · rw [et, List.map_append, hks, List.filter_append, List.map_append]
        have c2 : ¬ y = nm := fun e => c (vstr.mpr e)
        simp [c2]
      · intro kv hkv
        rcases List.mem_append.mp hkv with hkv | hkv
        · exact hvs kv hkv
        · rw [List.mem_singleton.mp hkv]; exact hv
    · refine ⟨sm, ps, kvs', hL', hps, ?_, hvs⟩
      rw [et, List.filter_append, List.map_append, hks]
      have c2 : y = nm := vstr.mp c
      simp [c2]
  · rintro H' ⟨sm, ps, kvs', hL', hps, hks, hvs⟩
    rw [List.length_map, List.take_length] at hks
    exact h L H' ys ps kvs' (s1.trans sm) (s1.free hL) hL' hp (L2.Paired.mapP hps fun p kv z => SqT.of z) hks hvs

def spSp (n : Nat) : Sp := fun vs H Q _ => ∃ (b : Addr) (M : List Addr) (v : V) (d : D), vs = [.ref b, v] ∧ Box M H b ∧ Sub n (off M H) v d ∧ d.gd 1000 ∧ d.size ≤ 300 ∧ ∀ v' H', Stp [b] H H' → Box M H' b → Vg n (2 * d.size + 17) 1100 (off M H') v' → Q v' H'
theorem ok_spoil_succ {n : Nat} (h : Has K mg "_law_spoilt" s_l_spoilt p_l_spoilt) (T : Txt K mg C kA) (c_l_draw : Cal P w K mg base 1 "_law_draw" spDraw []) (c_l_drawn : Cal P w K mg base 2 "_law_drawn" spDrawn []) (c_l_is_integer : Cal P w K mg base 1 "_law_is_integer" spIsInt [])
    (c_l_wild : Cal P w K mg base 4 "_law_wild" (spWild 1) []) (c_l_spoilt : Cal P w K mg base (n + 5) "_law_spoilt" (spSp n) []) : Cal P w K mg base (n + 6) "_law_spoilt" (spSp (n + 1)) [] := by
  refine h.cal sc_l_spoilt (fun vs H Q E h => ?_) (fun f cdv A outer s H vs Q E hr h => ?_)
  · obtain ⟨b, M, v, d, rfl, _⟩ := h
    rfl
  obtain ⟨b, M, v, d, rfl, bx, hd, gd, sz, q⟩ := h
  have hd : Rep n (off M H) v d := hd
  have spos := size_pos d
  refine ⟨_, (pss_cons (ps_if (pt_cmpR op_eq (pe_c c_l_draw hr (by omega) rfl (pa_cons (pv 0) (pa_cons pe_int pa_nil))) pe_int (nomark _)) (pss_one (ps_ret (pe_c c_l_wild hr (by omega) rfl (pa_cons (pv 0) (pa_cons pe_int pa_nil))))) pss_nil)
      (pss_cons (ps_if (PW.pt (pw_and (pt_val (pe_callB call_isi rfl T.z_isinstance (by decide +kernel) (pa_cons (pv 1) (pa_cons (pe_bltn (v := .ty "list") (u := .type "list") rfl T.z_list (by decide +kernel) rfl) pa_nil)))) (pw_and1 (pt_cmpR op_gt (pe_callB call_len_seq rfl T.z_len (by decide +kernel) (pa_cons (pv 1) pa_nil)) pe_int (nomark _))))) (pss_cons (ps_set (i := 2) sc_l_spoilt.nd rfl (Or.inl rfl) (pe_c c_l_draw hr (by omega) rfl (pa_cons (pv 0) (pa_cons (pe_callB call_len_seq rfl T.z_len (by decide +kernel) (pa_cons (pv 1) pa_nil)) pa_nil))))
        (pss_cons (ps_set (i := 3) sc_l_spoilt.nd rfl (Or.inl rfl) (pe_c c_l_draw hr (by omega) rfl (pa_cons (pv 0) (pa_cons pe_int pa_nil))))
        (pss_cons (ps_if (pt_cmpR op_eq (pv 3) pe_int (nomark _)) (pss_one (ps_ret (pe_op op_cat (pe_slice sl_list (pv 1) po_none (po_some (pv 2))) (pe_slice sl_list (pv 1) (po_some (pe_op op_add (pv 2) pe_int)) po_none)))) pss_nil)
        (pss_cons (ps_if (pt_cmpR op_eq (pv 3) pe_int (nomark _)) (pss_one (ps_ret (pe_op op_cat (pv 1) (pe_slice sl_list (pv 1) (po_some (pv 2)) po_none)))) pss_nil)
        (pss_one (ps_ret (pe_op op_cat (pe_op op_cat (pe_slice sl_list (pv 1) po_none (po_some (pv 2))) (pe_lst (pa_cons (pe_c c_l_spoilt hr (by omega) rfl (pa_cons (pv 0) (pa_cons (pe_ix ix_list (pv 1) (pv 2) (fun _ _ => rfl)) pa_nil))) pa_nil))) (pe_slice sl_list (pv 1) (po_some (pe_op op_add (pv 2) pe_int)) po_none)))))))) pss_nil)
      (pss_cons (ps_if (PW.pt (pw_and (pt_val (pe_callB call_isi rfl T.z_isinstance (by decide +kernel) (pa_cons (pv 1) (pa_cons (pe_bltn (v := .ty "dict") (u := .type "dict") rfl T.z_dict (by decide +kernel) rfl) pa_nil)))) (pw_and1 (pt_cmpR op_gt (pe_callB call_lenD rfl T.z_len (by decide +kernel) (pa_cons (pv 1) pa_nil)) pe_int (nomark _))))) (pss_cons (ps_set (i := 4) sc_l_spoilt.nd rfl (Or.inr rfl) (pe_c c_l_drawn hr (by omega) rfl (pa_cons (pv 0) (pa_cons (pe_callB (call_sD rfl) rfl T.z_sorted (by decide +kernel) (pa_cons (pv 1) pa_nil)) pa_nil))))
        (pss_cons (ps_set (i := 3) sc_l_spoilt.nd rfl (Or.inl rfl) (pe_c c_l_draw hr (by omega) rfl (pa_cons (pv 0) (pa_cons pe_int pa_nil))))
        (pss_cons (ps_if (pt_cmpR op_eq (pv 3) pe_int (nomark _)) (pss_one (ps_ret (pe_callTy (call_dictP rfl) rfl T.z_dict (by decide +kernel) (pa_cons (pe_lc (own := [("_law_other", 6)]) (g := gName 6) rfl sc_l_spoilt.nd (pi_list (pe_callB (call_sD rfl) rfl T.z_sorted (by decide +kernel) (pa_cons (pv 1) pa_nil))) (blkOk_by (own := [("_law_other", 6)]) (N := n_l_spoilt) (sc := fnScope s_l_spoilt) (by decide +kernel)) (fun _ _ _ _ _ => pg_name (i := 6) sc_l_spoilt.nd rfl (Or.inl rfl)) (fun _ _ _ _ _ => (pts_one (pt_cmpR op_ne (pv 6) (pv 4) (nomark _)))) (fun _ _ _ _ _ => (pe_tup (pa_cons (pv 6) (pa_cons (pe_dget (hu_of hr) (pv 1) (pv 6) (fun _ _ => rfl)) pa_nil))))) pa_nil)))) pss_nil)
        (pss_cons (ps_if (pt_cmpR op_eq (pv 3) pe_int (nomark _)) (pss_one (ps_ret (pe_callTy (call_dictP rfl) rfl T.z_dict (by decide +kernel) (pa_cons (pe_op op_cat (pe_lst (pa_cons (pe_tup (pa_cons pe_str (pa_cons pe_int pa_nil))) pa_nil)) (pe_lc (own := [("_law_other", 6)]) (g := gName 6) rfl sc_l_spoilt.nd (pi_list (pe_callB (call_sD rfl) rfl T.z_sorted (by decide +kernel) (pa_cons (pv 1) pa_nil))) (blkOk_by (own := [("_law_other", 6)]) (N := n_l_spoilt) (sc := fnScope s_l_spoilt) (by decide +kernel)) (fun _ _ _ _ _ => pg_name (i := 6) sc_l_spoilt.nd rfl (Or.inl rfl)) (fun _ _ _ _ _ => (pts_one (pt_cmpR op_ne (pv 6) pe_str (nomark _)))) (fun _ _ _ _ _ => (pe_tup (pa_cons (pv 6) (pa_cons (pe_dget (hu_of hr) (pv 1) (pv 6) (fun _ _ => rfl)) pa_nil)))))) pa_nil)))) pss_nil)
        (pss_cons (ps_set (i := 5) sc_l_spoilt.nd rfl (Or.inl rfl) (pe_callTy call_dictC rfl T.z_dict (by decide +kernel) (pa_cons (pv 1) pa_nil)))
        (pss_cons (ps_dput (hu_of hr) (pv 5) (pv 4) (pe_c c_l_spoilt hr (by omega) rfl (pa_cons (pv 0) (pa_cons (pe_dget (hu_of hr) (pv 1) (pv 4) (fun _ _ => rfl)) pa_nil))) rfl)
        (pss_one (ps_ret (pv 5))))))))) pss_nil)
      (pss_cons (ps_if (pt_val (pe_callB call_isi rfl T.z_isinstance (by decide +kernel) (pa_cons (pv 1) (pa_cons (pe_bltn (v := .ty "tuple") (u := .type "tuple") rfl T.z_tuple (by decide +kernel) rfl) pa_nil)))) (pss_cons (ps_if (pt_cmpR op_eq (pe_c c_l_draw hr (by omega) rfl (pa_cons (pv 0) (pa_cons pe_int pa_nil))) pe_int (nomark _)) (pss_one (ps_ret (pe_tup (pa_cons (pe_ix ix_list (pe_lst (pa_cons pe_str (pa_cons pe_str (pa_cons pe_str (pa_cons pe_str pa_nil))))) (pe_c c_l_draw hr (by omega) rfl (pa_cons (pv 0) (pa_cons pe_int pa_nil))) (fun _ _ => rfl)) (pa_cons (pe_ix ix_tup (pv 1) pe_int (fun _ _ => rfl)) pa_nil))))) pss_nil)
        (pss_one (ps_ret (pe_tup (pa_cons (pe_ix ix_tup (pv 1) pe_int (fun _ _ => rfl)) (pa_cons (pe_c c_l_spoilt hr (by omega) rfl (pa_cons (pv 0) (pa_cons (pe_ix ix_tup (pv 1) pe_int (fun _ _ => rfl)) pa_nil))) pa_nil)))))) pss_nil)
      (pss_cons (ps_if (pt_val (pe_c c_l_is_integer hr (by omega) rfl (pa_cons (pv 1) pa_nil))) (pss_one (ps_ret (pe_op op_add (pv 1) (pe_c c_l_drawn hr (by omega) rfl (pa_cons (pv 0) (pa_cons (pe_lst (pa_cons pe_int (pa_cons (pe_un un_neg pe_int) (pa_cons pe_int (pa_cons (pe_un un_neg pe_int) pa_nil))))) pa_nil)))))) pss_nil)
      (pss_one (ps_ret (pe_c c_l_wild hr (by omega) rfl (pa_cons (pv 0) (pa_cons pe_int pa_nil)))))))))), ?_⟩
  -- a wild one in its place
  have wild : ∀ {N : Ends} {σ : L2.St} {H1 : Hp}, N.rt = Q → σ[0]? = some (some (.ref b)) → Stp [b] H H1 → Box M H1 b → tRet (tCall (spWild 1) [] C8.E0 (tCons (tVar 0) (tCons (tC (.int 1)) tNil))) N σ H1 := by
    rintro N σ H1 rfl h0 st bx1
    refine ⟨_, h0, b, M, rfl, bx1, fun u H2 st2 bx2 hu => q u H2 (st.trans st2) bx2 (hu.mono (by omega) ?_ (by omega))⟩
    have : sW 1 = 17 := rfl
    omega
  refine ⟨_, rfl, b, 5, M, rfl, by decide, bx, fun z H1 z0 z5 st1 bx1 => ?_⟩
  refine ⟨rfl, _, rfl, ifS (fun _ => wild rfl rfl st1 bx1) (fun _ => ?_)⟩
  have hd1 : Rep n (off M H1) v d := hd.same (st1.offb bx.mem)
  have hf1 : Rep n H1 v d := hd1.same off_full
  rw [rep_eq] at hd1
  have isI := hf1
  cases d with
  | int i =>
    obtain rfl : v = .int i := hd1
    refine isiB hf1 rfl (by decide) (ifF (by simp [tyN]) (iteF ?_))
    refine isiB hf1 rfl (by decide) (ifF (by simp [tyN]) (iteF ?_))
    refine isiB hf1 rfl (by decide) (ifF (by simp [tyN]) ?_)
    refine ⟨_, rfl, n, _, _, rfl, hf1, _, rfl, ifT (by simp [tyN]) ?_⟩
    refine ⟨_, rfl, _, rfl, _, rfl, _, rfl, by show 4 ≤ sizeLine; decide, fun p hp => ?_⟩
    have e1 := same_new hp (.lst [.int 1, .int (-1), .int 3, .int (-4)])
    have bx2 := bx1.same e1
    refine ⟨b, p, M, _, rfl, bx2, off_in bx1.al hp upd_same, by simp, fun x H2 hx st2 bx3 => ?_⟩
    obtain ⟨y, rfl, hy⟩ : ∃ y : Int, x = .int y ∧ y.natAbs ≤ 4 := by
      simp only [List.mem_cons, List.not_mem_nil, or_false] at hx
      rcases hx with rfl | rfl | rfl | rfl <;> exact ⟨_, rfl, by decide⟩
    refine ⟨i, y, rfl, rfl, q _ _ (st1.trans ((Stp.of_same e1).trans st2)) bx3 (Vg.int ?_ (by omega))⟩
    simp only [D.gd] at gd
    omega
  | str x =>
    refine isiB hf1 rfl (by decide) (ifF (by simp [tyN]) (iteF ?_))
    refine isiB hf1 rfl (by decide) (ifF (by simp [tyN]) (iteF ?_))
    refine isiB hf1 rfl (by decide) (ifF (by simp [tyN]) ?_)
    refine ⟨_, rfl, n, _, _, rfl, hf1, _, rfl, ifF (by simp [tyN]) ?_⟩
    exact wild rfl rfl st1 bx1
  | cho t x =>
    obtain ⟨a, u, rfl, ha, hsb⟩ := hd1
    have naM := (off_some.mp ha).1
    have ha1 := off_at ha
    simp only [D.gd, D.size] at gd sz q spos
    refine isiB hf1 rfl (by decide) (ifF (by simp [tyN]) (iteF ?_))
    refine isiB hf1 rfl (by decide) (ifF (by simp [tyN]) (iteF ?_))
    refine isiB hf1 rfl (by decide) (ifT (by simp [tyN]) ?_)
    refine ⟨_, rfl, b, 3, M, rfl, by decide, bx1, fun g H2 g0 g3 st2 bx2 => ?_⟩
    have ha2 : off M H2 a = some (.tup [.str t, u]) := (st2.offb bx1.mem) _ _ ha
    refine ⟨rfl, _, rfl, ifS (fun _ => ?_) (fun _ => ?_)⟩
    · -- another tag
      refine ⟨by show 4 ≤ sizeLine; decide, fun p hp => ?_⟩
      have e1 := same_new hp (.lst [.str "p", .str "q", .str "r", .str "s"])
      refine ⟨_, rfl, b, 4, M, rfl, by decide, bx2.same e1, fun g H3 g0 g4 st3 bx3 => ?_⟩
      have npb : p ≠ b := bx2.ne hp
      have hp3 : H3 p = some (.lst [.str "p", .str "q", .str "r", .str "s"]) := st3.keep _ _ (by simpa using npb) upd_same
      obtain ⟨y, hy, hyn⟩ : ∃ y, ([.str "p", .str "q", .str "r", .str "s"] : List V)[g.toNat]? = some (.str y) ∧ nm1 y := by
        have hlt : g.toNat < (["p", "q", "r", "s"] : List Str).length := by show g.toNat < 4; omega
        refine ⟨(["p", "q", "r", "s"] : List Str)[g.toNat], ?_, nm1_of (pqrs _ (List.getElem_mem hlt))⟩
        show ((["p", "q", "r", "s"] : List Str).map V.str)[g.toNat]? = _
        rw [List.getElem?_map, List.getElem?_eq_getElem hlt]
        rfl
      have ha3 : off M H3 a = some (.tup [.str t, u]) := (st3.offb bx2.mem) _ _ ((offs_same e1) _ _ ha2)
      have hsb3 : Sub n (off M H3) u x := ((hsb.same (st2.offb bx1.mem)).same (offs_same e1)).same (st3.offb bx2.mem)
      refine ⟨p, _, _, _, rfl, rfl, SqL.of hp3, at_of (j := g.toNat) (by omega) hy, _, rfl, a, _, _, u, rfl, rfl, SqT.of (off_at ha3), at_of (j := 1) rfl rfl, by show 2 ≤ sizeLine; decide, fun t2 nt => ?_⟩
      have e2 := same_new nt (.tup [.str y, u])
      refine q _ _ ((st1.trans st2).trans ((Stp.of_same e1).trans (st3.trans (Stp.of_same e2)))) (bx3.same e2) ?_
      refine ⟨.cho y x, ?_, by simp only [D.gd]; exact ⟨hyn, gd_mono (by omega) _ gd.2⟩, by simp only [D.size]; omega⟩
      exact ⟨t2, u, rfl, off_in bx3.al nt upd_same, (hsb3.same (offs_same e2)).rep⟩
    · -- its value is spoilt
      have hsb2 : Sub n (off M H2) u x := hsb.same (st2.offb bx1.mem)
      refine ⟨_, rfl, a, _, _, .str t, rfl, rfl, SqT.of (off_at ha2), at_of (j := 0) rfl rfl, _, rfl, _, rfl, a, _, _, u, rfl, rfl, SqT.of (off_at ha2), at_of (j := 1) rfl rfl, b, M, u, x, rfl, bx2, hsb2, gd.2, by omega, fun u2 H3 st3 bx3 hu2 => ⟨by show 2 ≤ sizeLine; decide, fun t2 nt => ?_⟩⟩
      have e2 := same_new nt (.tup [.str t, u2])
      refine q _ _ ((st1.trans st2).trans (st3.trans (Stp.of_same e2))) (bx3.same e2) ?_
      have h1 := Vg.cho (hu2.same (offs_same e2)) gd.1 (off_in bx3.al nt upd_same)
      exact h1.mono (Nat.le_refl _) (by omega) (Nat.le_refl _)
  | lst ds =>
    obtain ⟨a, us, rfl, ha, hp⟩ := hd1
    simp only [D.gd, D.size] at gd sz q spos
    have hul := hp.length
    have hdl := len_sizeL ds
    have ha1 := off_at ha
    refine isiB hf1 rfl (by decide) (ifT (by simp [tyN]) ?_)
    refine ⟨_, rfl, a, us, rfl, .inl (SqL.of ha1), _, _, rfl, rfl, _, rfl, ?_⟩
    by_cases h0 : (0 : Int) < (us.length : Int)
    case neg =>
      refine ifF h0 ?_
      refine isiB hf1 rfl (by decide) (ifF (by simp [tyN]) (iteF ?_))
      refine isiB hf1 rfl (by decide) (ifF (by simp [tyN]) ?_)
      refine ⟨_, rfl, n, _, _, rfl, hf1, _, rfl, ifF (by simp [tyN]) ?_⟩
      exact wild rfl rfl st1 bx1
    refine ifT h0 ?_
    refine ⟨_, rfl, _, rfl, a, us, rfl, .inl (SqL.of ha1), b, (us.length : Int), M, rfl, h0, bx1, fun g H2 g0 g1 st2 bx2 => ?_⟩
    refine ⟨_, rfl, b, 5, M, rfl, by decide, bx2, fun y H3 y0 y5 st3 bx3 => ?_⟩
    have st23 := st2.trans st3
    have ha3 : off M H3 a = some (.lst us) := (st23.offb bx1.mem) _ _ ha
    have hp3 : Paired (Sub n (off M H3)) us ds := paired_sub hp (st23.offb bx1.mem)
    obtain ⟨j, rfl⟩ : ∃ j : Nat, g = (j : Int) := ⟨g.toNat, by omega⟩
    have hj : j < us.length := by omega
    have hjd : j < ds.length := by omega
    have ej : ((j : Int) + 1) = ((j + 1 : Nat) : Int) := by omega
    have sdrop : sizeL (ds.take j) + sizeL (ds.drop j) = sizeL ds := by rw [← sizeL_append, List.take_append_drop]
    have sdrop1 : sizeL (ds.drop j) = ds[j].size + sizeL (ds.drop (j + 1)) := by rw [List.drop_eq_getElem_cons hjd]; simp [sizeL]
    have gt := gdL_iff.mp gd
    refine ⟨_, rfl, rfl, _, rfl, ifS (fun _ => ?_) (fun _ => ?_)⟩
    · -- one element less
      refine ⟨_, rfl, _, rfl, _, rfl, a, us, rfl, SqL.of (off_at ha3), fun p1 np1 => ?_⟩
      have e1 := same_new np1 (.lst (cutV us none (some (j : Int))))
      refine ⟨_, rfl, _, rfl, _, _, rfl, rfl, _, rfl, a, us, rfl, SqL.of (e1 _ _ (off_at ha3)), fun p2 np2 => ?_⟩
      have e2 := same_new np2 (.lst (cutV us (some ((j : Int) + 1)) none))
      have n12 : p1 ≠ p2 := ne_of_none upd_same np2
      refine ⟨p1, p2, _, _, rfl, rfl, by rw [upd_ne n12, upd_same], upd_same, ?_, fun p3 np3 => ?_⟩
      · have := cutV_length us none (some (j : Int))
        have := cutV_length us (some ((j : Int) + 1)) none
        exact line_small (by omega)
      have e3 := same_new np3 (.lst (cutV us none (some (j : Int)) ++ cutV us (some ((j : Int) + 1)) none))
      have e123 := (e1.trans e2).trans e3
      refine q _ _ ((st1.trans st23).trans (Stp.of_same e123)) (bx3.same e123) ?_
      rw [cut_take (by omega), ej, cut_drop]
      refine ⟨.lst (ds.take j ++ ds.drop (j + 1)), ?_, gd_lst fun d hd => ?_, by simp only [D.size, sizeL_append]; omega⟩
      · refine ⟨p3, _, rfl, off_in bx3.al ((e1.trans e2).free np3) upd_same, ?_⟩
        have := paired_append (paired_take j hp3) (paired_drop (j + 1) hp3)
        refine L2.Paired.mapP this fun _ _ z => ?_
        have z2 := (z.same (offs_same (M := M) e123)).rep
        rw [cut_take (by omega), ej, cut_drop] at z2
        exact z2
      · rcases List.mem_append.mp hd with hd | hd
        · exact gd_mono (by omega) _ (gt d (List.mem_of_mem_take hd))
        · exact gd_mono (by omega) _ (gt d (List.mem_of_mem_drop hd))
    refine ⟨_, rfl, rfl, _, rfl, ifS (fun _ => ?_) (fun _ => ?_)⟩
    · -- more elements
      refine ⟨_, rfl, _, rfl, _, rfl, _, rfl, a, us, rfl, SqL.of (off_at ha3), fun p1 np1 => ?_⟩
      have e1 := same_new np1 (.lst (cutV us (some (j : Int)) none))
      refine ⟨a, p1, _, _, rfl, rfl, e1 _ _ (off_at ha3), upd_same, ?_, fun p3 np3 => ?_⟩
      · have := cutV_length us (some (j : Int)) none
        exact line_small (by omega)
      have e3 := same_new np3 (.lst (us ++ cutV us (some (j : Int)) none))
      have e123 := e1.trans e3
      refine q _ _ ((st1.trans st23).trans (Stp.of_same e123)) (bx3.same e123) ?_
      rw [cut_drop]
      refine ⟨.lst (ds ++ ds.drop j), ?_, gd_lst fun d hd => ?_, by simp only [D.size, sizeL_append]; omega⟩
      · refine ⟨p3, _, rfl, off_in bx3.al (e1.free np3) upd_same, ?_⟩
        have := paired_append hp3 (paired_drop j hp3)
        refine L2.Paired.mapP this fun _ _ z => ?_
        have z2 := (z.same (offs_same (M := M) e123)).rep
        rw [cut_drop] at z2
        exact z2
      · rcases List.mem_append.mp hd with hd | hd
        · exact gd_mono (by omega) _ (gt d hd)
        · exact gd_mono (by omega) _ (gt d (List.mem_of_mem_drop hd))
    · -- one element is spoilt
      refine ⟨_, rfl, _, rfl, _, rfl, a, us, rfl, SqL.of (off_at ha3), fun p1 np1 => ?_⟩
      have e1 := same_new np1 (.lst (cutV us none (some (j : Int))))
      have hget : us[j]? = some us[j] := List.getElem?_eq_getElem hj
      obtain ⟨x, hx, hxs⟩ := paired_get hp3 hget
      have hx' : ds[j] = x := by rw [List.getElem?_eq_getElem hjd] at hx; exact Option.some.inj hx
      have bx4 := bx3.same e1
      refine ⟨_, rfl, _, rfl, _, rfl, a, us, _, us[j], rfl, rfl, SqL.of (e1 _ _ (off_at ha3)), at_of (j := j) rfl hget, b, M, us[j], x, rfl, bx4, hxs.same (offs_same e1), gt x (by rw [← hx']; exact List.getElem_mem hjd), by rw [← hx']; omega, fun u H5 st5 bx5 hu => ⟨by show 1 ≤ sizeLine; decide, fun p2 np2 => ?_⟩⟩
      have e2 := same_new np2 (.lst [u])
      have np1b : p1 ≠ b := bx3.ne np1
      have hp15 : H5 p1 = some (.lst (cutV us none (some (j : Int)))) := st5.keep _ _ (by simpa using np1b) upd_same
      refine ⟨p1, p2, _, _, rfl, rfl, e2 _ _ hp15, upd_same, ?_, fun p3 np3 => ?_⟩
      · have := cutV_length us none (some (j : Int))
        rw [List.length_singleton]
        exact line_small (by omega)
      have e3 := same_new np3 (.lst (cutV us none (some (j : Int)) ++ [u]))
      have ha5 : off M H5 a = some (.lst us) := (st5.offb bx4.mem) _ _ ((offs_same e1) _ _ ha3)
      refine ⟨_, rfl, _, rfl, _, _, rfl, rfl, _, rfl, a, us, rfl, SqL.of (e3 _ _ (e2 _ _ (off_at ha5))), fun p4 np4 => ?_⟩
      have e4 := same_new np4 (.lst (cutV us (some ((j : Int) + 1)) none))
      have n34 : p3 ≠ p4 := ne_of_none upd_same np4
      refine ⟨p3, p4, _, _, rfl, rfl, by rw [upd_ne n34, upd_same], upd_same, ?_, fun p5 np5 => ?_⟩
      · have := cutV_length us none (some (j : Int))
        have := cutV_length us (some ((j : Int) + 1)) none
        rw [List.length_append, List.length_singleton]
        exact line_small (by omega)
      have e5 := same_new np5 (.lst ((cutV us none (some (j : Int)) ++ [u]) ++ cutV us (some ((j : Int) + 1)) none))
      have e2345 := ((e2.trans e3).trans e4).trans e5
      have hp5 : Paired (Sub n (off M H5)) us ds := paired_sub (paired_sub hp3 (offs_same e1)) (st5.offb bx4.mem)
      refine q _ _ ((st1.trans st23).trans ((Stp.of_same e1).trans (st5.trans (Stp.of_same e2345)))) (bx5.same e2345) ?_
      obtain ⟨y, hy1, hy2, hy3⟩ := hu
      refine ⟨.lst ((ds.take j ++ [y]) ++ ds.drop (j + 1)), ?_, gd_lst fun d hd => ?_, ?_⟩
      · refine ⟨p5, _, rfl, off_in bx5.al (((e2.trans e3).trans e4).free np5) upd_same, ?_⟩
        rw [cut_take (by omega), ej, cut_drop]
        have h6 := L2.Paired.mapP hp5 fun _ _ z => (z.same (offs_same (M := M) e2345)).rep
        rw [cut_take (by omega), ej, cut_drop] at h6
        have h7 := hy1.same (offs_same (M := M) e2345)
        rw [cut_take (by omega), ej, cut_drop] at h7
        exact paired_append (paired_append (paired_take j h6) (.cons h7 .nil)) (paired_drop (j + 1) h6)
      · rcases List.mem_append.mp hd with hd | hd
        · rcases List.mem_append.mp hd with hd | hd
          · exact gd_mono (by omega) _ (gt d (List.mem_of_mem_take hd))
          · rw [List.mem_singleton.mp hd]; exact hy2
        · exact gd_mono (by omega) _ (gt d (List.mem_of_mem_drop hd))
      · simp only [D.size, sizeL_append, sizeL]
        rw [← hx'] at hy3
        omega
  | rcd fs =>
    obtain ⟨a, kvs, rfl, ha, nd, hp⟩ := hd1
    simp only [D.gd, D.size] at gd sz q spos
    have hkl := hp.length
    have ha1 := off_at ha
    refine isiB hf1 rfl (by decide) (ifF (by simp [tyN]) (iteF ?_))
    refine isiB hf1 rfl (by decide) (ifT (by simp [tyN]) ?_)
    refine ⟨_, rfl, a, kvs, rfl, ha1, _, _, rfl, rfl, _, rfl, ?_⟩
    by_cases h0 : (0 : Int) < (kvs.length : Int)
    case neg =>
      refine ifF h0 ?_
      refine isiB hf1 rfl (by decide) (ifF (by simp [tyN]) ?_)
      refine ⟨_, rfl, n, _, _, rfl, hf1, _, rfl, ifF (by simp [tyN]) ?_⟩
      exact wild rfl rfl st1 bx1
    refine ifT h0 ?_
    have hks := keys_of hp
    refine ⟨_, rfl, _, rfl, a, kvs, fs.map (·.1), rfl, .inl ha1, hks, by rw [List.length_map]; omega, fun ys p hperm _ np => ?_⟩
    have e1 := same_new np (.lst (ys.map V.str))
    refine ⟨b, p, M, _, rfl, bx1.same e1, off_in bx1.al np upd_same, ?_, fun x H2 hx st2 bx2 => ?_⟩
    · rw [List.length_map, hperm.length_eq, List.length_map]; omega
    obtain ⟨nm, hnm, rfl⟩ := List.mem_map.mp hx
    have hnf : nm ∈ fs.map (·.1) := hperm.mem_iff.mp hnm
    refine ⟨_, rfl, b, 5, M, rfl, by decide, bx2, fun y H3 y0 y5 st3 bx3 => ?_⟩
    have st23 := st2.trans st3
    have so : Same (off M H1) (off M H3) := (offs_same e1).trans (st23.offb bx1.mem)
    have ha3 : off M H3 a = some (.dK kvs) := so _ _ ha
    have hp3 : Paired (fun (kv : Key × V) (f : Str × D) => kv.1 = Sum.inr f.1 ∧ Sub n (off M H3) kv.2 f.2) kvs fs := L2.Paired.mapP hp fun _ _ z => ⟨z.1, z.2.same so⟩
    have st13 := st1.trans ((Stp.of_same e1).trans st23)
    refine ⟨_, rfl, rfl, _, rfl, ifS (fun _ => ?_) (fun _ => ?_)⟩
    · -- a field less
      dsimp only [tRet, tCB, tCons]
      refine fields_comp (nm := nm) (tb := tVar 4) (off_at ha3) hks (by rw [List.length_map]; exact nd.2) (fun y H' Q q => ⟨_, rfl, q⟩) fun L H4 ys2 ps kvs' s4 _ hL hperm2 hps hk2 hv2 => ?_
      have keysnd : (kvs'.map (·.1)).Nodup := by
        rw [hk2]
        refine nd_inr ?_
        exact (hperm2.nodup_iff.mpr nd.1).filter _
      refine ⟨L, ps, kvs', rfl, SqL.of hL, hps, fun p5 np5 => ?_⟩
      have e5 := same_new np5 (.dK (mergeK [] kvs'))
      have s45 := s4.trans e5
      refine q _ _ (st13.trans (Stp.of_same s45)) (bx3.same s45) ?_
      have em : mergeK [] kvs' = kvs' := by rw [mergeK_nd kvs' [] (by rw [List.nil_append]; exact keysnd)]; rfl
      rw [em]
      have hsub : ∀ y ∈ (ys2.filter fun y => !decide (y = nm)), y ∈ fs.map (·.1) := fun y hy => hperm2.mem_iff.mp (List.mem_filter.mp hy).1
      refine ⟨.rcd (recN fs (ys2.filter fun y => !decide (y = nm))), ⟨p5, kvs', rfl, off_in bx3.al (s4.free np5) upd_same, ⟨?_, ?_⟩, ?_⟩, by simp only [D.gd]; exact gdF_mono (by omega) _ (recN_gd gd hsub), ?_⟩
      · rw [recN_names]; exact (hperm2.nodup_iff.mpr nd.1).filter _
      · unfold recN
        rw [List.length_map]
        have h1 := List.length_filter_le (fun y => !decide (y = nm)) ys2
        have h2 := hperm2.length_eq
        rw [List.length_map] at h2
        have := nd.2
        omega
      · have h6 := L2.Paired.mapP hp3 fun _ _ z => And.intro z.1 (z.2.same (offs_same (M := M) s45))
        rw [em] at h6
        exact recN_rep h6 kvs' _ hk2 hv2
      · have h1 := recN_filter fs (fun y => !decide (y = nm)) ys2
        rw [recN_size, recN_size, byN_size nd.1 hperm2] at h1
        simp only [D.size, recN_size]
        omega
    refine ⟨_, rfl, rfl, _, rfl, ifS (fun _ => ?_) (fun _ => ?_)⟩
    · -- a field more
      refine ⟨by show 2 ≤ sizeLine; decide, fun t nt => ⟨by show 1 ≤ sizeLine; decide, fun l nl => ?_⟩⟩
      have e2 := same_new nt (.tup [.str "u", .int 0])
      have e3 := same_new nl (.lst [.ref t])
      have e23 := e2.trans e3
      refine fields_comp (nm := "u") (e23 _ _ (off_at ha3)) hks (by rw [List.length_map]; exact nd.2) (fun y H' Q q => q) fun L H4 ys2 ps kvs' s4 nL hL hperm2 hps hk2 hv2 => ?_
      have s234 := e23.trans s4
      refine ⟨l, L, _, _, rfl, rfl, s4 _ _ upd_same, hL, ?_, fun p5 np5 => ?_⟩
      · rw [List.length_singleton, List.length_map, hps.length]
        have h1 := congrArg List.length hk2
        rw [List.length_map, List.length_map] at h1
        have h2 := List.length_filter_le (fun y => !decide (y = ("u" : Str))) ys2
        have h3 := hperm2.length_eq
        rw [List.length_map] at h3
        have := nd.2
        exact line_small (by omega)
      have e5 := same_new np5 (.lst ([.ref t] ++ ps.map V.ref))
      have ht5 : SqT K (upd H4 p5 (.lst ([.ref t] ++ ps.map V.ref))) t [kV (Sum.inr ("u" : Str)), .int 0] := SqT.of (e5 _ _ (s4 _ _ (e3 _ _ upd_same)))
      refine ⟨p5, t :: ps, (Sum.inr "u", .int 0) :: kvs', rfl, SqL.of upd_same, .cons ht5 (L2.Paired.mapP hps fun p kv z => ?_), fun p6 np6 => ?_⟩
      · rcases z with (z | ⟨o, z⟩) | z
        · exact .inl (.inl (e5 _ _ z))
        · exact .inl (.inr ⟨o, e5 _ _ z⟩)
        · exact .inr z
      have keysnd : (((Sum.inr ("u" : Str), V.int 0) :: kvs').map (·.1)).Nodup := by
        rw [List.map_cons, hk2]
        refine List.nodup_cons.mpr ⟨?_, nd_inr ((hperm2.nodup_iff.mpr nd.1).filter _)⟩
        intro hm
        obtain ⟨y, hy, e⟩ := List.mem_map.mp hm
        have e := Sum.inr.inj e
        have := (List.mem_filter.mp hy).2
        rw [e] at this
        simp at this
      have em : mergeK [] ((Sum.inr ("u" : Str), V.int 0) :: kvs') = (Sum.inr ("u" : Str), V.int 0) :: kvs' := by rw [mergeK_nd _ [] (by rw [List.nil_append]; exact keysnd)]; rfl
      rw [em]
      have e6 := same_new np6 (.dK ((Sum.inr ("u" : Str), V.int 0) :: kvs'))
      have s56 := (s234.trans e5).trans e6
      refine q _ _ (st13.trans (Stp.of_same s56)) (bx3.same s56) ?_
      have hsub : ∀ y ∈ (ys2.filter fun y => !decide (y = ("u" : Str))), y ∈ fs.map (·.1) := fun y hy => hperm2.mem_iff.mp (List.mem_filter.mp hy).1
      have hu : nm1 "u" := nm1_of (by decide +kernel)
      have gd2 : gdF 1100 ((("u" : Str), D.int 0) :: recN fs (ys2.filter fun y => !decide (y = ("u" : Str)))) := by
        simp only [gdF]
        exact ⟨hu, by simp [D.gd], gdF_mono (by omega) _ (recN_gd gd hsub)⟩
      have nd2 : (((("u" : Str), D.int 0) :: recN fs (ys2.filter fun y => !decide (y = ("u" : Str)))).map (·.1)).Nodup := by
        rw [List.map_cons, recN_names]
        refine List.nodup_cons.mpr ⟨?_, (hperm2.nodup_iff.mpr nd.1).filter _⟩
        intro hm
        have := (List.mem_filter.mp hm).2
        simp at this
      refine ⟨.rcd ((("u" : Str), D.int 0) :: recN fs (ys2.filter fun y => !decide (y = ("u" : Str)))), ⟨p6, _, rfl, off_in bx3.al ((s234.trans e5).free np6) upd_same, ⟨nd2, ?_⟩, ?_⟩, by simp only [D.gd]; exact gd2, ?_⟩
      · have := nm1_len nd2 (fun x hx => by
          obtain ⟨p, hp, rfl⟩ := List.mem_map.mp hx
          exact (gdF_iff.mp gd2 p hp).1)
        rw [List.length_map] at this
        exact this
      · have h6 := L2.Paired.mapP hp3 fun _ _ z => And.intro z.1 (z.2.same (offs_same (M := M) s56))
        exact .cons ⟨rfl, rep_int⟩ (recN_rep h6 kvs' _ hk2 hv2)
      · have h1 := recN_filter fs (fun y => !decide (y = ("u" : Str))) ys2
        rw [recN_size, recN_size, byN_size nd.1 hperm2] at h1
        simp only [D.size, sizeF, recN_size]
        omega
    · -- a field is spoilt
      refine ⟨_, rfl, a, kvs, rfl, .inl (off_at ha3), fun r nr => ?_⟩
      have e2 := same_new nr (.dK kvs)
      have bx4 : Box (r :: M) (upd H3 r (.dK kvs)) b := bx3.also nr
      obtain ⟨x, hx⟩ := look_some.mpr hnf
      rcases look_val nm hp3 with ⟨e3, _⟩ | ⟨u, x', e3, e4, hsb⟩
      · rw [e3] at hx; cases hx
      rw [e3] at hx; cases hx
      have hxm := look_mem e3
      have hxs : x.size ≤ sizeF fs := sizeF_mem hxm
      refine ⟨_, rfl, _, rfl, _, rfl, a, u, rfl, e4 ▸ DGet.k (k := Sum.inr nm) (e2 _ _ (off_at ha3)), b, r :: M, u, x, rfl, bx4, hsb.same (off_also nr), (gdF_iff.mp gd _ hxm).2, by omega, fun u2 H5 st5 bx5 hu2 => ?_⟩
      have nrb : r ≠ b := bx3.ne nr
      have hr5 : H5 r = some (.dK kvs) := st5.keep _ _ (by simpa using nrb) upd_same
      have hlen := nd.2
      refine ⟨_, rfl, _, rfl, r, _, rfl, DPut.k (k := Sum.inr nm) hr5 (line_lt (by omega)), ?_⟩
      refine ⟨_, rfl, ?_⟩
      have stA : Stp [b, r] H3 (upd H5 r (.dK (putK kvs (Sum.inr nm) u2))) := ((Stp.new nr).trans (st5.mono (M' := [b, r]) (by simp))).trans (Stp.put (by simp))
      have stB : Stp [b] H3 (upd H5 r (.dK (putK kvs (Sum.inr nm) u2))) := ⟨fun c o hc e => stA.keep c o (by
        have : c ≠ r := ne_of_none e nr
        simp only [List.mem_singleton] at hc
        simp [hc, this]) e, stA.al⟩
      have bxE : Box (r :: M) (upd H5 r (.dK (putK kvs (Sum.inr nm) u2))) b := bx5.put (by simp) nrb
      refine q _ _ (st13.trans stB) (bxE.less bx3.mem) ?_
      obtain ⟨x2, hx1, hx2, hx3⟩ := hu2
      have hkm : (Sum.inr nm : Key) ∈ kvs.map (·.1) := by rw [hks]; exact List.mem_map_of_mem hnf
      have so2 : Same (off M H3) (off M (upd H5 r (.dK (putK kvs (Sum.inr nm) u2)))) := stB.offb bx3.mem
      have so3 : Same (off (r :: M) H5) (off M (upd H5 r (.dK (putK kvs (Sum.inr nm) u2)))) := off_put.trans off_less
      refine ⟨.rcd (repN fs nm x2), ⟨r, _, rfl, off_in bx3.al nr upd_same, ⟨by rw [repN_names]; exact nd.1, by unfold repN; rw [List.length_map]; exact nd.2⟩, ?_⟩, ?_, ?_⟩
      · rw [putK_old hkm]
        have h6 : Paired (RepF n (off M (upd H5 r (.dK (putK kvs (Sum.inr nm) u2))))) kvs fs := L2.Paired.mapP hp3 fun _ _ z => ⟨z.1, (z.2.same so2).rep⟩
        have h7 := hx1.same so3
        rw [putK_old hkm] at h6 h7
        exact repN_rep h7 h6
      · simp only [D.gd]
        refine gdF_iff.mpr fun p hp => ?_
        unfold repN at hp
        obtain ⟨f, hf, rfl⟩ := List.mem_map.mp hp
        have hg := gdF_iff.mp gd f hf
        split
        · exact ⟨hg.1, hx2⟩
        · exact ⟨hg.1, gd_mono (by omega) _ hg.2⟩
      · have h1 := repN_size (d := x2) nd.1 e3
        simp only [D.size]
        omega
theorem ok_spoilt (h : Has K mg "_law_spoilt" s_l_spoilt p_l_spoilt) (T : Txt K mg C kA) (c_l_draw : Cal P w K mg base 1 "_law_draw" spDraw []) (c_l_drawn : Cal P w K mg base 2 "_law_drawn" spDrawn []) (c_l_is_integer : Cal P w K mg base 1 "_law_is_integer" spIsInt [])
    (c_l_wild : Cal P w K mg base 4 "_law_wild" (spWild 1) []) : ∀ n, Cal P w K mg base (n + 5) "_law_spoilt" (spSp n) []
  | 0 => by
    obtain ⟨f, fd, d, b⟩ := h.ex
    exact ⟨f, fd, p_l_spoilt, [], ⟨fun _ _ _ _ z => by obtain ⟨_, _, _, _, _, _, z, _⟩ := z; exact z.elim, fun _ _ _ _ _ _ _ _ _ _ _ _ _ z => by obtain ⟨_, _, _, _, _, _, z, _⟩ := z; exact z.elim⟩, d.mgf, d.kp, b, .nil⟩
  | n + 1 => ok_spoil_succ h T c_l_draw c_l_drawn c_l_is_integer c_l_wild (ok_spoilt h T c_l_draw c_l_drawn c_l_is_integer c_l_wild n)
end
end Ff
/-! The law, 4: what a definition writes, by sizes. -/
namespace Ff
open PySem L2 C8
theorem line_big {n : Nat} (h : n ≤ 10000000) : n ≤ sizeLine := Nat.le_trans h (by decide)
theorem line_blt {n : Nat} (h : n ≤ 10000000) : n < sizeLine := Nat.lt_of_le_of_lt h (by decide)
/-! ### a sign, some times -/
def strRep (s : Str) (n : Nat) : Str := ⟨(List.replicate n s.cps).foldl (· ++ ·) #[]⟩
theorem strRep_len (s : Str) : ∀ n, (strRep s n).length = n * s.length := by
  have h : ∀ (n : Nat) (acc : Array Nat), ((List.replicate n s.cps).foldl (· ++ ·) acc).size = acc.size + n * s.cps.size := by
    intro n
    induction n with
    | zero => intro acc; simp
    | succ n ih => intro acc; rw [List.replicate_succ, List.foldl_cons, ih, Array.size_append, Nat.add_mul]; omega
  intro n
  have := h n #[]
  show ((List.replicate n s.cps).foldl (· ++ ·) #[]).size = n * s.cps.size
  rw [this]
  simp
def rRepS : R2 := fun x y H Q => ∃ (s : Str) (k : Int), x = .str s ∧ y = .int k ∧ 0 ≤ k ∧ k ≤ 1000 ∧ s.length = 1 ∧ Q (.str (strRep s k.toNat)) H
theorem op_repS {X : Cx} : OpR X (binaryOp .Mult) rRepS := by
  intro pins s σ H x y v u Q I rx ry h
  obtain ⟨x, k, rfl, rfl, h0, h1, hl, q⟩ := h
  obtain ⟨t, rfl⟩ := rx
  obtain ⟨t', rfl⟩ := ry
  refine PySem.P.mul_str ?_ ?_ ?_ ?_
  · rw [decide_eq_false (by omega), decide_eq_false (by omega)]
    rfl
  · intro c _
    rw [hl]
    have : (1 : Int) ≤ (2 ^ 63 - 1) / k := Int.le_ediv_of_mul_le (by omega) (by omega)
    omega
  · intro c _
    refine decide_eq_false ?_
    have : (1000 : Nat) ≤ sizeLine := by decide
    rw [hl]
    omega
  · by_cases c : k < 1
    · rw [if_pos c]
      obtain rfl : k = 0 := by omega
      exact ⟨by decide, ⟨.str (strRep x (0 : Int).toNat), _, I.tok _, ⟨_, rfl⟩, q⟩⟩
    · rw [if_neg c]
      by_cases c1 : k = 1
      · subst c1
        refine ⟨.str x, _, I, ⟨_, rfl⟩, ?_⟩
        have e : strRep x (1 : Int).toNat = x := by
          show (⟨#[] ++ x.cps⟩ : Str) = x
          rw [Array.empty_append]
        rw [e] at q
        exact q
      · rw [if_neg (by simp [c1, hl])]
        refine ⟨?_, ⟨.str (strRep x k.toNat), _, I.tok _, ⟨_, rfl⟩, q⟩⟩
        have h2 := strRep_len x k.toNat
        rw [hl] at h2
        have : (1000 : Nat) ≤ sizeLine := by decide
        show (strRep x k.toNat).length ≤ sizeLine
        omega
theorem ix_tupK {X : Cx} {K : PySem.W.Frag} (h : X.K = K) : IxR X (rIxT K) := h ▸ ix_tup
theorem ix_listK {X : Cx} {K : PySem.W.Frag} (h : X.K = K) : IxR X (rIxL K) := h ▸ ix_list
/-! ### entries: what a definition writes -/
def Ent (F : Dfs) (n : Nat) (G : Hp) (df : Df) (v : V) : Prop := ∃ d, Rep (n + 1) G v d ∧ wrD (Wr F n) df d ∧ d.gd 1000 ∧ d.size = n + 1
theorem Ent.same {F : Dfs} {n : Nat} {G G' : Hp} {df : Df} {v : V} (h : Ent F n G df v) (s : Same G G') : Ent F n G' df v := by
  obtain ⟨d, h1, h2⟩ := h
  exact ⟨d, h1.same s, h2⟩
theorem Ent.wr {F : Dfs} {n : Nat} {G : Hp} {df : Df} {v : V} {nm : Str} (h : Ent F n G df v) (hl : look F nm = some df) : ∃ d, Rep (n + 1) G v d ∧ Wr F (n + 1) nm d ∧ d.gd 1000 ∧ d.size = n + 1 := by
  obtain ⟨d, h1, h2, h3⟩ := h
  exact ⟨d, h1, ⟨df, hl, h2⟩, h3⟩
def EntL (F : Dfs) (n : Nat) (G : Hp) (df : Df) (x : V) : Prop := ∃ l vs, x = .ref l ∧ G l = some (.lst vs) ∧ vs.length ≤ 150 ∧ ∀ v ∈ vs, Ent F n G df v
theorem EntL.same {F : Dfs} {n : Nat} {G G' : Hp} {df : Df} {v : V} (h : EntL F n G df v) (s : Same G G') : EntL F n G' df v := by
  obtain ⟨l, vs, h1, h2, h3, h4⟩ := h
  exact ⟨l, vs, h1, s _ _ h2, h3, fun v hv => (h4 v hv).same s⟩
abbrev tkey (nm : Str) (m : Nat) : List Key := [Sum.inr nm, Sum.inl ((m + 1 : Nat) : Int)]
/-- all sizes up to n are there -/
def Tab (F : Dfs) (n : Nat) (G : Hp) (kvs : List (List Key × V)) : Prop := ∀ nm df, look F nm = some df → ∀ m, m < n → ∃ x, valV kvs (tkey nm m) = some x ∧ EntL F m G df x
/-- nothing else is there -/
def TabE (F : Dfs) (n : Nat) (G : Hp) (kvs : List (List Key × V)) : Prop := ∀ nm (z : Int) x, valV kvs [Sum.inr nm, Sum.inl z] = some x → ∃ df m, look F nm = some df ∧ z = ((m + 1 : Nat) : Int) ∧ m < n ∧ EntL F m G df x
theorem Tab.same {F : Dfs} {n : Nat} {G G' : Hp} {kvs : List (List Key × V)} (h : Tab F n G kvs) (s : Same G G') : Tab F n G' kvs := fun nm df hl m hm => by
  obtain ⟨x, h1, h2⟩ := h nm df hl m hm
  exact ⟨x, h1, h2.same s⟩
theorem TabE.same {F : Dfs} {n : Nat} {G G' : Hp} {kvs : List (List Key × V)} (h : TabE F n G kvs) (s : Same G G') : TabE F n G' kvs := fun nm z x hx => by
  obtain ⟨df, m, h1, h2, h3, h4⟩ := h nm z x hx
  exact ⟨df, m, h1, h2, h3, h4.same s⟩
theorem TabE.mono {F : Dfs} {n n' : Nat} {G : Hp} {kvs : List (List Key × V)} (h : TabE F n G kvs) (s : n ≤ n') : TabE F n' G kvs := fun nm z x hx => by
  obtain ⟨df, m, h1, h2, h3, h4⟩ := h nm z x hx
  exact ⟨df, m, h1, h2, by omega, h4⟩
/-- definitions with small bounds -/
def TbD (F : Dfs) (b : Nat) : Df → Prop
  | .any => True
  | .int lo hi => lo.natAbs ≤ b ∧ hi.natAbs ≤ b
  | .txt m => 0 ≤ m ∧ m ≤ 2
  | .lst e lo hi => (look F e).isSome = true ∧ lo.natAbs ≤ b ∧ hi.natAbs ≤ b
  | .rcd fs => fs.length ≤ 3 ∧ (fs.map (·.nm)).Nodup ∧ ∀ f ∈ fs, nm1 f.nm ∧ (look F f.ty).isSome = true
  | .cho cs _ => cs.length ≤ 4 ∧ (cs.map (·.1)).Nodup ∧ ∀ c ∈ cs, nm1 c.1 ∧ (look F c.2).isSome = true
theorem TbD.mono {F : Dfs} {b b' : Nat} (h : b ≤ b') {df : Df} (t : TbD F b df) : TbD F b' df := by
  cases df with
  | int lo hi => exact ⟨Nat.le_trans t.1 h, Nat.le_trans t.2 h⟩
  | lst e lo hi => exact ⟨t.1, Nat.le_trans t.2.1 h, Nat.le_trans t.2.2 h⟩
  | _ => exact t
section
variable {P : Program} {w : World} {K : PySem.W.Frag} {mg : Str → Option Value} {base : Heap} {C kA : Addr}
def spAlways (K : PySem.W.Frag) : Sp := fun vs H Q _ => ∃ (a : Addr) (xs : List V) (p : Str), vs = [.ref a] ∧ SqT K H a xs ∧ xs[2]? = some (.str p) ∧ Q (.bl (!decide (p = "optional"))) H
theorem ok_always (h : Has K mg "_law_always" s_l_always p_l_always) (T : Txt K mg C kA) : Cal P w K mg base 1 "_law_always" (spAlways K) [] := by
  refine h.cal sc_l_always (fun vs H Q E h => ?_) (fun f cdv A outer s H vs Q E hr h => ?_)
  · obtain ⟨a, xs, p, rfl, _⟩ := h
    rfl
  obtain ⟨a, xs, p, rfl, ha, hp, q⟩ := h
  refine ⟨_, (pss_one (ps_ret (pe_cmpR op_ne (pe_ix ix_tup (pv 0) pe_int (fun _ _ => rfl)) pe_str (nomark _)))), ?_⟩
  refine ⟨_, rfl, a, _, _, .str p, rfl, rfl, ha, at_of (j := 2) rfl hp, rfl, ?_⟩
  have e : decide (V.str p = V.str "optional") = decide (p = "optional") := by
    by_cases c : p = "optional"
    · rw [decide_eq_true c, decide_eq_true (vstr.mpr c)]
    · rw [decide_eq_false c, decide_eq_false (fun z => c (vstr.mp z))]
  rw [e]
  exact q

/-! ### values of one size -/
def Ex (n s : Nat) (G : Hp) (v : V) : Prop := ∃ d, Rep n G v d ∧ d.gd 1000 ∧ d.size = s
theorem Ex.same {n s : Nat} {G G' : Hp} {v : V} (h : Ex n s G v) (e : Same G G') : Ex n s G' v := by
  obtain ⟨d, h1, h2⟩ := h
  exact ⟨d, h1.same e, h2⟩
theorem Ex.int {n : Nat} {G : Hp} {i : Int} (h : i.natAbs ≤ 1000) : Ex n 1 G (.int i) := ⟨.int i, rep_int, by simp only [D.gd]; exact h, by simp only [D.size]⟩
theorem Ex.str {n s : Nat} {G : Hp} {x : Str} (h : chk x) (hs : 1 + x.length = s) : Ex n s G (.str x) := ⟨.str x, rep_str, by simp only [D.gd]; exact h, by simp only [D.size]; exact hs⟩
theorem Ex.nil {n : Nat} {G : Hp} {a : Addr} (h : G a = some (.lst [])) : Ex n 1 G (.ref a) := ⟨.lst [], by rw [rep_eq]; exact ⟨a, [], rfl, h, .nil⟩, by simp [D.gd, gdL], by simp only [D.size, sizeL]⟩
theorem Ex.emp {n : Nat} {G : Hp} {a : Addr} (h : G a = some (.dK [])) : Ex n 1 G (.ref a) := ⟨.rcd [], by rw [rep_eq]; exact ⟨a, [], rfl, h, ⟨by simp, by simp⟩, .nil⟩, by simp [D.gd, gdF], by simp only [D.size, sizeF]⟩
theorem Ex.one {n s : Nat} {G : Hp} {a : Addr} {v : V} (x : Ex n s G v) (h : G a = some (.lst [v])) : Ex (n + 1) (1 + s) G (.ref a) := by
  obtain ⟨d, h1, h2, h3⟩ := x
  exact ⟨.lst [d], ⟨a, [v], rfl, h, .cons h1 .nil⟩, by simp only [D.gd, gdL]; exact ⟨h2, trivial⟩, by simp only [D.size, sizeL]; omega⟩
theorem ex_zeros {n : Nat} {G : Hp} : ∀ {vs : List V}, (∀ v ∈ vs, v = .int 0) → ∃ ds, Paired (Rep n G) vs ds ∧ gdL 1000 ds ∧ sizeL ds = vs.length
  | [], _ => ⟨[], .nil, by simp [gdL], by simp [sizeL]⟩
  | v :: vs, h => by
    obtain ⟨ds, h1, h2, h3⟩ := ex_zeros (n := n) (G := G) (vs := vs) fun x hx => h x (List.mem_cons_of_mem _ hx)
    obtain rfl := h v List.mem_cons_self
    exact ⟨.int 0 :: ds, .cons rep_int h1, by simp [gdL, D.gd, h2], by simp only [sizeL, D.size, h3, List.length_cons]; omega⟩
theorem Ex.zeros {n : Nat} {G : Hp} {a : Addr} {vs : List V} (x : ∀ v ∈ vs, v = .int 0) (h : G a = some (.lst vs)) : Ex (n + 1) (1 + vs.length) G (.ref a) := by
  obtain ⟨ds, h1, h2, h3⟩ := ex_zeros (n := n) (G := G) x
  exact ⟨.lst ds, ⟨a, vs, rfl, h, h1⟩, by simp only [D.gd]; exact h2, by simp only [D.size]; omega⟩
theorem Ex.cho {n s : Nat} {G : Hp} {a : Addr} {t : Str} {v : V} (x : Ex n s G v) (ht : nm1 t) (h : G a = some (.tup [.str t, v])) : Ex (n + 1) (1 + s) G (.ref a) := by
  obtain ⟨d, h1, h2, h3⟩ := x
  exact ⟨.cho t d, ⟨a, v, rfl, h, h1⟩, by simp only [D.gd]; exact ⟨ht, h2⟩, by simp only [D.size]; omega⟩
theorem Ex.rc1 {n s : Nat} {G : Hp} {a : Addr} {t : Str} {v : V} (x : Ex n s G v) (ht : nm1 t) (h : G a = some (.dK [(Sum.inr t, v)])) : Ex (n + 1) (1 + s) G (.ref a) := by
  obtain ⟨d, h1, h2, h3⟩ := x
  exact ⟨.rcd [(t, d)], ⟨a, _, rfl, h, ⟨by simp, by simp⟩, .cons ⟨rfl, h1⟩ .nil⟩, by simp only [D.gd, gdF]; exact ⟨ht, h2, trivial⟩, by simp only [D.size, sizeF]; omega⟩
theorem Ex.rc2 {n s s' : Nat} {G : Hp} {a : Addr} {t t' : Str} {v v' : V} (x : Ex n s G v) (x' : Ex n s' G v') (ht : nm1 t) (ht' : nm1 t') (hn : t ≠ t') (h : G a = some (.dK [(Sum.inr t, v), (Sum.inr t', v')])) : Ex (n + 1) (1 + s + s') G (.ref a) := by
  obtain ⟨d, h1, h2, h3⟩ := x
  obtain ⟨d', h4, h5, h6⟩ := x'
  exact ⟨.rcd [(t, d), (t', d')], ⟨a, _, rfl, h, ⟨by simp [hn], by simp⟩, .cons ⟨rfl, h1⟩ (.cons ⟨rfl, h4⟩ .nil)⟩, by simp only [D.gd, gdF]; exact ⟨ht, h2, ht', h5, trivial⟩, by simp only [D.size, sizeF]; omega⟩
theorem Ex.two {n s s' : Nat} {G : Hp} {a : Addr} {v v' : V} (x : Ex n s G v) (x' : Ex n s' G v') (h : G a = some (.lst [v, v'])) : Ex (n + 1) (1 + s + s') G (.ref a) := by
  obtain ⟨d, h1, h2, h3⟩ := x
  obtain ⟨d', h4, h5, h6⟩ := x'
  exact ⟨.lst [d, d'], ⟨a, _, rfl, h, .cons h1 (.cons h4 .nil)⟩, by simp only [D.gd, gdL]; exact ⟨h2, h5, trivial⟩, by simp only [D.size, sizeL]; omega⟩
theorem Ex.up {n s : Nat} {G : Hp} {v : V} (x : Ex n s G v) : Ex (n + 1) s G v := by
  obtain ⟨d, h1, h2⟩ := x
  exact ⟨d, h1.succ, h2⟩
theorem Ex.ent {F : Dfs} {n : Nat} {G : Hp} {v : V} (x : Ex (n + 1) (n + 1) G v) : Ent F n G .any v := by
  obtain ⟨d, h1, h2, h3⟩ := x
  exact ⟨d, h1, trivial, h2, h3⟩
theorem disp1 {σ : L2.St} {H : Hp} {Q : VK} {k : Str} {v : V} (h : ∀ p, H p = none → Q (.ref p) (upd H p (.dK [(Sum.inr k, v)]))) : tDisp [(tC (.str k), tC v)] σ H Q := by
  intro p hp
  refine ⟨upd_same, [(Sum.inr k, v)], rfl, by show 1 ≤ 15; decide, ?_⟩
  have := h p hp
  rw [upd_upd]
  exact this
theorem disp2 {σ : L2.St} {H : Hp} {Q : VK} {k k' : Str} {v v' : V} (hn : k ≠ k') (h : ∀ p, H p = none → Q (.ref p) (upd H p (.dK [(Sum.inr k, v), (Sum.inr k', v')]))) : tDisp [(tC (.str k), tC v), (tC (.str k'), tC v')] σ H Q := by
  intro p hp
  refine ⟨upd_same, [(Sum.inr k, v), (Sum.inr k', v')], rfl, by show 2 ≤ 15; decide, ?_⟩
  have := h p hp
  rw [upd_upd, mergeK_nd _ [] (by simp [hn])]
  exact this
theorem xyne : ("x" : Str) ≠ "y" := by decide +kernel
theorem sgn_chk : ∀ x ∈ (["", "a", "aa", "b"] : List Str), ∀ c ∈ x.cps.toList, c < 128 := by decide +kernel
theorem rep_ab : ∀ n ∈ [0, 1, 2, 3], ((∀ c ∈ (strRep "a" n).cps.toList, c < 128) ∧ (strRep "a" n).length = n) ∧ ((∀ c ∈ (strRep "b" n).cps.toList, c < 128) ∧ (strRep "b" n).length = n) := by decide +kernel
def AnyAt (M : List Addr) (H H' : Hp) (n : Nat) (p : Addr) (ok : Prop) : Prop := Same H H' ∧ H p = none ∧ ∃ xs, H' p = some (.lst xs) ∧ xs.length ≤ 30 ∧ (ok → ∀ v ∈ xs, Ex (n + 1) (n + 1) (off M H') v)
def spAny : Sp := fun vs H Q _ => ∃ (n : Nat) (M : List Addr), vs = [.int ((n + 1 : Nat) : Int)] ∧ n ≤ 3 ∧ Al M H ∧ ∀ p H', AnyAt M H H' n p True → Q (.ref p) H'
theorem ok_any (h : Has K mg "_law_any" s_l_any p_l_any) (T : Txt K mg C kA) : Cal P w K mg base 1 "_law_any" spAny [] := by
  refine h.cal sc_l_any (fun vs H Q E h => ?_) (fun f cdv A outer s H vs Q E hr h => ?_)
  · obtain ⟨n, M, rfl, _⟩ := h
    rfl
  obtain ⟨n, M, rfl, hn, al, q⟩ := h
  refine ⟨_, (pss_cons (ps_set (i := 1) sc_l_any.nd rfl (Or.inl rfl) (pe_lst (pa_cons pe_int pa_nil)))
      (pss_cons (ps_for PassesOwn.never rfl (pi_range2 rfl T.z_range (pa_cons pe_int (pa_cons pe_int pa_nil))) (pg_name (i := 2) sc_l_any.nd rfl (Or.inl rfl))
        (pss_one (ps_set (i := 1) sc_l_any.nd rfl (Or.inl rfl) (pe_op op_cat (pv 1) (pe_lst (pa_cons (pv 2) (pa_cons (pe_un un_neg (pv 2)) pa_nil)))))))
      (pss_cons (ps_set (i := 1) sc_l_any.nd rfl (Or.inl rfl) (pe_op op_cat (pv 1) (pe_lst (pa_cons pe_str (pa_cons (pe_lst pa_nil) (pa_cons pe_dnewK pa_nil))))))
      (C8.pss_cut (ps_if (pt_cmpR op_eq (pv 0) pe_int (nomark _)) (pss_one (ps_set (i := 1) sc_l_any.nd rfl (Or.inl rfl) (pe_lst (pa_cons pe_str (pa_cons pe_str (pa_cons (pe_lst (pa_cons pe_int pa_nil)) (pa_cons (pe_lst (pa_cons pe_int pa_nil)) (pa_cons (pe_lst (pa_cons pe_str pa_nil)) (pa_cons (pe_lst (pa_cons (pe_lst pa_nil) pa_nil)) (pa_cons (pe_lst (pa_cons pe_dnewK pa_nil)) (pa_cons (pe_disp (pps_cons pe_str pe_int pps_nil) (by rfl) (by rfl) (fun z => by cases z) (by decide)) (pa_cons (pe_disp (pps_cons pe_str pe_str pps_nil) (by rfl) (by rfl) (fun z => by cases z) (by decide)) (pa_cons (pe_disp (pps_cons pe_str pe_int pps_nil) (by rfl) (by rfl) (fun z => by cases z) (by decide)) (pa_cons (pe_tup (pa_cons pe_str (pa_cons pe_int pa_nil))) (pa_cons (pe_tup (pa_cons pe_str (pa_cons pe_int pa_nil))) (pa_cons (pe_tup (pa_cons pe_str (pa_cons pe_str pa_nil))) (pa_cons (pe_tup (pa_cons pe_str (pa_cons (pe_lst pa_nil) pa_nil))) pa_nil))))))))))))))))) pss_nil)
      (C8.pss_cut (ps_if (pt_cmpR op_eq (pv 0) pe_int (nomark _)) (pss_one (ps_set (i := 1) sc_l_any.nd rfl (Or.inl rfl) (pe_lst (pa_cons pe_str (pa_cons (pe_lst (pa_cons pe_int (pa_cons pe_int pa_nil))) (pa_cons (pe_lst (pa_cons pe_str pa_nil)) (pa_cons (pe_lst (pa_cons (pe_lst (pa_cons pe_int pa_nil)) pa_nil)) (pa_cons (pe_disp (pps_cons pe_str pe_int (pps_cons pe_str pe_int pps_nil)) (by rfl) (by rfl) (fun z => by cases z) (by decide)) (pa_cons (pe_disp (pps_cons pe_str pe_str pps_nil) (by rfl) (by rfl) (fun z => by cases z) (by decide)) (pa_cons (pe_tup (pa_cons pe_str (pa_cons pe_str pa_nil))) (pa_cons (pe_tup (pa_cons pe_str (pa_cons (pe_lst (pa_cons pe_int pa_nil)) pa_nil))) pa_nil))))))))))) pss_nil)
      (C8.pss_cut (ps_if (pt_cmpR op_gt (pv 0) pe_int (nomark _)) (pss_one (ps_set (i := 1) sc_l_any.nd rfl (Or.inl rfl) (pe_lst (pa_cons (pe_op op_rep (pe_lst (pa_cons pe_int pa_nil)) (pe_op op_sub (pv 0) pe_int)) (pa_cons (pe_op op_repS pe_str (pe_op op_sub (pv 0) pe_int)) pa_nil))))) pss_nil)
      (pss_one (ps_ret (pv 1))))))))), ?_⟩
  refine ⟨by show 1 ≤ sizeLine; decide, fun p0 hp0 => ?_⟩
  refine ⟨1, 10, rfl, ⟨by decide, by decide, by decide, by decide⟩, ?_⟩
  refine for_range (lo := 1) (n := 9) (fun i σ H' => Same H H' ∧ ∃ (p : Addr) (xs : List V) (v : Option V), H p = none ∧ H' p = some (.lst xs) ∧ xs.length ≤ 1 + 2 * i ∧ (∀ x ∈ xs, ∃ z : Int, x = .int z ∧ z.natAbs ≤ 10) ∧ σ = [some (.int ((n + 1 : Nat) : Int)), some (.ref p), v])
    ⟨same_new hp0 _, p0, [.int 0], none, hp0, upd_same, by decide, fun x hx => ⟨0, List.mem_singleton.mp hx, by decide⟩, rfl⟩ ?_ ?_
  · rintro i σ H1 hi ⟨sm, p, xs, v, hp, hp1, hl, hx, rfl⟩
    refine ⟨_, rfl, _, rfl, _, rfl, _, rfl, by show 2 ≤ sizeLine; decide, fun l nl => ?_⟩
    have s1 := same_new nl (.lst [.int (1 + (i : Int)), .int (-(1 + (i : Int)))])
    refine ⟨p, l, _, _, rfl, rfl, s1 _ _ hp1, upd_same, line_small (by simp only [List.length_cons, List.length_nil]; omega), fun p3 np3 => ?_⟩
    have s2 := same_new np3 (.lst (xs ++ [.int (1 + (i : Int)), .int (-(1 + (i : Int)))]))
    refine ⟨(sm.trans s1).trans s2, p3, _, _, (sm.trans s1).free np3, upd_same, by simp only [List.length_append, List.length_cons, List.length_nil]; omega, fun x hx2 => ?_, rfl⟩
    rcases List.mem_append.mp hx2 with hx2 | hx2
    · exact hx x hx2
    · simp only [List.mem_cons, List.not_mem_nil, or_false] at hx2
      rcases hx2 with rfl | rfl
      · exact ⟨_, rfl, by omega⟩
      · exact ⟨_, rfl, by omega⟩
  rintro σ H1 ⟨sm, p, xs, v, hp, hp1, hl, hx, rfl⟩
  refine ⟨_, rfl, by show 0 ≤ sizeLine; decide, fun a n1 => fun b n2 => ⟨by show 3 ≤ sizeLine; decide, fun l n3 => ?_⟩⟩
  have s1 := same_new n1 (.lst ([] : List V))
  have s2 := same_new n2 (.dK ([] : List (Key × V)))
  have s3 := same_new n3 (.lst [.str "", .ref a, .ref b])
  refine ⟨p, l, _, _, rfl, rfl, s3 _ _ (s2 _ _ (s1 _ _ hp1)), upd_same, line_small (by simp only [List.length_cons, List.length_nil]; omega), fun p4 n4 => ?_⟩
  have s4 := same_new n4 (.lst (xs ++ [.str "", .ref a, .ref b]))
  have sm4 := (((sm.trans s1).trans s2).trans s3).trans s4
  have A0 : AnyAt M H _ n p4 (n = 0) := ⟨sm4, (((sm.trans s1).trans s2).trans s3).free n4, _, upd_same, by simp only [List.length_append, List.length_cons, List.length_nil]; omega, by
    rintro rfl x hx2
    rcases List.mem_append.mp hx2 with hx2 | hx2
    · obtain ⟨z, rfl, hz⟩ := hx x hx2
      exact Ex.int (by omega)
    · simp only [List.mem_cons, List.not_mem_nil, or_false] at hx2
      rcases hx2 with rfl | rfl | rfl
      · exact Ex.str (sgn_chk _ (by simp)) (by decide)
      · exact Ex.nil (off_in al (sm.free n1) (s4 _ _ (s3 _ _ (s2 _ _ upd_same))))
      · exact Ex.emp (off_in al ((sm.trans s1).free n2) (s4 _ _ (s3 _ _ upd_same)))⟩
  clear hx hl
  have sm := sm4
  have num : ∀ {k : Int} {m : Nat}, ¬ V.int ((n + 1 : Nat) : Int) = V.int ((m + 1 : Nat) : Int) → n ≠ m := by
    rintro k m h rfl
    exact h rfl
  refine ⟨fun σ H' => ∃ (p : Addr) (v : Option V), σ = [some (.int ((n + 1 : Nat) : Int)), some (.ref p), v] ∧ AnyAt M H H' n p (n ≤ 1), ?_, ?_⟩
  · refine ⟨_, rfl, rfl, _, rfl, ifS (fun e => ?_) (fun e => ?_)⟩
    · have e : n = 1 := by injection e with e; omega
      subst e
      refine ⟨by show 1 ≤ sizeLine; decide, fun a1 n1 => ?_⟩
      have s1 := same_new n1 (.lst [.int 0])
      refine ⟨by show 1 ≤ sizeLine; decide, fun a2 n2 => ?_⟩
      have s2 := same_new n2 (.lst [.int 1])
      refine ⟨by show 1 ≤ sizeLine; decide, fun a3 n3 => ?_⟩
      have s3 := same_new n3 (.lst [.str ""])
      refine ⟨by show 0 ≤ sizeLine; decide, fun a4 n4 => ?_⟩
      have s4 := same_new n4 (.lst ([] : List V))
      refine ⟨by show 1 ≤ sizeLine; decide, fun a5 n5 => ?_⟩
      have s5 := same_new n5 (.lst [.ref a4])
      refine fun a6 n6 => ?_
      have s6 := same_new n6 (.dK ([] : List (Key × V)))
      refine ⟨by show 1 ≤ sizeLine; decide, fun a7 n7 => ?_⟩
      have s7 := same_new n7 (.lst [.ref a6])
      refine disp1 fun a8 n8 => ?_
      have s8 := same_new n8 (.dK [(Sum.inr "x", .int 0)])
      refine disp1 fun a9 n9 => ?_
      have s9 := same_new n9 (.dK [(Sum.inr "x", .str "")])
      refine disp1 fun a10 n10 => ?_
      have s10 := same_new n10 (.dK [(Sum.inr "y", .int 0)])
      refine ⟨by show 2 ≤ sizeLine; decide, fun a11 n11 => ?_⟩
      have s11 := same_new n11 (.tup [.str "p", .int 0])
      refine ⟨by show 2 ≤ sizeLine; decide, fun a12 n12 => ?_⟩
      have s12 := same_new n12 (.tup [.str "p", .int 1])
      refine ⟨by show 2 ≤ sizeLine; decide, fun a13 n13 => ?_⟩
      have s13 := same_new n13 (.tup [.str "q", .str ""])
      refine ⟨by show 0 ≤ sizeLine; decide, fun a14 n14 => ?_⟩
      have s14 := same_new n14 (.lst ([] : List V))
      refine ⟨by show 2 ≤ sizeLine; decide, fun a15 n15 => ?_⟩
      have s15 := same_new n15 (.tup [.str "q", .ref a14])
      refine ⟨by show 14 ≤ sizeLine; decide, fun a16 n16 => ?_⟩
      have s16 := same_new n16 (.lst [.str "a", .str "b", .ref a1, .ref a2, .ref a3, .ref a5, .ref a7, .ref a8, .ref a9, .ref a10, .ref a11, .ref a12, .ref a13, .ref a15])
      have c0 := sm
      have c1 := c0.trans s1
      have c2 := c1.trans s2
      have c3 := c2.trans s3
      have c4 := c3.trans s4
      have c5 := c4.trans s5
      have c6 := c5.trans s6
      have c7 := c6.trans s7
      have c8 := c7.trans s8
      have c9 := c8.trans s9
      have c10 := c9.trans s10
      have c11 := c10.trans s11
      have c12 := c11.trans s12
      have c13 := c12.trans s13
      have c14 := c13.trans s14
      have c15 := c14.trans s15
      have c16 := c15.trans s16
      have g1 := off_in al (c0.free n1) (s16 _ _ (s15 _ _ (s14 _ _ (s13 _ _ (s12 _ _ (s11 _ _ (s10 _ _ (s9 _ _ (s8 _ _ (s7 _ _ (s6 _ _ (s5 _ _ (s4 _ _ (s3 _ _ (s2 _ _ upd_same)))))))))))))))
      have g2 := off_in al (c1.free n2) (s16 _ _ (s15 _ _ (s14 _ _ (s13 _ _ (s12 _ _ (s11 _ _ (s10 _ _ (s9 _ _ (s8 _ _ (s7 _ _ (s6 _ _ (s5 _ _ (s4 _ _ (s3 _ _ upd_same))))))))))))))
      have g3 := off_in al (c2.free n3) (s16 _ _ (s15 _ _ (s14 _ _ (s13 _ _ (s12 _ _ (s11 _ _ (s10 _ _ (s9 _ _ (s8 _ _ (s7 _ _ (s6 _ _ (s5 _ _ (s4 _ _ upd_same)))))))))))))
      have g4 := off_in al (c3.free n4) (s16 _ _ (s15 _ _ (s14 _ _ (s13 _ _ (s12 _ _ (s11 _ _ (s10 _ _ (s9 _ _ (s8 _ _ (s7 _ _ (s6 _ _ (s5 _ _ upd_same))))))))))))
      have g5 := off_in al (c4.free n5) (s16 _ _ (s15 _ _ (s14 _ _ (s13 _ _ (s12 _ _ (s11 _ _ (s10 _ _ (s9 _ _ (s8 _ _ (s7 _ _ (s6 _ _ upd_same)))))))))))
      have g6 := off_in al (c5.free n6) (s16 _ _ (s15 _ _ (s14 _ _ (s13 _ _ (s12 _ _ (s11 _ _ (s10 _ _ (s9 _ _ (s8 _ _ (s7 _ _ upd_same))))))))))
      have g7 := off_in al (c6.free n7) (s16 _ _ (s15 _ _ (s14 _ _ (s13 _ _ (s12 _ _ (s11 _ _ (s10 _ _ (s9 _ _ (s8 _ _ upd_same)))))))))
      have g8 := off_in al (c7.free n8) (s16 _ _ (s15 _ _ (s14 _ _ (s13 _ _ (s12 _ _ (s11 _ _ (s10 _ _ (s9 _ _ upd_same))))))))
      have g9 := off_in al (c8.free n9) (s16 _ _ (s15 _ _ (s14 _ _ (s13 _ _ (s12 _ _ (s11 _ _ (s10 _ _ upd_same)))))))
      have g10 := off_in al (c9.free n10) (s16 _ _ (s15 _ _ (s14 _ _ (s13 _ _ (s12 _ _ (s11 _ _ upd_same))))))
      have g11 := off_in al (c10.free n11) (s16 _ _ (s15 _ _ (s14 _ _ (s13 _ _ (s12 _ _ upd_same)))))
      have g12 := off_in al (c11.free n12) (s16 _ _ (s15 _ _ (s14 _ _ (s13 _ _ upd_same))))
      have g13 := off_in al (c12.free n13) (s16 _ _ (s15 _ _ (s14 _ _ upd_same)))
      have g14 := off_in al (c13.free n14) (s16 _ _ (s15 _ _ upd_same))
      have g15 := off_in al (c14.free n15) (s16 _ _ upd_same)
      refine ⟨a16, _, rfl, c16, c15.free n16, _, upd_same, by show 14 ≤ 30; decide, fun _ x hx => ?_⟩
      simp only [List.mem_cons, List.not_mem_nil, or_false] at hx
      rcases hx with rfl | rfl | rfl | rfl | rfl | rfl | rfl | rfl | rfl | rfl | rfl | rfl | rfl | rfl
      · exact (Ex.str (sgn_chk _ (by simp)) rfl)
      · exact (Ex.str (sgn_chk _ (by simp)) rfl)
      · exact (Ex.one (Ex.int (by decide)) g1)
      · exact (Ex.one (Ex.int (by decide)) g2)
      · exact (Ex.one (Ex.str (sgn_chk _ (by simp)) rfl) g3)
      · exact (Ex.one (Ex.nil g4) g5)
      · exact (Ex.one (Ex.emp g6) g7)
      · exact (Ex.rc1 (Ex.int (by decide)) (nm1_of (by decide +kernel)) g8)
      · exact (Ex.rc1 (Ex.str (sgn_chk _ (by simp)) rfl) (nm1_of (by decide +kernel)) g9)
      · exact (Ex.rc1 (Ex.int (by decide)) (nm1_of (by decide +kernel)) g10)
      · exact (Ex.cho (Ex.int (by decide)) (nm1_of (by decide +kernel)) g11)
      · exact (Ex.cho (Ex.int (by decide)) (nm1_of (by decide +kernel)) g12)
      · exact (Ex.cho (Ex.str (sgn_chk _ (by simp)) rfl) (nm1_of (by decide +kernel)) g13)
      · exact (Ex.cho (Ex.nil g14) (nm1_of (by decide +kernel)) g15)
    · have e : n ≠ 1 := fun z => e (by rw [z]; rfl)
      exact ⟨_, _, rfl, A0.1, A0.2.1, by obtain ⟨xs, h1, h2, h3⟩ := A0.2.2; exact ⟨xs, h1, h2, fun z => h3 (by omega)⟩⟩
  rintro σ H2 ⟨p4, v, rfl, A0⟩
  have sm := A0.1
  refine ⟨fun σ H' => ∃ (p : Addr) (v : Option V), σ = [some (.int ((n + 1 : Nat) : Int)), some (.ref p), v] ∧ AnyAt M H H' n p (n ≤ 2), ?_, ?_⟩
  · refine ⟨_, rfl, rfl, _, rfl, ifS (fun e => ?_) (fun e => ?_)⟩
    · have e : n = 2 := by injection e with e; omega
      subst e
      refine ⟨by show 2 ≤ sizeLine; decide, fun a1 n1 => ?_⟩
      have s1 := same_new n1 (.lst [.int 0, .int 0])
      refine ⟨by show 1 ≤ sizeLine; decide, fun a2 n2 => ?_⟩
      have s2 := same_new n2 (.lst [.str "a"])
      refine ⟨by show 1 ≤ sizeLine; decide, fun a3 n3 => ?_⟩
      have s3 := same_new n3 (.lst [.int 0])
      refine ⟨by show 1 ≤ sizeLine; decide, fun a4 n4 => ?_⟩
      have s4 := same_new n4 (.lst [.ref a3])
      refine disp2 xyne fun a5 n5 => ?_
      have s5 := same_new n5 (.dK [(Sum.inr "x", .int 0), (Sum.inr "y", .int 0)])
      refine disp1 fun a6 n6 => ?_
      have s6 := same_new n6 (.dK [(Sum.inr "x", .str "a")])
      refine ⟨by show 2 ≤ sizeLine; decide, fun a7 n7 => ?_⟩
      have s7 := same_new n7 (.tup [.str "p", .str "a"])
      refine ⟨by show 1 ≤ sizeLine; decide, fun a8 n8 => ?_⟩
      have s8 := same_new n8 (.lst [.int 0])
      refine ⟨by show 2 ≤ sizeLine; decide, fun a9 n9 => ?_⟩
      have s9 := same_new n9 (.tup [.str "p", .ref a8])
      refine ⟨by show 8 ≤ sizeLine; decide, fun a10 n10 => ?_⟩
      have s10 := same_new n10 (.lst [.str "aa", .ref a1, .ref a2, .ref a4, .ref a5, .ref a6, .ref a7, .ref a9])
      have c0 := sm
      have c1 := c0.trans s1
      have c2 := c1.trans s2
      have c3 := c2.trans s3
      have c4 := c3.trans s4
      have c5 := c4.trans s5
      have c6 := c5.trans s6
      have c7 := c6.trans s7
      have c8 := c7.trans s8
      have c9 := c8.trans s9
      have c10 := c9.trans s10
      have g1 := off_in al (c0.free n1) (s10 _ _ (s9 _ _ (s8 _ _ (s7 _ _ (s6 _ _ (s5 _ _ (s4 _ _ (s3 _ _ (s2 _ _ upd_same)))))))))
      have g2 := off_in al (c1.free n2) (s10 _ _ (s9 _ _ (s8 _ _ (s7 _ _ (s6 _ _ (s5 _ _ (s4 _ _ (s3 _ _ upd_same))))))))
      have g3 := off_in al (c2.free n3) (s10 _ _ (s9 _ _ (s8 _ _ (s7 _ _ (s6 _ _ (s5 _ _ (s4 _ _ upd_same)))))))
      have g4 := off_in al (c3.free n4) (s10 _ _ (s9 _ _ (s8 _ _ (s7 _ _ (s6 _ _ (s5 _ _ upd_same))))))
      have g5 := off_in al (c4.free n5) (s10 _ _ (s9 _ _ (s8 _ _ (s7 _ _ (s6 _ _ upd_same)))))
      have g6 := off_in al (c5.free n6) (s10 _ _ (s9 _ _ (s8 _ _ (s7 _ _ upd_same))))
      have g7 := off_in al (c6.free n7) (s10 _ _ (s9 _ _ (s8 _ _ upd_same)))
      have g8 := off_in al (c7.free n8) (s10 _ _ (s9 _ _ upd_same))
      have g9 := off_in al (c8.free n9) (s10 _ _ upd_same)
      refine ⟨a10, _, rfl, c10, c9.free n10, _, upd_same, by show 8 ≤ 30; decide, fun _ x hx => ?_⟩
      simp only [List.mem_cons, List.not_mem_nil, or_false] at hx
      rcases hx with rfl | rfl | rfl | rfl | rfl | rfl | rfl | rfl
      · exact (Ex.str (sgn_chk _ (by simp)) rfl)
      · exact (Ex.two (Ex.int (by decide)) (Ex.int (by decide)) g1)
      · exact (Ex.one (Ex.str (sgn_chk _ (by simp)) rfl) g2)
      · exact (Ex.one (Ex.one (Ex.int (by decide)) g3) g4)
      · exact (Ex.rc2 (Ex.int (by decide)) (Ex.int (by decide)) (nm1_of (by decide +kernel)) (nm1_of (by decide +kernel)) xyne g5)
      · exact (Ex.rc1 (Ex.str (sgn_chk _ (by simp)) rfl) (nm1_of (by decide +kernel)) g6)
      · exact (Ex.cho (Ex.str (sgn_chk _ (by simp)) rfl) (nm1_of (by decide +kernel)) g7)
      · exact (Ex.cho (Ex.one (Ex.int (by decide)) g8) (nm1_of (by decide +kernel)) g9)
    · have e : n ≠ 2 := fun z => e (by rw [z]; rfl)
      exact ⟨_, _, rfl, A0.1, A0.2.1, by obtain ⟨xs, h1, h2, h3⟩ := A0.2.2; exact ⟨xs, h1, h2, fun z => h3 (by omega)⟩⟩
  rintro σ H2 ⟨p4, v, rfl, A0⟩
  have sm := A0.1
  refine ⟨fun σ H' => ∃ (p : Addr) (v : Option V), σ = [some (.int ((n + 1 : Nat) : Int)), some (.ref p), v] ∧ AnyAt M H H' n p True, ?_, ?_⟩
  · refine ⟨_, rfl, _, _, rfl, rfl, _, rfl, ifS (fun e => ?_) (fun e => ?_)⟩
    · obtain rfl : n = 3 := by omega
      refine ⟨by show 1 ≤ sizeLine; decide, fun a1 n1 => ?_⟩
      have s1 := same_new n1 (.lst [.int 0])
      refine ⟨_, rfl, _, _, rfl, rfl, a1, 3, [.int 0], rfl, rfl, upd_same, by decide, by decide, by decide, fun a2 n2 => ?_⟩
      have s2 := same_new n2 (.lst (List.replicate (3 : Int).toNat [V.int 0]).flatten)
      refine ⟨_, rfl, _, _, rfl, rfl, "a", 3, rfl, rfl, by decide, by decide, by decide, ?_⟩
      refine ⟨by show 2 ≤ sizeLine; decide, fun a3 n3 => ?_⟩
      have s3 := same_new n3 (.lst [.ref a2, .str (strRep "a" (3 : Int).toNat)])
      have c1 := sm.trans s1
      have c2 := c1.trans s2
      refine ⟨a3, _, rfl, c2.trans s3, c2.free n3, _, upd_same, by show 2 ≤ 30; decide, fun _ x hx => ?_⟩
      simp only [List.mem_cons, List.not_mem_nil, or_false] at hx
      rcases hx with rfl | rfl
      · exact Ex.zeros (n := 3) (vs := (List.replicate (3 : Int).toNat [V.int 0]).flatten) (by
          intro v hv
          simpa using hv) (off_in al (c1.free n2) (s3 _ _ upd_same))
      · exact Ex.str (rep_ab 3 (by simp)).1.1 (by rw [show (3 : Int).toNat = 3 from rfl, (rep_ab 3 (by simp)).1.2])
    · exact ⟨_, _, rfl, A0.1, A0.2.1, by obtain ⟨xs, h1, h2, h3⟩ := A0.2.2; exact ⟨xs, h1, h2, fun _ => h3 (by omega)⟩⟩
  rintro σ H2 ⟨p4, v, rfl, A0⟩
  exact ⟨_, rfl, q _ _ A0⟩
end
end Ff
/-! The law, 5: the table of what a definition writes. -/
namespace Ff
open PySem L2 C8
/-! ### an object that is built -/
structure Acc (S M : List Addr) (H H' : Hp) (p : Addr) (Pr : Hp → HO → Prop) : Prop where
  np : H p = none
  al : Al M H
  sub : ∀ a ∈ S, a ∈ M
  st : Stp S H H'
  ex : ∃ o, H' p = some o ∧ Pr (off (p :: M) H') o
def Mono (Pr : Hp → HO → Prop) : Prop := ∀ (G G' : Hp) (o : HO), Pr G o → Same G G' → Pr G' o
section
variable {S M : List Addr} {H H' H'' : Hp} {p : Addr} {o : HO} {Pr Pr' : Hp → HO → Prop}
theorem Acc.new (hp : H p = none) (al : Al M H) (sub : ∀ a ∈ S, a ∈ M) (h : ∀ G, Pr G o) : Acc S M H (upd H p o) p Pr := ⟨hp, al, sub, Stp.new hp, o, upd_same, h _⟩
theorem Acc.nm (a : Acc S M H H' p Pr) : p ∉ M := a.al.ne a.np
theorem Acc.ns (a : Acc S M H H' p Pr) : p ∉ S := fun z => a.nm (a.sub _ z)
theorem Acc.so (a : Acc S M H H' p Pr) : Same (off M H) (off (p :: M) H') := (a.st.mono a.sub).offs fun b hb => by
  rcases List.mem_cons.mp hb with rfl | hb
  · exact .inr a.np
  · exact .inl hb
theorem Acc.alp (a : Acc S M H H' p Pr) : Al (p :: M) H' := by
  obtain ⟨o, h, _⟩ := a.ex
  exact (a.al.stp a.st).cons h
theorem Acc.step (a : Acc S M H H' p Pr) (mo : Mono Pr) (s : Stp S H' H'') : Acc S M H H'' p Pr := by
  obtain ⟨o, h1, h2⟩ := id a.ex
  exact ⟨a.np, a.al, a.sub, a.st.trans s, o, s.keep _ _ a.ns h1, mo _ _ _ h2 ((s.mono (M' := p :: M) fun b hb => List.mem_cons_of_mem _ (a.sub b hb)).offs fun _ z => .inl z)⟩
theorem Acc.set (a : Acc S M H H' p Pr) (h : Pr' (off (p :: M) H') o) (mo : Mono Pr') : Acc S M H (upd H' p o) p Pr' :=
  ⟨a.np, a.al, a.sub, ⟨fun b u hb e => by rw [upd_ne (ne_of_none e a.np)]; exact a.st.keep b u hb e, fun b e => a.st.al b (upd_none e).2⟩, o, upd_same, mo _ _ _ h off_put⟩
theorem Acc.as (a : Acc S M H H' p Pr) (h : ∀ G o, Pr G o → Pr' G o) : Acc S M H H' p Pr' := by
  obtain ⟨o, h1, h2⟩ := id a.ex
  exact ⟨a.np, a.al, a.sub, a.st, o, h1, h _ _ h2⟩
theorem Acc.same (a : Acc [] M H H' p Pr) : Same H H' := a.st.same
end
/-- a list of up to b values, each of them Ok -/
abbrev LP (b : Nat) (Ok : Hp → V → Prop) : Hp → HO → Prop := fun G o => ∃ ys, o = .lst ys ∧ ys.length ≤ b ∧ ∀ v ∈ ys, Ok G v
def MonoV (Ok : Hp → V → Prop) : Prop := ∀ (G G' : Hp) (v : V), Ok G v → Same G G' → Ok G' v
theorem LP.mono {b : Nat} {Ok : Hp → V → Prop} (m : MonoV Ok) : Mono (LP b Ok) := by
  rintro G G' o ⟨ys, h1, h2, h3⟩ s
  exact ⟨ys, h1, h2, fun v hv => m _ _ _ (h3 v hv) s⟩
section
variable {S M : List Addr} {H H' H'' : Hp} {p : Addr} {b b' : Nat} {Ok : Hp → V → Prop}
theorem Acc.nil (hp : H p = none) (al : Al M H) (sub : ∀ a ∈ S, a ∈ M) : Acc S M H (upd H p (.lst [])) p (LP b Ok) := Acc.new hp al sub fun G => ⟨[], rfl, Nat.zero_le _, fun v hv => absurd hv (by simp)⟩
theorem Acc.lst (a : Acc S M H H' p (LP b Ok)) : ∃ ys, H' p = some (.lst ys) ∧ ys.length ≤ b ∧ ∀ v ∈ ys, Ok (off (p :: M) H') v := by
  obtain ⟨_, h, ys, rfl, h1, h2⟩ := id a.ex
  exact ⟨ys, h, h1, h2⟩
theorem Acc.wide (a : Acc S M H H' p (LP b Ok)) (h : b ≤ b') : Acc S M H H' p (LP b' Ok) := a.as fun G o ⟨ys, h1, h2, h3⟩ => ⟨ys, h1, Nat.le_trans h2 h, h3⟩
theorem Acc.add (a : Acc S M H H' p (LP b Ok)) (m : MonoV Ok) {ys : List V} {v : V} (hy : H' p = some (.lst ys)) (hv : Ok (off (p :: M) H') v) (hb : b + 1 ≤ b') : Acc S M H (upd H' p (.lst (ys ++ [v]))) p (LP b' Ok) := by
  obtain ⟨zs, h1, h2, h3⟩ := a.lst
  rw [hy] at h1
  cases h1
  refine a.set ⟨_, rfl, by rw [List.length_append]; exact Nat.le_trans (Nat.add_le_add_right h2 1) hb, fun x hx => ?_⟩ (LP.mono m)
  rcases List.mem_append.mp hx with hx | hx
  · exact h3 x hx
  · rw [List.mem_singleton.mp hx]; exact hv
end
def SzQ (M : List Addr) (H : Hp) (F : Dfs) (n : Nat) (df : Df) (Q : VK) : Prop := ∀ p H' xs, Same H H' → H p = none → H' p = some (.lst xs) → xs.length ≤ 1000000 → (xs.length ≤ 150 → ∀ v ∈ xs, Ent F n (off M H') df v) → Q (.ref p) H'
/-! ### lists -/
def RowL (F : Dfs) (n : Nat) (e : Str) (i : Nat) (G : Hp) (v : V) : Prop := ∃ (t l : Addr) (z : Nat) (vs : List V) (ds : List D), v = .ref t ∧ G t = some (.tup [.ref l, .int (z : Int)]) ∧ G l = some (.lst vs) ∧ Paired (Rep n G) vs ds ∧ (∀ d ∈ ds, Wr F n e d ∧ d.gd 1000) ∧ sizeL ds = z ∧ z ≤ n ∧ vs.length = i
theorem RowL.same {F : Dfs} {n : Nat} {e : Str} {i : Nat} {G G' : Hp} {v : V} (h : RowL F n e i G v) (s : Same G G') : RowL F n e i G' v := by
  obtain ⟨t, l, z, vs, ds, h1, h2, h3, h4, h5⟩ := h
  exact ⟨t, l, z, vs, ds, h1, s _ _ h2, s _ _ h3, paired_same h4 s, h5⟩
theorem ent_same {F : Dfs} {n : Nat} {df : Df} : MonoV fun G v => Ent F n G df v := fun _ _ _ h s => h.same s
section
variable {P : Program} {w : World} {K : PySem.W.Frag} {mg : Str → Option Value} {base : Heap} {C kA : Addr}
def spLists : Sp := fun vs H Q _ => ∃ (tb da : Addr) (n : Nat) (F : Dfs) (M : List Addr) (kvs : List (List Key × V)) (e : Str) (lo hi : Int), vs = [.ref tb, .ref da, .int ((n + 1 : Nat) : Int)] ∧ n ≤ 3 ∧ Al M H ∧ H tb = some (.dT kvs) ∧ Tab F n (off M H) kvs ∧
  off M H da = some (.tup [.str "list", .str e, .int lo, .int hi]) ∧ TbD F 100 (.lst e lo hi) ∧ SzQ M H F n (.lst e lo hi) Q
theorem ok_lists (h : Has K mg "_law_lists" s_l_lists p_l_lists) (T : Txt K mg C kA) : Cal P w K mg base 1 "_law_lists" spLists [] := by
  refine h.cal sc_l_lists (fun vs H Q E h => ?_) (fun f cdv A outer s H vs Q E hr h => ?_)
  · obtain ⟨tb, da, n, F, M, kvs, e, lo, hi, rfl, _⟩ := h
    rfl
  obtain ⟨tb, da, n, F, M, kvs, e, lo, hi, rfl, hn, al, htb, tab, hda, ⟨he, hlo, hhi⟩, q⟩ := h
  refine ⟨_, (pss_cons (ps_set (i := 3) sc_l_lists.nd rfl (Or.inl rfl) (pe_lst (pa_cons (pe_tup (pa_cons (pe_lst pa_nil) (pa_cons pe_int pa_nil))) pa_nil)))
      (pss_cons (ps_set (i := 4) sc_l_lists.nd rfl (Or.inl rfl) (pe_lst pa_nil))
      (pss_cons (ps_for PassesOwn.never rfl (pi_range1 rfl T.z_range (pa_cons (pe_op op_add (pe_ix ix_tup (pv 1) pe_int (fun _ _ => rfl)) pe_int) pa_nil)) (pg_name (i := 5) sc_l_lists.nd rfl (Or.inr rfl))
        (pss_cons (ps_set (i := 4) sc_l_lists.nd rfl (Or.inl rfl) (pe_op op_cat (pv 4) (pe_lc (own := [("_law_row_here", 7)]) (g := gName 7) rfl sc_l_lists.nd (pi_list (pv 3)) (blkOk_by (own := [("_law_row_here", 7)]) (N := n_l_lists) (sc := fnScope s_l_lists) (by decide +kernel)) (fun _ _ _ _ _ => pg_name (i := 7) sc_l_lists.nd rfl (Or.inl rfl)) (fun _ _ _ _ _ => (pts_one (PW.pt (pw_and (pt_cmpR op_ge (pv 5) (pe_ix (ix_tupK (K := K) rfl) (pv 1) pe_int (fun _ _ => rfl)) (nomark _)) (pw_and1 (pt_cmpR op_eq (pe_ix (ix_tupK (K := K) rfl) (pv 7) pe_int (fun _ _ => rfl)) (pe_op op_sub (pv 2) pe_int) (nomark _))))))) (fun _ _ _ _ _ => (pe_ix (ix_tupK (K := K) rfl) (pv 7) pe_int (fun _ _ => rfl))))))
        (pss_cons (ps_set (i := 6) sc_l_lists.nd rfl (Or.inl rfl) (pe_lst pa_nil))
        (pss_cons (ps_for PassesOwn.never rfl (pi_list (pv 3)) (pg_name (i := 7) sc_l_lists.nd rfl (Or.inl rfl))
          (pss_one (ps_for PassesOwn.never rfl (pi_range2 rfl T.z_range (pa_cons pe_int (pa_cons (pe_op op_sub (pv 2) (pe_ix ix_tup (pv 7) pe_int (fun _ _ => rfl))) pa_nil))) (pg_name (i := 8) sc_l_lists.nd rfl (Or.inl rfl))
            (pss_one (ps_for PassesOwn.never rfl (pi_list (pe_dget (hu_of hr) (pv 0) (pe_tup (pa_cons (pe_ix ix_tup (pv 1) pe_int (fun _ _ => rfl)) (pa_cons (pv 8) pa_nil))) (fun _ _ => rfl))) (pg_name (i := 9) sc_l_lists.nd rfl (Or.inl rfl))
              (pss_one (ps_expr (pe_bm PySem.F.plainAttrs_list PySem.F.slot_list_append PySem.F.type_list_append mt_append (pv 6) (pa_cons (pe_tup (pa_cons (pe_op op_cat (pe_ix ix_tup (pv 7) pe_int (fun _ _ => rfl)) (pe_lst (pa_cons (pv 9) pa_nil))) (pa_cons (pe_op op_add (pe_ix ix_tup (pv 7) pe_int (fun _ _ => rfl)) (pv 8)) pa_nil))) pa_nil)))))))))
        (pss_cons (ps_if (pt_cmpR op_gt (pe_callB call_len_seq rfl T.z_len (by decide +kernel) (pa_cons (pv 6) pa_nil)) pe_int (nomark _)) (pss_one (ps_ret (pe_op op_rep (pe_lst (pa_cons pe_int pa_nil)) pe_int))) pss_nil)
        (pss_one (ps_set (i := 3) sc_l_lists.nd rfl (Or.inl rfl) (pv 6))))))))
      (pss_one (ps_ret (pv 4)))))), ?_⟩
  obtain ⟨de, hde⟩ := Option.isSome_iff_exists.mp he
  refine ⟨by show 0 ≤ sizeLine; decide, fun l0 n1 => ⟨by show 2 ≤ sizeLine; decide, fun t0 n2 => ⟨by show 1 ≤ sizeLine; decide, fun R n3 => ?_⟩⟩⟩
  refine ⟨by show 0 ≤ sizeLine; decide, fun fo n4 => ?_⟩
  have s1 := same_new n1 (.lst ([] : List V))
  have s2 := same_new n2 (.tup [.ref l0, .int 0])
  have s3 := same_new n3 (.lst [.ref t0])
  have s4 := same_new n4 (.lst ([] : List V))
  have s34 := s3.trans s4
  have c4 := (s1.trans s2).trans s34
  refine ⟨_, rfl, da, _, _, .int hi, rfl, rfl, SqT.of (c4 _ _ (off_at hda)), at_of (j := 3) rfl rfl, hi, 1, rfl, rfl, ?_⟩
  refine ⟨hi + 1, rfl, by omega, by omega, ?_⟩
  refine for_range (lo := 0) (n := (hi + 1).toNat) (fun i σ H' => Same H H' ∧ ∃ (R fo : Addr) (rs xs : List V) (x5 x6 x7 x8 x9 : Option V), H' R = some (.lst rs) ∧ rs.length ≤ 400 ∧ (∀ r ∈ rs, RowL F n e i (off M H') r) ∧ H fo = none ∧ H' fo = some (.lst xs) ∧ xs.length ≤ 400 * i ∧
      (∀ v ∈ xs, Ent F n (off M H') (.lst e lo hi) v) ∧ σ = [some (.ref tb), some (.ref da), some (.int ((n + 1 : Nat) : Int)), some (.ref R), some (.ref fo), x5, x6, x7, x8, x9])
    ⟨c4, R, fo, [.ref t0], [], none, none, none, none, none, s4 _ _ upd_same, by show 1 ≤ 400; decide, fun r hr => ?_, ((s1.trans s2).trans s3).free n4, upd_same, Nat.zero_le _, by simp, rfl⟩ ?_ ?_
  · rw [List.mem_singleton.mp hr]
    exact ⟨t0, l0, 0, [], [], rfl, off_in al (s1.free n2) (s34 _ _ upd_same), off_in al n1 (s34 _ _ (s2 _ _ upd_same)), .nil, by simp, rfl, Nat.zero_le _, rfl⟩
  · rintro i σ H1 hi1 ⟨sm, R, fo, rs, xs, x5, x6, x7, x8, x9, hR, hRl, hrs, nfo, hfo, hxl, hxs, rfl⟩
    -- the lists of the size
    refine ⟨_, rfl, _, rfl, R, rfl, ⟨_, SqL.of hR⟩, fun L hL => ?_⟩
    have nRL : R ≠ L := ne_of_none hR hL
    refine lc_list (K := K) (xs := rs) (fun j H' => ∃ ys, H' = upd H1 L (.lst ys) ∧ ys.length ≤ j ∧ ∀ v ∈ ys, Ent F n (off M H1) (.lst e lo hi) v)
      ⟨[], rfl, Nat.zero_le _, by simp⟩ (fun j H' _ ⟨ys, h, _⟩ => SqL.of (by rw [h, upd_ne nRL]; exact hR)) ?_ ?_
    · rintro j x H2 hx ⟨ys, rfl, hyl, hys⟩
      obtain ⟨t, l, z, vs, ds, rfl, ht, hl, hp, hw, hz, hzn, hvl⟩ := hrs x (List.mem_of_getElem? hx)
      have e1 := same_new hL (.lst ys)
      refine ⟨rfl, ?_⟩
      refine and2 (a := decide (lo ≤ (0 + (i : Int)))) (b := decide (V.int (z : Int) = V.int (((n + 1 : Nat) : Int) - 1))) ?_ ?_ ?_
      · exact fun Q q => ⟨_, rfl, _, rfl, da, _, _, .int lo, rfl, rfl, SqT.of (e1 _ _ (sm _ _ (off_at hda))), at_of (j := 2) rfl rfl, _, _, rfl, rfl, _, rfl, q⟩
      · exact fun _ Q q => ⟨_, rfl, t, _, _, .int (z : Int), rfl, rfl, SqT.of (e1 _ _ (off_at ht)), at_of (j := 1) rfl rfl, _, rfl, _, _, rfl, rfl, rfl, _, rfl, q⟩
      refine ifAnd (fun c1 c2 => ?_) (fun _ => ⟨ys, rfl, by omega, hys⟩)
      have c2 : z = n := by
        have := V.int.inj c2
        omega
      refine ⟨_, rfl, t, _, _, .ref l, rfl, rfl, SqT.of (e1 _ _ (off_at ht)), at_of (j := 0) rfl rfl, ys, upd_same, line_lt ?_, ys ++ [.ref l], by rw [upd_upd], by simp; omega, fun v hv => ?_⟩
      · have := (List.getElem?_eq_some_iff.mp hx).1
        omega
      rcases List.mem_append.mp hv with hv | hv
      · exact hys v hv
      · rw [List.mem_singleton.mp hv]
        refine ⟨.lst ds, ⟨l, vs, rfl, hl, hp⟩, ⟨?_, ?_, fun d hd => (hw d hd).1⟩, gd_lst fun d hd => (hw d hd).2, by simp only [D.size]; omega⟩
        · have := hp.length
          omega
        · have := hp.length
          omega
    rintro H2 ⟨ys, rfl, hyl, hys⟩
    have e1 := same_new hL (.lst ys)
    refine ⟨fo, L, _, _, rfl, rfl, e1 _ _ hfo, upd_same, line_small (by omega), fun fo2 n5 => ?_⟩
    have e2 := same_new n5 (.lst (xs ++ ys))
    have sm2 := (sm.trans e1).trans e2
    have e12 := e1.trans e2
    have hR2 := e12 _ _ hR
    have hrs2 : ∀ r ∈ rs, RowL F n e i (off M _) r := fun r hr => (hrs r hr).same (offs_same e12)
    have tab2 := tab.same (offs_same sm2)
    have al2 := al.same sm2
    have hfo2 : upd (upd H1 L (.lst ys)) fo2 (.lst (xs ++ ys)) fo2 = some (.lst (xs ++ ys)) := upd_same
    have nfo2 := (sm.trans e1).free n5
    have hent : ∀ v ∈ xs ++ ys, Ent F n (off M (upd (upd H1 L (.lst ys)) fo2 (.lst (xs ++ ys)))) (.lst e lo hi) v := fun v hv => by
      rcases List.mem_append.mp hv with hv | hv
      · exact (hxs v hv).same (offs_same e12)
      · exact (hys v hv).same (offs_same e12)
    have hlen2 : (xs ++ ys).length ≤ 400 * (i + 1) := by rw [List.length_append]; omega
    have htb2 := sm2 _ _ htb
    have hda2 := (offs_same (M := M) sm2) _ _ hda
    clear hys hyl hxs hrs hfo hR e1 e2 e12
    generalize upd (upd H1 L (.lst ys)) fo2 (.lst (xs ++ ys)) = H2 at *
    generalize xs ++ ys = zs at *
    refine ⟨by show 0 ≤ sizeLine; decide, fun Lg n6 => ?_⟩
    have mR : MonoV (RowL F n e (i + 1))   := fun _ _ _ h s => h.same s
    have A0 : Acc [] M H2 (upd H2 Lg (.lst [])) Lg (LP (500 * 0) (RowL F n e (i + 1))) := Acc.nil n6 al2 (by simp)
    refine ⟨_, rfl, R, rfl, ⟨_, SqL.of (A0.same _ _ hR2)⟩, ?_⟩
    refine for_list (K := K) (xs := rs) (fun j σ H' => Acc [] M H2 H' Lg (LP (500 * j) (RowL F n e (i + 1))) ∧ ∃ (x7 x8 x9 : Option V), σ = [some (.ref tb), some (.ref da), some (.int ((n + 1 : Nat) : Int)), some (.ref R), some (.ref fo2), some (.int (0 + (i : Int))), some (.ref Lg), x7, x8, x9])
      ⟨A0, _, _, _, rfl⟩ (fun j σ H' _ h => SqL.of (h.1.same _ _ hR2)) ?_ ?_
    · rintro j x σ H3 hx ⟨A1, x7, x8, x9, rfl⟩
      obtain ⟨t, l, z, vs, ds, rfl, ht, hl, hp, hw, hz, hzn, hvl⟩ := hrs2 x (List.mem_of_getElem? hx)
      refine ⟨_, rfl, _, rfl, t, _, _, .int (z : Int), rfl, rfl, SqT.of (A1.same _ _ (off_at ht)), at_of (j := 1) rfl rfl, _, _, rfl, rfl, 1, _, rfl, ⟨by decide, by decide, by omega, by omega⟩, ?_⟩
      refine for_range (lo := 1) (fun k σ H' => Acc [] M H2 H' Lg (LP (500 * j + 150 * k) (RowL F n e (i + 1))) ∧ ∃ (x8 x9 : Option V), σ = [some (.ref tb), some (.ref da), some (.int ((n + 1 : Nat) : Int)), some (.ref R), some (.ref fo2), some (.int (0 + (i : Int))), some (.ref Lg), some (.ref t), x8, x9])
        ⟨A1, _, _, rfl⟩ ?_ ?_
      · rintro k σ H4 hk ⟨A2, x8, x9, rfl⟩
        have hk2 : k < n - z := by omega
        obtain ⟨x, hx1, le, us, rfl, hle, hus, hen⟩ := tab2 e de hde k (by omega)
        have ek : ((k + 1 : Nat) : Int) = 1 + (k : Int) := by omega
        rw [tkey, ek] at hx1
        refine ⟨_, rfl, _, rfl, da, _, _, .str e, rfl, rfl, SqT.of (A2.same _ _ (off_at hda2)), at_of (j := 1) rfl rfl, _, rfl, by show 2 ≤ sizeLine; decide, fun tk ntk => ?_⟩
        have e3 := same_new ntk (.tup [.str e, .int (1 + (k : Int))])
        have A3 := A2.step (LP.mono mR) (Stp.of_same e3)
        refine ⟨tb, .ref le, rfl, hx1 ▸ DGet.t (k := [Sum.inr e, Sum.inl (1 + (k : Int))]) (A3.same _ _ htb2) upd_same, le, rfl, ⟨_, SqL.of (A3.same _ _ (off_at hle))⟩, ?_⟩
        refine for_list (K := K) (xs := us) (fun g σ H' => Acc [] M H2 H' Lg (LP (500 * j + 150 * k + g) (RowL F n e (i + 1))) ∧ ∃ (x9 : Option V), σ = [some (.ref tb), some (.ref da), some (.int ((n + 1 : Nat) : Int)), some (.ref R), some (.ref fo2), some (.int (0 + (i : Int))), some (.ref Lg), some (.ref t), some (.int (1 + (k : Int))), x9])
          ⟨A3, _, rfl⟩ (fun g σ H' _ h => SqL.of (h.1.same _ _ (off_at hle))) ?_ ?_
        · rintro g x σ H5 hx5 ⟨A4, x9, rfl⟩
          obtain ⟨ys, hy, hyl, hys⟩ := A4.lst
          obtain ⟨d, d1, d2, d3, d4⟩ := (hen x (List.mem_of_getElem? hx5)).wr hde
          have hg := (List.getElem?_eq_some_iff.mp hx5).1
          have hj := (List.getElem?_eq_some_iff.mp hx).1
          refine ⟨_, rfl, .inl ⟨rfl, _, SqL.of hy⟩, ?_⟩
          refine ⟨_, rfl, t, _, _, .ref l, rfl, rfl, SqT.of (A4.same _ _ (off_at ht)), at_of (j := 0) rfl rfl, _, rfl, by show 1 ≤ sizeLine; decide, fun q1 m1 => ?_⟩
          have f1 := same_new m1 (.lst [x])
          refine ⟨l, q1, _, _, rfl, rfl, f1 _ _ (A4.same _ _ (off_at hl)), upd_same, line_small (by rw [List.length_singleton, hvl]; omega), fun q2 m2 => ?_⟩
          have f2 := same_new m2 (.lst (vs ++ [x]))
          have f12 := f1.trans f2
          refine ⟨_, rfl, t, _, _, .int (z : Int), rfl, rfl, SqT.of (f12 _ _ (A4.same _ _ (off_at ht))), at_of (j := 1) rfl rfl, _, rfl, _, _, rfl, rfl, by show 2 ≤ sizeLine; decide, fun q3 m3 => ?_⟩
          have f3 := same_new m3 (.tup [.ref q2, .int ((z : Int) + (1 + (k : Int)))])
          have f123 := f12.trans f3
          have A5 := A4.step (LP.mono mR) (Stp.of_same f123)
          have hy3 := f123 _ _ hy
          refine ⟨Lg, _, _, rfl, rfl, hy3, line_blt (by omega), ?_⟩
          refine ⟨A5.add mR hy3 ?_ (Nat.le_refl _), _, rfl⟩
          have so := A5.so
          refine ⟨q3, q2, z + (k + 1), vs ++ [x], ds ++ [d], rfl, ?_, off_in A4.alp (f1.free m2) (f3 _ _ upd_same), ?_, ?_, ?_, by omega, by rw [List.length_append, hvl]; rfl⟩
          · have : ((z + (k + 1) : Nat) : Int) = (z : Int) + (1 + (k : Int)) := by omega
            rw [this]
            exact off_in A4.alp (f12.free m3) upd_same
          · exact paired_append (paired_same hp so) (.cons ((d1.mono (by omega)).same so) .nil)
          · intro d' hd'
            rcases List.mem_append.mp hd' with hd' | hd'
            · exact hw d' hd'
            · rw [List.mem_singleton.mp hd']
              exact ⟨d2.mono (by omega), d3⟩
          · rw [sizeL_append]
            simp only [sizeL]
            omega
        · rintro σ H5 ⟨A4, x9, rfl⟩
          exact ⟨A4.wide (by omega), _, _, rfl⟩
      · rintro σ H4 ⟨A2, x8, x9, rfl⟩
        exact ⟨A2.wide (by omega), _, _, _, rfl⟩
    rintro σ H3 ⟨A1, x7, x8, x9, rfl⟩
    obtain ⟨ys, hy, hyl, hys⟩ := A1.lst
    have sm3 := A1.same
    refine ⟨_, rfl, Lg, ys, rfl, .inl (SqL.of hy), _, _, rfl, rfl, _, rfl, ifS (fun c => ?_) (fun c => ?_)⟩
    · refine ⟨by show 1 ≤ sizeLine; decide, fun q1 m1 => ?_⟩
      have f1 := same_new m1 (.lst [V.int 0])
      refine ⟨q1, 400, [.int 0], rfl, rfl, upd_same, by decide, by decide, by decide, fun q2 m2 => ?_⟩
      have f2 := same_new m2 (.lst (List.replicate (400 : Int).toNat [V.int 0]).flatten)
      have e400 : (List.replicate (400 : Int).toNat [V.int 0]).flatten.length = 400 := by decide +kernel
      exact q q2 _ _ (((sm2.trans sm3).trans f1).trans f2) (((sm2.trans sm3).trans f1).free m2) upd_same (by rw [e400]; decide) (fun z => absurd z (by rw [e400]; decide))
    · refine ⟨_, rfl, sm2.trans sm3, Lg, fo2, ys, zs, _, _, _, _, _, hy, by omega, fun r hr => (hys r hr).same off_less, nfo2, sm3 _ _ hfo2, hlen2, fun v hv => (hent v hv).same (offs_same sm3), rfl⟩
  · rintro σ H1 ⟨sm, R, fo, rs, xs, x5, x6, x7, x8, x9, hR, hRl, hrs, nfo, hfo, hxl, hxs, rfl⟩
    exact ⟨_, rfl, q fo H1 xs sm nfo hfo (by omega) fun _ => hxs⟩
end
end Ff
/-! The law, 6: records; the table. -/
namespace Ff
open PySem L2 C8
theorem ifNN {c A B : Prop} [Decidable c] (h1 : c → A) (h2 : ¬ c → B) : if (!(!decide c)) = true then A else B := by
  rw [Bool.not_not]
  exact ifS h1 h2
/-! ### records -/
theorem wrF_snoc {rec : Str → D → Prop} {f : Fd} {d : D} (h : rec f.ty d) : ∀ {fs : List Fd} {gs : List (Str × D)}, wrF rec fs gs → wrF rec (fs ++ [f]) (gs ++ [(f.nm, d)])
  | [], gs, w => by
    obtain rfl : gs = [] := w
    exact .inl ⟨d, [], rfl, h, rfl⟩
  | g :: fs, gs, w => by
    rcases w with ⟨d', gs', rfl, h1, h2⟩ | ⟨e, h2⟩
    · exact .inl ⟨d', gs' ++ [(f.nm, d)], rfl, h1, wrF_snoc h h2⟩
    · exact .inr ⟨e, wrF_snoc h h2⟩
theorem wrF_skip {rec : Str → D → Prop} {f : Fd} (h : f.pr = .opt) : ∀ {fs : List Fd} {gs : List (Str × D)}, wrF rec fs gs → wrF rec (fs ++ [f]) gs
  | [], gs, w => .inr ⟨h, w⟩
  | g :: fs, gs, w => by
    rcases w with ⟨d', gs', rfl, h1, h2⟩ | ⟨e, h2⟩
    · exact .inl ⟨d', gs', rfl, h1, wrF_skip h h2⟩
    · exact .inr ⟨e, wrF_skip h h2⟩
theorem wrF_nd {rec : Str → D → Prop} : ∀ {fs : List Fd} {gs : List (Str × D)}, (fs.map (·.nm)).Nodup → wrF rec fs gs → (gs.map (·.1)).Nodup ∧ gs.length ≤ fs.length
  | [], gs, _, w => by
    obtain rfl : gs = [] := w
    exact ⟨.nil, Nat.le_refl _⟩
  | f :: fs, gs, nd, w => by
    have nd' := List.nodup_cons.mp nd
    rcases w with ⟨d', gs', rfl, h1, h2⟩ | ⟨e, h2⟩
    · obtain ⟨h3, h4⟩ := wrF_nd nd'.2 h2
      refine ⟨List.nodup_cons.mpr ⟨fun hm => ?_, h3⟩, Nat.succ_le_succ h4⟩
      obtain ⟨p, hp, ep⟩ := List.mem_map.mp hm
      have := wrF_names h2 p hp
      rw [ep] at this
      exact nd'.1 this
    · obtain ⟨h3, h4⟩ := wrF_nd nd'.2 h2
      exact ⟨h3, Nat.le_succ_of_le h4⟩
theorem nm_fresh : ∀ {fs : List Fd} {i : Nat} {f : Fd}, (fs.map (·.nm)).Nodup → fs[i]? = some f → f.nm ∉ (fs.take i).map (·.nm)
  | [], i, f, _, h => by simp at h
  | g :: fs, 0, f, _, h => by simp
  | g :: fs, i + 1, f, nd, h => by
    have nd' := List.nodup_cons.mp nd
    have h' : fs[i]? = some f := by simpa using h
    rw [List.take_succ_cons, List.map_cons, List.mem_cons, not_or]
    refine ⟨fun e => nd'.1 ?_, nm_fresh nd'.2 h'⟩
    show g.nm ∈ _
    rw [show g.nm = f.nm from e.symm]
    exact List.mem_map_of_mem (List.mem_of_getElem? h')
theorem RepFd.parts {G : Hp} {v : V} {f : Fd} (h : RepFd G v f) : ∃ a xs, v = .ref a ∧ G a = some (.tup xs) ∧ xs[0]? = some (.str f.nm) ∧ xs[1]? = some (.str f.ty) ∧ xs[2]? = some (.str (prS f.pr)) := by
  obtain ⟨a, e, h⟩ := h
  cases hp : f.pr <;> rw [hp] at h <;> dsimp only at h
  case dft d =>
    obtain ⟨x, h1, _⟩ := h
    exact ⟨a, _, e, h1, rfl, rfl, rfl⟩
  all_goals exact ⟨a, _, e, h, rfl, rfl, rfl⟩
theorem prS_opt {p : Pr} : prS p = "optional" ↔ p = .opt := by
  cases p with
  | opt => exact ⟨fun _ => rfl, fun _ => rfl⟩
  | req => exact ⟨fun h => absurd h (by decide +kernel), fun h => by cases h⟩
  | mark => exact ⟨fun h => absurd h (by decide +kernel), fun h => by cases h⟩
  | dft d => exact ⟨fun h => absurd (show ("default" : Str) = "optional" from h) (by decide +kernel), fun h => by cases h⟩
def RowR (F : Dfs) (n : Nat) (fs : List Fd) (i : Nat) (G : Hp) (v : V) : Prop := ∃ (t l : Addr) (z : Nat) (kvs : List (Key × V)) (gs : List (Str × D)), v = .ref t ∧ G t = some (.tup [.ref l, .int (z : Int)]) ∧ G l = some (.dK kvs) ∧ Paired (RepF n G) kvs gs ∧ wrF (Wr F n) (fs.take i) gs ∧ gdF 1000 gs ∧ sizeF gs = z ∧ z ≤ n
theorem RowR.same {F : Dfs} {n : Nat} {fs : List Fd} {i : Nat} {G G' : Hp} {v : V} (h : RowR F n fs i G v) (s : Same G G') : RowR F n fs i G' v := by
  obtain ⟨t, l, z, vs, ds, h1, h2, h3, h4, h5⟩ := h
  exact ⟨t, l, z, vs, ds, h1, s _ _ h2, s _ _ h3, pairedF_same h4 s, h5⟩
theorem gdF_append {b : Nat} {xs ys : List (Str × D)} (h : gdF b xs) (h' : gdF b ys) : gdF b (xs ++ ys) := gdF_iff.mpr fun p hp => by
  rcases List.mem_append.mp hp with hp | hp
  · exact gdF_iff.mp h p hp
  · exact gdF_iff.mp h' p hp
section
variable {P : Program} {w : World} {K : PySem.W.Frag} {mg : Str → Option Value} {base : Heap} {C kA : Addr}
def spRecords : Sp := fun vs H Q _ => ∃ (tb da fa : Addr) (n : Nat) (F : Dfs) (M : List Addr) (kvs : List (List Key × V)) (us : List V) (fs : List Fd), vs = [.ref tb, .ref da, .int ((n + 1 : Nat) : Int)] ∧ n ≤ 3 ∧ Al M H ∧ H tb = some (.dT kvs) ∧ Tab F n (off M H) kvs ∧
  off M H da = some (.tup [.str "record", .ref fa]) ∧ off M H fa = some (.tup us) ∧ Paired (RepFd (off M H)) us fs ∧ TbD F 100 (.rcd fs) ∧ SzQ M H F n (.rcd fs) Q
theorem ok_records (h : Has K mg "_law_records" s_l_records p_l_records) (T : Txt K mg C kA) (c_l_always : Cal P w K mg base 1 "_law_always" (spAlways K) []) : Cal P w K mg base 2 "_law_records" spRecords [] := by
  refine h.cal sc_l_records (fun vs H Q E h => ?_) (fun f cdv A outer s H vs Q E hr h => ?_)
  · obtain ⟨tb, da, fa, n, F, M, kvs, us, fs, rfl, _⟩ := h
    rfl
  obtain ⟨tb, da, fa, n, F, M, kvs, us, fs, rfl, hn, al, htb, tab, hda, hfa, hfs, ⟨fl, fnd, fty⟩, q⟩ := h
  refine ⟨_, (pss_cons (ps_set (i := 3) sc_l_records.nd rfl (Or.inl rfl) (pe_lst (pa_cons (pe_tup (pa_cons pe_dnewK (pa_cons pe_int pa_nil))) pa_nil)))
      (pss_cons (ps_for PassesOwn.never rfl (pi_tup (pe_ix ix_tup (pv 1) pe_int (fun _ _ => rfl))) (pg_name (i := 4) sc_l_records.nd rfl (Or.inl rfl))
        (pss_cons (ps_set (i := 5) sc_l_records.nd rfl (Or.inl rfl) (pe_lst pa_nil))
        (pss_cons (ps_for PassesOwn.never rfl (pi_list (pv 3)) (pg_name (i := 6) sc_l_records.nd rfl (Or.inl rfl))
          (C8.pss_cut (ps_if (pt_not (pt_val (pe_c c_l_always hr (by omega) rfl (pa_cons (pv 4) pa_nil)))) (pss_one (ps_expr (pe_bm PySem.F.plainAttrs_list PySem.F.slot_list_append PySem.F.type_list_append mt_append (pv 5) (pa_cons (pv 6) pa_nil)))) pss_nil)
          (pss_one (ps_for PassesOwn.never rfl (pi_range2 rfl T.z_range (pa_cons pe_int (pa_cons (pe_op op_sub (pv 2) (pe_ix ix_tup (pv 6) pe_int (fun _ _ => rfl))) pa_nil))) (pg_name (i := 7) sc_l_records.nd rfl (Or.inl rfl))
            (pss_one (ps_for PassesOwn.never rfl (pi_list (pe_dget (hu_of hr) (pv 0) (pe_tup (pa_cons (pe_ix ix_tup (pv 4) pe_int (fun _ _ => rfl)) (pa_cons (pv 7) pa_nil))) (fun _ _ => rfl))) (pg_name (i := 8) sc_l_records.nd rfl (Or.inl rfl))
              (pss_cons (ps_set (i := 9) sc_l_records.nd rfl (Or.inl rfl) (pe_callTy call_dictC rfl T.z_dict (by decide +kernel) (pa_cons (pe_ix ix_tup (pv 6) pe_int (fun _ _ => rfl)) pa_nil)))
              (pss_cons (ps_dput (hu_of hr) (pv 9) (pe_ix ix_tup (pv 4) pe_int (fun _ _ => rfl)) (pv 8) rfl)
              (pss_one (ps_expr (pe_bm PySem.F.plainAttrs_list PySem.F.slot_list_append PySem.F.type_list_append mt_append (pv 5) (pa_cons (pe_tup (pa_cons (pv 9) (pa_cons (pe_op op_add (pe_ix ix_tup (pv 6) pe_int (fun _ _ => rfl)) (pv 7)) pa_nil))) pa_nil))))))))))))
        (pss_cons (ps_if (pt_cmpR op_gt (pe_callB call_len_seq rfl T.z_len (by decide +kernel) (pa_cons (pv 5) pa_nil)) pe_int (nomark _)) (pss_one (ps_ret (pe_op op_rep (pe_lst (pa_cons pe_int pa_nil)) pe_int))) pss_nil)
        (pss_one (ps_set (i := 3) sc_l_records.nd rfl (Or.inl rfl) (pv 5)))))))
      (pss_one (ps_ret (pe_lc (own := [("_law_row_here", 6)]) (g := gName 6) rfl sc_l_records.nd (pi_list (pv 3)) (blkOk_by (own := [("_law_row_here", 6)]) (N := n_l_records) (sc := fnScope s_l_records) (by decide +kernel)) (fun _ _ _ _ _ => pg_name (i := 6) sc_l_records.nd rfl (Or.inl rfl)) (fun _ _ _ _ _ => (pts_one (pt_cmpR op_eq (pe_ix (ix_tupK (K := K) rfl) (pv 6) pe_int (fun _ _ => rfl)) (pe_op op_sub (pv 2) pe_int) (nomark _)))) (fun _ _ _ _ _ => (pe_ix (ix_tupK (K := K) rfl) (pv 6) pe_int (fun _ _ => rfl)))))))), ?_⟩
  refine fun l0 n1 => ⟨by show 2 ≤ sizeLine; decide, fun t0 n2 => ⟨by show 1 ≤ sizeLine; decide, fun R n3 => ?_⟩⟩
  have s1 := same_new n1 (.dK ([] : List (Key × V)))
  have s2 := same_new n2 (.tup [.ref l0, .int 0])
  have s3 := same_new n3 (.lst [.ref t0])
  have c4 := (s1.trans s2).trans s3
  refine ⟨_, rfl, da, _, _, .ref fa, rfl, rfl, SqT.of (c4 _ _ (off_at hda)), at_of (j := 1) rfl rfl, fa, rfl, ⟨_, SqT.of (c4 _ _ (off_at hfa))⟩, ?_⟩
  refine for_tup (K := K) (xs := us) (fun i σ H' => Same H H' ∧ ∃ (R : Addr) (rs : List V) (x4 x5 x6 x7 x8 x9 : Option V), H' R = some (.lst rs) ∧ rs.length ≤ 400 ∧ (∀ r ∈ rs, RowR F n fs i (off M H') r) ∧
      σ = [some (.ref tb), some (.ref da), some (.int ((n + 1 : Nat) : Int)), some (.ref R), x4, x5, x6, x7, x8, x9])
    ⟨c4, R, [.ref t0], none, none, none, none, none, none, upd_same, by show 1 ≤ 400; decide, fun r hr => ?_, rfl⟩ (fun i σ H' _ h => SqT.of (h.1 _ _ (off_at hfa))) ?_ ?_
  · rw [List.mem_singleton.mp hr]
    exact ⟨t0, l0, 0, [], [], rfl, off_in al (s1.free n2) (s3 _ _ upd_same), off_in al n1 (s3 _ _ (s2 _ _ upd_same)), .nil, rfl, by simp [gdF], rfl, Nat.zero_le _⟩
  · rintro i x σ H1 hx ⟨sm, R, rs, x4, x5, x6, x7, x8, x9, hR, hRl, hrs, rfl⟩
    obtain ⟨fd, hfd, rfd⟩ := paired_get hfs hx
    obtain ⟨xa, ws, rfl, hxa, w0, w1, w2⟩ := rfd.parts
    obtain ⟨fn1, fis⟩ := fty fd (List.mem_of_getElem? hfd)
    obtain ⟨de, hde⟩ := Option.isSome_iff_exists.mp fis
    have htake : fs.take (i + 1) = fs.take i ++ [fd] := by rw [List.take_add_one, hfd]; rfl
    have hfresh := nm_fresh fnd hfd
    have tab2 := tab.same (offs_same sm)
    have al2 := al.same sm
    have htb2 := sm _ _ htb
    have hxa2 := (offs_same (M := M) sm) _ _ hxa
    refine ⟨by show 0 ≤ sizeLine; decide, fun Lg n6 => ?_⟩
    have mR : MonoV (RowR F n fs (i + 1)) := fun _ _ _ h s => h.same s
    have A0 : Acc [] M H1 (upd H1 Lg (.lst [])) Lg (LP (500 * 0) (RowR F n fs (i + 1))) := Acc.nil n6 al2 (by simp)
    refine ⟨_, rfl, R, rfl, ⟨_, SqL.of (A0.same _ _ hR)⟩, ?_⟩
    refine for_list (K := K) (xs := rs) (fun j σ H' => Acc [] M H1 H' Lg (LP (500 * j) (RowR F n fs (i + 1))) ∧ ∃ (x6 x7 x8 x9 : Option V), σ = [some (.ref tb), some (.ref da), some (.int ((n + 1 : Nat) : Int)), some (.ref R), some (.ref xa), some (.ref Lg), x6, x7, x8, x9])
      ⟨A0, _, _, _, _, rfl⟩ (fun j σ H' _ h => SqL.of (h.1.same _ _ hR)) ?_ ?_
    · rintro j x σ H3 hx ⟨A1, x6, x7, x8, x9, rfl⟩
      obtain ⟨t, l, z, kvs1, gs, rfl, ht, hl, hp, hw, hg, hz, hzn⟩ := hrs x (List.mem_of_getElem? hx)
      have hj := (List.getElem?_eq_some_iff.mp hx).1
      refine ⟨fun σ H' => Acc [] M H1 H' Lg (LP (500 * j + 1) (RowR F n fs (i + 1))) ∧ σ = [some (.ref tb), some (.ref da), some (.int ((n + 1 : Nat) : Int)), some (.ref R), some (.ref xa), some (.ref Lg), some (.ref t), x7, x8, x9], ?_, ?_⟩
      · refine ⟨_, rfl, xa, ws, prS fd.pr, rfl, SqT.of (A1.same _ _ (off_at hxa2)), w2, _, rfl, ?_⟩
        refine ifNN (fun c => ?_) (fun _ => ⟨A1.wide (by omega), rfl⟩)
        obtain ⟨ys, hy, hyl, hys⟩ := A1.lst
        refine ⟨_, rfl, .inl ⟨rfl, _, SqL.of hy⟩, _, rfl, Lg, _, _, rfl, rfl, hy, line_blt (by omega), ?_⟩
        refine ⟨A1.add mR hy ?_ (Nat.le_refl _), rfl⟩
        have so := A1.so
        refine ⟨t, l, z, kvs1, gs, rfl, so _ _ ht, so _ _ hl, pairedF_same hp so, ?_, hg, hz, hzn⟩
        rw [htake]
        exact wrF_skip (prS_opt.mp c) hw
      rintro σ H4 ⟨A1, rfl⟩
      refine ⟨_, rfl, _, rfl, t, _, _, .int (z : Int), rfl, rfl, SqT.of (A1.same _ _ (off_at ht)), at_of (j := 1) rfl rfl, _, _, rfl, rfl, 1, _, rfl, ⟨by decide, by decide, by omega, by omega⟩, ?_⟩
      refine for_range (lo := 1) (fun k σ H' => Acc [] M H1 H' Lg (LP (500 * j + 1 + 150 * k) (RowR F n fs (i + 1))) ∧ ∃ (x7 x8 x9 : Option V), σ = [some (.ref tb), some (.ref da), some (.int ((n + 1 : Nat) : Int)), some (.ref R), some (.ref xa), some (.ref Lg), some (.ref t), x7, x8, x9])
        ⟨A1, _, _, _, rfl⟩ ?_ ?_
      · rintro k σ H4 hk ⟨A2, x7, x8, x9, rfl⟩
        have hk2 : k < n - z := by omega
        obtain ⟨x, hx1, le, us, rfl, hle, hus, hen⟩ := tab2 _ de hde k (by omega)
        have ek : ((k + 1 : Nat) : Int) = 1 + (k : Int) := by omega
        rw [tkey, ek] at hx1
        refine ⟨_, rfl, _, rfl, xa, _, _, .str fd.ty, rfl, rfl, SqT.of (A2.same _ _ (off_at hxa2)), at_of (j := 1) rfl w1, _, rfl, by show 2 ≤ sizeLine; decide, fun tk ntk => ?_⟩
        have e3 := same_new ntk (.tup [.str fd.ty, .int (1 + (k : Int))])
        have A3 := A2.step (LP.mono mR) (Stp.of_same e3)
        refine ⟨tb, .ref le, rfl, hx1 ▸ DGet.t (k := [Sum.inr fd.ty, Sum.inl (1 + (k : Int))]) (A3.same _ _ htb2) upd_same, le, rfl, ⟨_, SqL.of (A3.same _ _ (off_at hle))⟩, ?_⟩
        refine for_list (K := K) (xs := us) (fun g σ H' => Acc [] M H1 H' Lg (LP (500 * j + 1 + 150 * k + g) (RowR F n fs (i + 1))) ∧ ∃ (x8 x9 : Option V), σ = [some (.ref tb), some (.ref da), some (.int ((n + 1 : Nat) : Int)), some (.ref R), some (.ref xa), some (.ref Lg), some (.ref t), some (.int (1 + (k : Int))), x8, x9])
          ⟨A3, _, _, rfl⟩ (fun g σ H' _ h => SqL.of (h.1.same _ _ (off_at hle))) ?_ ?_
        · rintro g x σ H5 hx5 ⟨A4, x8, x9, rfl⟩
          obtain ⟨d, d1, d2, d3, d4⟩ := (hen x (List.mem_of_getElem? hx5)).wr hde
          have hg5 := (List.getElem?_eq_some_iff.mp hx5).1
          refine ⟨_, rfl, t, _, _, .ref l, rfl, rfl, SqT.of (A4.same _ _ (off_at ht)), at_of (j := 0) rfl rfl, l, kvs1, rfl, .inl (A4.same _ _ (off_at hl)), fun q1 m1 => ?_⟩
          have hkeys := keys_of hp
          have hnk : valV kvs1 (Sum.inr fd.nm) = none := by
            refine valV_none_of ?_
            rw [hkeys]
            intro hm
            obtain ⟨y, hy, ey⟩ := List.mem_map.mp hm
            obtain rfl := Sum.inr.inj ey
            obtain ⟨p, hp1, hp2⟩ := List.mem_map.mp hy
            have := wrF_names hw p hp1
            rw [hp2] at this
            exact hfresh this
          have hkl : kvs1.length ≤ 3 := by
            have h1 := hp.length
            have h2 := (wrF_nd (fs := fs.take i) (by rw [List.map_take]; exact fnd.sublist (List.take_sublist _ _)) hw).2
            have h3 : (fs.take i).length ≤ fs.length := by rw [List.length_take]; omega
            omega
          refine ⟨_, rfl, _, rfl, _, rfl, xa, _, _, .str fd.nm, rfl, rfl, SqT.of ((same_new m1 _) _ _ (A4.same _ _ (off_at hxa2))), at_of (j := 0) rfl w0, q1, _, rfl, DPut.k (k := Sum.inr fd.nm) upd_same (line_blt (by omega)), ?_⟩
          rw [upd_upd, putK_new _ hnk]
          have f1 := same_new m1 (.dK (kvs1 ++ [(Sum.inr fd.nm, x)]))
          obtain ⟨ys, hy, hyl, hys⟩ := A4.lst
          refine ⟨_, rfl, .inl ⟨rfl, _, SqL.of (f1 _ _ hy)⟩, ?_⟩
          refine ⟨_, rfl, _, rfl, t, _, _, .int (z : Int), rfl, rfl, SqT.of (f1 _ _ (A4.same _ _ (off_at ht))), at_of (j := 1) rfl rfl, _, rfl, _, _, rfl, rfl, by show 2 ≤ sizeLine; decide, fun q3 m3 => ?_⟩
          have f3 := same_new m3 (.tup [.ref q1, .int ((z : Int) + (1 + (k : Int)))])
          have f13 := f1.trans f3
          have A5 := A4.step (LP.mono mR) (Stp.of_same f13)
          have hy3 := f13 _ _ hy
          refine ⟨Lg, _, _, rfl, rfl, hy3, line_blt (by omega), ?_⟩
          refine ⟨A5.add mR hy3 ?_ (Nat.le_refl _), _, _, rfl⟩
          have so := A5.so
          refine ⟨q3, q1, z + (k + 1), kvs1 ++ [(Sum.inr fd.nm, x)], gs ++ [(fd.nm, d)], rfl, ?_, off_in A4.alp m1 (f3 _ _ upd_same), ?_, ?_, ?_, ?_, by omega⟩
          · have : ((z + (k + 1) : Nat) : Int) = (z : Int) + (1 + (k : Int)) := by omega
            rw [this]
            exact off_in A4.alp (f1.free m3) upd_same
          · exact paired_append (pairedF_same hp so) (.cons ⟨rfl, (d1.mono (by omega)).same so⟩ .nil)
          · rw [htake]
            exact wrF_snoc (d2.mono (by omega)) hw
          · exact gdF_append hg (by simp only [gdF]; exact ⟨fn1, d3, trivial⟩)
          · rw [sizeF_append]
            simp only [sizeF]
            omega
        · rintro σ H5 ⟨A4, x8, x9, rfl⟩
          exact ⟨A4.wide (by omega), _, _, _, rfl⟩
      · rintro σ H4 ⟨A2, x7, x8, x9, rfl⟩
        exact ⟨A2.wide (by omega), _, _, _, _, rfl⟩
    rintro σ H3 ⟨A1, x6, x7, x8, x9, rfl⟩
    obtain ⟨ys, hy, hyl, hys⟩ := A1.lst
    have sm3 := A1.same
    refine ⟨_, rfl, Lg, ys, rfl, .inl (SqL.of hy), _, _, rfl, rfl, _, rfl, ifS (fun c => ?_) (fun c => ?_)⟩
    · refine ⟨by show 1 ≤ sizeLine; decide, fun q1 m1 => ?_⟩
      have f1 := same_new m1 (.lst [V.int 0])
      refine ⟨q1, 400, [.int 0], rfl, rfl, upd_same, by decide, by decide, by decide, fun q2 m2 => ?_⟩
      have f2 := same_new m2 (.lst (List.replicate (400 : Int).toNat [V.int 0]).flatten)
      have e400 : (List.replicate (400 : Int).toNat [V.int 0]).flatten.length = 400 := by decide +kernel
      exact q q2 _ _ (((sm.trans sm3).trans f1).trans f2) (((sm.trans sm3).trans f1).free m2) upd_same (by rw [e400]; decide) (fun z => absurd z (by rw [e400]; decide))
    · refine ⟨_, rfl, sm.trans sm3, Lg, ys, _, _, _, _, _, _, hy, by omega, fun r hr => (hys r hr).same off_less, rfl⟩
  · rintro σ H1 ⟨sm, R, rs, x4, x5, x6, x7, x8, x9, hR, hRl, hrs, rfl⟩
    refine ⟨_, rfl, R, rfl, ⟨_, SqL.of hR⟩, fun L hL => ?_⟩
    have nRL : R ≠ L := ne_of_none hR hL
    have eall : fs.take us.length = fs := List.take_of_length_le (by have := hfs.length; omega)
    refine lc_list (K := K) (xs := rs) (fun j H' => ∃ ys, H' = upd H1 L (.lst ys) ∧ ys.length ≤ j ∧ ∀ v ∈ ys, Ent F n (off M H1) (.rcd fs) v)
      ⟨[], rfl, Nat.zero_le _, by simp⟩ (fun j H' _ ⟨ys, h, _⟩ => SqL.of (by rw [h, upd_ne nRL]; exact hR)) ?_ ?_
    · rintro j x H2 hx ⟨ys, rfl, hyl, hys⟩
      obtain ⟨t, l, z, kvs1, gs, rfl, ht, hl, hp, hw, hg, hz, hzn⟩ := hrs x (List.mem_of_getElem? hx)
      rw [eall] at hw
      have e1 := same_new hL (.lst ys)
      have hj := (List.getElem?_eq_some_iff.mp hx).1
      refine ⟨rfl, ?_⟩
      refine ⟨_, rfl, t, _, _, .int (z : Int), rfl, rfl, SqT.of (e1 _ _ (off_at ht)), at_of (j := 1) rfl rfl, _, rfl, _, _, rfl, rfl, rfl, _, rfl, ifS (fun c2 => ?_) (fun _ => ⟨ys, rfl, by omega, hys⟩)⟩
      have c2 : z = n := by
        have := V.int.inj c2
        omega
      refine ⟨_, rfl, t, _, _, .ref l, rfl, rfl, SqT.of (e1 _ _ (off_at ht)), at_of (j := 0) rfl rfl, ys, upd_same, line_lt (by omega), ys ++ [.ref l], by rw [upd_upd], by simp; omega, fun v hv => ?_⟩
      rcases List.mem_append.mp hv with hv | hv
      · exact hys v hv
      · rw [List.mem_singleton.mp hv]
        have nd := wrF_nd fnd hw
        exact ⟨.rcd gs, ⟨l, kvs1, rfl, hl, ⟨nd.1, by omega⟩, hp⟩, hw, by simp only [D.gd]; exact hg, by simp only [D.size]; omega⟩
    · rintro H2 ⟨ys, rfl, hyl, hys⟩
      have e1 := same_new hL (.lst ys)
      exact q L _ ys (sm.trans e1) (sm.free hL) upd_same (by omega) fun _ v hv => (hys v hv).same (offs_same e1)
end
end Ff
/-! The law, 7: the table. -/
namespace Ff
open PySem L2 C8
theorem mem_rgV {a b : Int} {x : V} (h : x ∈ rgV a b) : ∃ i : Int, x = .int i ∧ a ≤ i ∧ i < b := by
  unfold rgV at h
  obtain ⟨i, hi, rfl⟩ := List.mem_map.mp h
  have := List.mem_range.mp hi
  exact ⟨_, rfl, by omega, by omega⟩
section
variable {P : Program} {w : World} {K : PySem.W.Frag} {mg : Str → Option Value} {base : Heap} {C kA : Addr}
def spSized : Sp := fun vs H Q _ => ∃ (tb : Addr) (dv : V) (n : Nat) (F : Dfs) (M : List Addr) (kvs : List (List Key × V)) (df : Df), vs = [dv, .ref tb, .int ((n + 1 : Nat) : Int)] ∧ n ≤ 3 ∧ Al M H ∧ H tb = some (.dT kvs) ∧ Tab F n (off M H) kvs ∧
  RepDf (off M H) dv df ∧ TbD F 100 df ∧ SzQ M H F n df Q
theorem ok_sized (h : Has K mg "_law_sized" s_l_sized p_l_sized) (T : Txt K mg C kA) (c_l_any : Cal P w K mg base 1 "_law_any" spAny []) (c_l_lists : Cal P w K mg base 1 "_law_lists" spLists []) (c_l_records : Cal P w K mg base 2 "_law_records" spRecords []) :
    Cal P w K mg base 3 "_law_sized" spSized [] := by
  refine h.cal sc_l_sized (fun vs H Q E h => ?_) (fun f cdv A outer s H vs Q E hr h => ?_)
  · obtain ⟨tb, dv, n, F, M, kvs, df, rfl, _⟩ := h
    rfl
  obtain ⟨tb, dv, n, F, M, kvs, df, rfl, hn, al, htb, tab, ⟨da, rfl, hdf⟩, ht, q⟩ := h
  refine ⟨_, (pss_cons (ps_if (pt_cmpR op_eq (pe_ix ix_tup (pv 0) pe_int (fun _ _ => rfl)) pe_str (nomark _)) (pss_one (ps_ret (pe_c c_l_any hr (by omega) rfl (pa_cons (pv 2) pa_nil)))) pss_nil)
      (pss_cons (ps_if (pt_cmpR op_eq (pe_ix ix_tup (pv 0) pe_int (fun _ _ => rfl)) pe_str (nomark _)) (pss_one (ps_ret (pe_op op_rep (pe_listRg rfl rfl T.z_list (prg_2 rfl T.z_range (pe_ix ix_tup (pv 0) pe_int (fun _ _ => rfl)) (pe_op op_add (pe_ix ix_tup (pv 0) pe_int (fun _ _ => rfl)) pe_int))) (pe_callTy call_int1 rfl T.z_int (by decide +kernel) (pa_cons (pe_cmpR op_eq (pv 2) pe_int (nomark _)) pa_nil))))) pss_nil)
      (pss_cons (ps_if (pt_cmpR op_eq (pe_ix ix_tup (pv 0) pe_int (fun _ _ => rfl)) pe_str (nomark _)) (pss_cons (ps_if (pt_cmpR op_gt (pv 2) (pe_op op_add (pe_ix ix_tup (pv 0) pe_int (fun _ _ => rfl)) pe_int) (nomark _)) (pss_one (ps_ret (pe_lst pa_nil))) pss_nil)
        (pss_one (ps_ret (pe_slice sl_list (pe_lst (pa_cons (pe_ix ix_list (pe_lst (pa_cons pe_str (pa_cons pe_str (pa_cons pe_str pa_nil)))) (pe_op op_sub (pv 2) pe_int) (fun _ _ => rfl)) (pa_cons (pe_op op_repS pe_str (pe_op op_sub (pv 2) pe_int)) pa_nil))) po_none (po_some (pv 2)))))) pss_nil)
      (pss_cons (ps_if (pt_cmpR op_eq (pe_ix ix_tup (pv 0) pe_int (fun _ _ => rfl)) pe_str (nomark _)) (pss_one (ps_ret (pe_c c_l_lists hr (by omega) rfl (pa_cons (pv 1) (pa_cons (pv 0) (pa_cons (pv 2) pa_nil)))))) pss_nil)
      (pss_cons (ps_if (pt_cmpR op_eq (pe_ix ix_tup (pv 0) pe_int (fun _ _ => rfl)) pe_str (nomark _)) (pss_one (ps_ret (pe_c c_l_records hr (by omega) rfl (pa_cons (pv 1) (pa_cons (pv 0) (pa_cons (pv 2) pa_nil)))))) pss_nil)
      (pss_cons (ps_set (i := 3) sc_l_sized.nd rfl (Or.inl rfl) (pe_lst pa_nil))
      (pss_cons (ps_for PassesOwn.never rfl (pi_tup (pe_ix ix_tup (pv 0) pe_int (fun _ _ => rfl))) (pg_name (i := 4) sc_l_sized.nd rfl (Or.inr rfl))
        (pss_one (ps_if (pt_cmpR op_gt (pv 2) pe_int (nomark _)) (pss_one (ps_set (i := 3) sc_l_sized.nd rfl (Or.inl rfl) (pe_op op_cat (pv 3) (pe_lc (own := [("_law_part", 5)]) (g := gName 5) (tt := tYes) rfl sc_l_sized.nd (pi_list (pe_dget (hu_of hr) (pv 1) (pe_tup (pa_cons (pe_ix ix_tup (pv 4) pe_int (fun _ _ => rfl)) (pa_cons (pe_op op_sub (pv 2) pe_int) pa_nil))) (fun _ _ => rfl))) (blkOk_by (own := [("_law_part", 5)]) (N := n_l_sized) (sc := fnScope s_l_sized) (by decide +kernel)) (fun _ _ _ _ _ => pg_name (i := 5) sc_l_sized.nd rfl (Or.inl rfl)) (fun _ _ _ _ _ => pts_nil) (fun _ _ _ _ _ => (pe_tup (pa_cons (pe_ix (ix_tupK (K := K) rfl) (pv 4) pe_int (fun _ _ => rfl)) (pa_cons (pv 5) pa_nil)))))))) pss_nil)))
      (pss_one (ps_ret (pv 3)))))))))), ?_⟩
  cases df with
  | any =>
    refine ⟨_, rfl, da, _, _, .str "any", rfl, rfl, SqT.of (off_at hdf), at_of (j := 0) rfl rfl, rfl, _, rfl, ifT rfl ?_⟩
    refine ⟨_, rfl, n, M, rfl, hn, al, fun p H' ⟨sm, np, xs, hp, hl, hx⟩ => ?_⟩
    exact q p H' xs sm np hp (by omega) fun _ v hv => (hx trivial v hv).ent
  | int lo hi =>
    obtain ⟨b1, b2⟩ := ht
    refine ⟨_, rfl, da, _, _, .str "integer", rfl, rfl, SqT.of (off_at hdf), at_of (j := 0) rfl rfl, rfl, _, rfl, ifF (ne_str (by decide +kernel)) ?_⟩
    refine ⟨_, rfl, da, _, _, .str "integer", rfl, rfl, SqT.of (off_at hdf), at_of (j := 0) rfl rfl, rfl, _, rfl, ifT rfl ?_⟩
    refine ⟨_, rfl, da, _, _, .int lo, rfl, rfl, SqT.of (off_at hdf), at_of (j := 1) rfl rfl, _, rfl, da, _, _, .int hi, rfl, rfl, SqT.of (off_at hdf), at_of (j := 2) rfl rfl, hi, 1, rfl, rfl, lo, hi + 1, rfl, rfl, ⟨by omega, by omega, by omega, by omega, by omega⟩, fun p np => ?_⟩
    have e1 := same_new np (.lst (rgV lo (hi + 1)))
    refine ⟨_, rfl, rfl, .inr ⟨_, rfl, ?_⟩⟩
    have hlen : (rgV lo (hi + 1)).length ≤ 202 := by rw [rgV_length]; omega
    by_cases c : n = 0
    · subst c
      refine ⟨p, 1, _, rfl, rfl, upd_same, by decide, by decide, line_small (by show _ * 1 ≤ _; omega), fun p2 np2 => ?_⟩
      have e2 := same_new np2 (.lst (List.replicate (1 : Int).toNat (rgV lo (hi + 1))).flatten)
      have er : (List.replicate (1 : Int).toNat (rgV lo (hi + 1))).flatten = rgV lo (hi + 1) := by
        show (List.replicate 1 _).flatten = _
        simp
      refine q p2 _ _ (e1.trans e2) (e1.free np2) upd_same (by rw [er]; omega) fun _ v hv => ?_
      rw [er] at hv
      obtain ⟨i, rfl, i1, i2⟩ := mem_rgV hv
      exact ⟨.int i, rep_int, ⟨i1, by omega⟩, by simp only [D.gd]; omega, by simp only [D.size]⟩
    · refine ⟨p, 0, _, rfl, ?_, upd_same, by decide, by decide, line_small (by show _ * 0 ≤ _; omega), fun p2 np2 => ?_⟩
      · have : decide (V.int ((n + 1 : Nat) : Int) = V.int 1) = false := decide_eq_false fun z => c (by have := V.int.inj z; omega)
        rw [this]
        rfl
      have e2 := same_new np2 (.lst (List.replicate (0 : Int).toNat (rgV lo (hi + 1))).flatten)
      exact q p2 _ _ (e1.trans e2) (e1.free np2) upd_same (by show 0 ≤ _; decide) fun _ v hv => absurd (show v ∈ ([] : List V) from hv) (by simp)
  | txt m =>
    obtain ⟨b1, b2⟩ := ht
    refine ⟨_, rfl, da, _, _, .str "text", rfl, rfl, SqT.of (off_at hdf), at_of (j := 0) rfl rfl, rfl, _, rfl, ifF (ne_str (by decide +kernel)) ?_⟩
    refine ⟨_, rfl, da, _, _, .str "text", rfl, rfl, SqT.of (off_at hdf), at_of (j := 0) rfl rfl, rfl, _, rfl, ifF (ne_str (by decide +kernel)) ?_⟩
    refine ⟨_, rfl, da, _, _, .str "text", rfl, rfl, SqT.of (off_at hdf), at_of (j := 0) rfl rfl, rfl, _, rfl, ifT rfl ?_⟩
    refine ⟨_, rfl, _, rfl, da, _, _, .int m, rfl, rfl, SqT.of (off_at hdf), at_of (j := 1) rfl rfl, m, 1, rfl, rfl, _, _, rfl, rfl, _, rfl, ifS (fun _ => ?_) (fun c => ?_)⟩
    · refine ⟨by show 0 ≤ sizeLine; decide, fun p np => ?_⟩
      exact q p _ _ (same_new np _) np upd_same (by show 0 ≤ _; decide) fun _ v hv => absurd hv (by simp)
    · obtain ⟨hm2⟩ : n ≤ 2 ∧ True := ⟨by omega, trivial⟩
      have hnm : (n : Int) ≤ m := by omega
      have em : (((n + 1 : Nat) : Int) - 1) = (n : Int) := by omega
      have hn4 : n ∈ [0, 1, 2, 3] := by
        have : n = 0 ∨ n = 1 ∨ n = 2 ∨ n = 3 := by omega
        simpa using this
      obtain ⟨y, hy, hyc, hyl⟩ : ∃ y : Str, ([.str "", .str "a", .str "aa"] : List V)[n]? = some (.str y) ∧ chk y ∧ y.length = n := by
        have : n = 0 ∨ n = 1 ∨ n = 2 := by omega
        rcases this with rfl | rfl | rfl
        · exact ⟨"", rfl, sgn_chk _ (by simp), rfl⟩
        · exact ⟨"a", rfl, sgn_chk _ (by simp), rfl⟩
        · exact ⟨"aa", rfl, sgn_chk _ (by simp), rfl⟩
      refine ⟨by show 3 ≤ sizeLine; decide, fun p1 n1 => ?_⟩
      have e1 := same_new n1 (.lst [.str "", .str "a", .str "aa"])
      refine ⟨_, rfl, _, _, rfl, rfl, p1, _, _, .str y, rfl, rfl, SqL.of upd_same, at_of (j := n) em hy, _, rfl, _, _, rfl, rfl, "b", _, rfl, rfl, by omega, by omega, by decide, by show 2 ≤ sizeLine; decide, fun p2 n2 => ?_⟩
      have e2 := same_new n2 (.lst [.str y, .str (strRep "b" (((n + 1 : Nat) : Int) - 1).toNat)])
      refine ⟨_, rfl, _, rfl, p2, _, rfl, SqL.of upd_same, fun p3 n3 => ?_⟩
      have e3 := same_new n3 (.lst (cutV [.str y, .str (strRep "b" (((n + 1 : Nat) : Int) - 1).toNat)] none (some ((n + 1 : Nat) : Int))))
      have hcl := cutV_length [.str y, .str (strRep "b" (((n + 1 : Nat) : Int) - 1).toNat)] none (some ((n + 1 : Nat) : Int))
      refine q p3 _ _ ((e1.trans e2).trans e3) ((e1.trans e2).free n3) upd_same (Nat.le_trans hcl (by show 2 ≤ _; decide)) fun _ v hv => ?_
      have hv2 : v ∈ [V.str y, V.str (strRep "b" (((n + 1 : Nat) : Int) - 1).toNat)] := by
        unfold cutV at hv
        exact List.mem_of_mem_drop (List.mem_of_mem_take hv)
      simp only [List.mem_cons, List.not_mem_nil, or_false] at hv2
      rcases hv2 with rfl | rfl
      · exact ⟨.str y, rep_str, by show (y.length : Int) ≤ m; omega, by simp only [D.gd]; exact hyc, by simp only [D.size]; omega⟩
      · have e0 : (((n + 1 : Nat) : Int) - 1).toNat = n := by omega
        rw [e0]
        have hb := (rep_ab n hn4).2
        exact ⟨.str (strRep "b" n), rep_str, by show ((strRep "b" n).length : Int) ≤ m; omega, by simp only [D.gd]; exact hb.1, by simp only [D.size]; omega⟩
  | lst e lo hi =>
    refine ⟨_, rfl, da, _, _, .str "list", rfl, rfl, SqT.of (off_at hdf), at_of (j := 0) rfl rfl, rfl, _, rfl, ifF (ne_str (by decide +kernel)) ?_⟩
    refine ⟨_, rfl, da, _, _, .str "list", rfl, rfl, SqT.of (off_at hdf), at_of (j := 0) rfl rfl, rfl, _, rfl, ifF (ne_str (by decide +kernel)) ?_⟩
    refine ⟨_, rfl, da, _, _, .str "list", rfl, rfl, SqT.of (off_at hdf), at_of (j := 0) rfl rfl, rfl, _, rfl, ifF (ne_str (by decide +kernel)) ?_⟩
    refine ⟨_, rfl, da, _, _, .str "list", rfl, rfl, SqT.of (off_at hdf), at_of (j := 0) rfl rfl, rfl, _, rfl, ifT rfl ?_⟩
    exact ⟨_, rfl, _, rfl, _, rfl, tb, da, n, F, M, kvs, e, lo, hi, rfl, hn, al, htb, tab, hdf, ht, q⟩
  | rcd fs =>
    obtain ⟨fa, us, hda, hfa, hfs⟩ := hdf
    refine ⟨_, rfl, da, _, _, .str "record", rfl, rfl, SqT.of (off_at hda), at_of (j := 0) rfl rfl, rfl, _, rfl, ifF (ne_str (by decide +kernel)) ?_⟩
    refine ⟨_, rfl, da, _, _, .str "record", rfl, rfl, SqT.of (off_at hda), at_of (j := 0) rfl rfl, rfl, _, rfl, ifF (ne_str (by decide +kernel)) ?_⟩
    refine ⟨_, rfl, da, _, _, .str "record", rfl, rfl, SqT.of (off_at hda), at_of (j := 0) rfl rfl, rfl, _, rfl, ifF (ne_str (by decide +kernel)) ?_⟩
    refine ⟨_, rfl, da, _, _, .str "record", rfl, rfl, SqT.of (off_at hda), at_of (j := 0) rfl rfl, rfl, _, rfl, ifF (ne_str (by decide +kernel)) ?_⟩
    refine ⟨_, rfl, da, _, _, .str "record", rfl, rfl, SqT.of (off_at hda), at_of (j := 0) rfl rfl, rfl, _, rfl, ifT rfl ?_⟩
    exact ⟨_, rfl, _, rfl, _, rfl, tb, da, fa, n, F, M, kvs, us, fs, rfl, hn, al, htb, tab, hda, hfa, hfs, ht, q⟩
  | cho cs fb =>
    obtain ⟨ca, us, y, hda, hca, hcs, _⟩ := hdf
    obtain ⟨cl4, cnd, cty⟩ := ht
    refine ⟨_, rfl, da, _, _, .str "choice", rfl, rfl, SqT.of (off_at hda), at_of (j := 0) rfl rfl, rfl, _, rfl, ifF (ne_str (by decide +kernel)) ?_⟩
    refine ⟨_, rfl, da, _, _, .str "choice", rfl, rfl, SqT.of (off_at hda), at_of (j := 0) rfl rfl, rfl, _, rfl, ifF (ne_str (by decide +kernel)) ?_⟩
    refine ⟨_, rfl, da, _, _, .str "choice", rfl, rfl, SqT.of (off_at hda), at_of (j := 0) rfl rfl, rfl, _, rfl, ifF (ne_str (by decide +kernel)) ?_⟩
    refine ⟨_, rfl, da, _, _, .str "choice", rfl, rfl, SqT.of (off_at hda), at_of (j := 0) rfl rfl, rfl, _, rfl, ifF (ne_str (by decide +kernel)) ?_⟩
    refine ⟨_, rfl, da, _, _, .str "choice", rfl, rfl, SqT.of (off_at hda), at_of (j := 0) rfl rfl, rfl, _, rfl, ifF (ne_str (by decide +kernel)) ?_⟩
    refine ⟨by show 0 ≤ sizeLine; decide, fun p0 n0 => ?_⟩
    have s0 := same_new n0 (.lst ([] : List V))
    refine ⟨_, rfl, da, _, _, .ref ca, rfl, rfl, SqT.of (s0 _ _ (off_at hda)), at_of (j := 1) rfl rfl, ca, rfl, ⟨_, SqT.of (s0 _ _ (off_at hca))⟩, ?_⟩
    refine for_tup (K := K) (xs := us) (fun i σ H' => Same H H' ∧ ∃ (p : Addr) (xs : List V) (x4 x5 : Option V), H p = none ∧ H' p = some (.lst xs) ∧ xs.length ≤ 150 * i ∧ (∀ v ∈ xs, Ent F n (off M H') (.cho cs fb) v) ∧
        σ = [some (.ref da), some (.ref tb), some (.int ((n + 1 : Nat) : Int)), some (.ref p), x4, x5])
      ⟨s0, p0, [], none, none, n0, upd_same, Nat.zero_le _, by simp, rfl⟩ (fun i σ H' _ h => SqT.of (h.1 _ _ (off_at hca))) ?_ ?_
    · rintro i x σ H1 hx ⟨sm, p, xs, x4, x5, np, hp, hl, hxs, rfl⟩
      obtain ⟨c, hc, a, rfl, ha⟩ := paired_get hcs hx
      obtain ⟨cn, cis⟩ := cty c (List.mem_of_getElem? hc)
      obtain ⟨de, hde⟩ := Option.isSome_iff_exists.mp cis
      refine ⟨_, rfl, _, _, rfl, rfl, _, rfl, ifS (fun c1 => ?_) (fun _ => ⟨sm, p, xs, _, _, np, hp, by omega, hxs, rfl⟩)⟩
      obtain ⟨k, rfl⟩ : ∃ k, n = k + 1 := ⟨n - 1, by omega⟩
      obtain ⟨x, hx1, le, us2, rfl, hle, hus, hen⟩ := tab _ de hde k (by omega)
      have ek : (((k + 1 + 1 : Nat) : Int) - 1) = ((k + 1 : Nat) : Int) := by omega
      refine ⟨_, rfl, _, rfl, _, rfl, a, _, _, .str c.2, rfl, rfl, SqT.of (sm _ _ (off_at ha)), at_of (j := 1) rfl rfl, _, rfl, _, _, rfl, rfl, by show 2 ≤ sizeLine; decide, fun tk ntk => ?_⟩
      have e3 := same_new ntk (.tup [.str c.2, .int (((k + 1 + 1 : Nat) : Int) - 1)])
      have e03 := sm.trans e3
      refine ⟨tb, .ref le, rfl, hx1 ▸ DGet.t (k := [Sum.inr c.2, Sum.inl ((k + 1 : Nat) : Int)]) (e03 _ _ htb) (by rw [← ek]; exact upd_same), le, rfl, ⟨_, SqL.of (e03 _ _ (off_at hle))⟩, fun L hL => ?_⟩
      have aM := al.same e03
      have mE : MonoV fun G v => Ent F (k + 1) G (.cho cs fb) v := ent_same
      have A0 : Acc [] M _ _ L (LP 0 fun G v => Ent F (k + 1) G (.cho cs fb) v) := Acc.nil hL aM (by simp)
      refine lc_list (K := K) (xs := us2) (fun j H' => Acc [] M _ H' L (LP j fun G v => Ent F (k + 1) G (.cho cs fb) v)) A0 (fun j H' _ h => SqL.of (h.same _ _ (e03 _ _ (off_at hle)))) ?_ ?_
      · rintro j x H2 hx2 A1
        obtain ⟨d, d1, d2, d3, d4⟩ := (hen x (List.mem_of_getElem? hx2)).wr hde
        obtain ⟨ys, hy, hyl, hys⟩ := A1.lst
        have hj := (List.getElem?_eq_some_iff.mp hx2).1
        refine ⟨rfl, _, rfl, a, _, _, .str c.1, rfl, rfl, SqT.of (A1.same _ _ (e03 _ _ (off_at ha))), at_of (j := 0) rfl rfl, _, rfl, by show 2 ≤ sizeLine; decide, fun t nt => ?_⟩
        have e4 := same_new nt (.tup [.str c.1, x])
        have A2 := A1.step (LP.mono mE) (Stp.of_same e4)
        refine ⟨ys, e4 _ _ hy, line_blt (by omega), A2.add mE (e4 _ _ hy) ?_ (Nat.le_refl _)⟩
        have so : Same (off M H) _ := (offs_same e03).trans A2.so
        refine ⟨.cho c.1 d, ⟨t, x, rfl, off_in A1.alp nt upd_same, d1.same so⟩, ⟨c.2, ?_, d2⟩, by simp only [D.gd]; exact ⟨cn, d3⟩, by simp only [D.size]; omega⟩
        exact look_at cnd (List.mem_of_getElem? hc)
      · rintro H2 A1
        obtain ⟨ys, hy, hyl, hys⟩ := A1.lst
        have sm2 := e03.trans A1.same
        have hpH2 := A1.same _ _ (e3 _ _ hp)
        have hi := (List.getElem?_eq_some_iff.mp hx).1
        have := hcs.length
        refine ⟨p, L, _, _, rfl, rfl, hpH2, hy, line_big (by omega), fun p3 n3 => ?_⟩
        have e5 := same_new n3 (.lst (xs ++ ys))
        refine ⟨sm2.trans e5, p3, _, _, _, sm2.free n3, upd_same, by rw [List.length_append]; omega, fun v hv => ?_, rfl⟩
        rcases List.mem_append.mp hv with hv | hv
        · exact (hxs v hv).same (offs_same ((e3.trans A1.same).trans e5))
        · exact ((hys v hv).same off_less).same (offs_same e5)
    · rintro σ H1 ⟨sm, p, xs, x4, x5, np, hp, hl, hxs, rfl⟩
      have := hcs.length
      exact ⟨_, rfl, q p H1 xs sm np hp (by omega) fun _ => hxs⟩
end
end Ff
/-! The law, 8: the whole table. -/
namespace Ff
open PySem L2 C8
theorem mem_put2 {κ : Type} [DecidableEq κ] {kvs : List (κ × V)} {k : κ} {v : V} {p : κ × V} (h : p ∈ putK kvs k v) : p = (k, v) ∨ p ∈ kvs := by
  unfold putK at h
  split at h
  · obtain ⟨q, hq, e⟩ := List.mem_map.mp h
    by_cases c : q.1 = k
    · rw [if_pos c] at e
      exact .inl (by rw [← e, c])
    · rw [if_neg c] at e
      exact .inr (by rw [← e]; exact hq)
  · rcases List.mem_append.mp h with h | h
    · exact .inr h
    · exact .inl (List.mem_singleton.mp h)
theorem putK_le {κ : Type} [DecidableEq κ] (kvs : List (κ × V)) (k : κ) (v : V) : (putK kvs k v).length ≤ kvs.length + 1 := by
  unfold putK
  split
  · rw [List.length_map]; omega
  · rw [List.length_append]; exact Nat.le_refl _
theorem tkey_ne {nm nm' : Str} {m i : Nat} (h : m < i) : tkey nm' m ≠ tkey nm i := by
  intro e
  injection e with _ e
  injection e with e _
  have := Sum.inl.inj e
  omega
theorem Tab.put {F : Dfs} {i : Nat} {G : Hp} {kvs : List (List Key × V)} {nm : Str} {x : V} (h : Tab F i G kvs) : Tab F i G (putK kvs (tkey nm i) x) := fun nm' df hl m hm => by
  obtain ⟨y, h1, h2⟩ := h nm' df hl m hm
  exact ⟨y, by rw [valV_put, if_neg (tkey_ne hm)]; exact h1, h2⟩
theorem TabE.put {F : Dfs} {i : Nat} {G : Hp} {kvs : List (List Key × V)} {nm : Str} {df : Df} {x : V} (h : TabE F (i + 1) G kvs) (hl : look F nm = some df) (hx : EntL F i G df x) : TabE F (i + 1) G (putK kvs (tkey nm i) x) := fun nm' z y hy => by
  rw [valV_put] at hy
  by_cases c : ([Sum.inr nm', Sum.inl z] : List Key) = tkey nm i
  · rw [if_pos c] at hy
    injection c with c1 c2
    injection c2 with c2 _
    obtain rfl := Sum.inr.inj c1
    obtain rfl := Sum.inl.inj c2
    obtain rfl := Option.some.inj hy
    exact ⟨df, i, hl, rfl, by omega, hx⟩
  · rw [if_neg c] at hy
    exact h nm' z y hy
structure TbF (F : Dfs) : Prop where
  len : F.length ≤ 4
  df : ∀ nm df, look F nm = some df → TbD F 100 df
def PT (F : Dfs) (i : Nat) (G : Hp) (o : HO) : Prop := ∃ kvs, o = .dT kvs ∧ Tab F i G kvs ∧ TabE F i G kvs ∧ kvs.length ≤ 64 * i
theorem PT.mono {F : Dfs} {i : Nat} : Mono (PT F i) := by
  rintro G G' o ⟨kvs, h1, h2, h3, h4⟩ s
  exact ⟨kvs, h1, h2.same s, h3.same s, h4⟩
def PF (F : Dfs) (n : Nat) (ys : List Str) (G : Hp) (o : HO) : Prop := ∃ kvs : List (Key × V), o = .dK kvs ∧ kvs.length ≤ ys.length ∧ (∀ kv ∈ kvs, ∃ nm, kv.1 = Sum.inr nm ∧ nm ∈ ys) ∧ ∀ nm ∈ ys, ∃ x df, look F nm = some df ∧ valV kvs (Sum.inr nm) = some x ∧ EntL F n G df x
theorem PF.mono {F : Dfs} {n : Nat} {ys : List Str} : Mono (PF F n ys) := by
  rintro G G' o ⟨kvs, h1, h2, h3, h4⟩ s
  refine ⟨kvs, h1, h2, h3, fun nm hn => ?_⟩
  obtain ⟨x, df, h5, h6, h7⟩ := h4 nm hn
  exact ⟨x, df, h5, h6, h7.same s⟩
section
variable {P : Program} {w : World} {K : PySem.W.Frag} {mg : Str → Option Value} {base : Heap} {C kA : Addr}
def spTable : Sp := fun vs H Q _ => ∃ (dd : Addr) (most : Nat) (F : Dfs) (M : List Addr), vs = [.ref dd, .int (most : Int)] ∧ most ≤ 4 ∧ Al M H ∧ RepDs (off M H) dd F ∧ TbF F ∧
  ∀ tb H' kvs, Same H H' → H tb = none → H' tb = some (.dT kvs) → TabE F most (off M H') kvs → Q (.ref tb) H'
theorem ok_table (h : Has K mg "_law_table" s_l_table p_l_table) (T : Txt K mg C kA) (c_l_sized : Cal P w K mg base 3 "_law_sized" spSized []) : Cal P w K mg base 4 "_law_table" spTable [] := by
  refine h.cal sc_l_table (fun vs H Q E h => ?_) (fun f cdv A outer s H vs Q E hr h => ?_)
  · obtain ⟨dd, most, F, M, rfl, _⟩ := h
    rfl
  obtain ⟨dd, most, F, M, rfl, hm, al, ⟨kd, hkd, hpd⟩, tf, q⟩ := h
  refine ⟨_, (pss_cons (ps_set (i := 2) sc_l_table.nd rfl (Or.inl rfl) pe_dnewT)
      (pss_cons (ps_for PassesOwn.never rfl (pi_range2 rfl T.z_range (pa_cons pe_int (pa_cons (pe_op op_add (pv 1) pe_int) pa_nil))) (pg_name (i := 3) sc_l_table.nd rfl (Or.inl rfl))
        (pss_cons (ps_set (i := 4) sc_l_table.nd rfl (Or.inl rfl) pe_dnewK)
        (pss_cons (ps_for PassesOwn.never rfl (pi_list (pe_callB (call_sD rfl) rfl T.z_sorted (by decide +kernel) (pa_cons (pv 0) pa_nil))) (pg_name (i := 5) sc_l_table.nd rfl (Or.inl rfl))
          (pss_cons (ps_dput (hu_of hr) (pv 4) (pv 5) (pe_c c_l_sized hr (by omega) rfl (pa_cons (pe_dget (hu_of hr) (pv 0) (pv 5) (fun _ _ => rfl)) (pa_cons (pv 2) (pa_cons (pv 3) pa_nil)))) rfl)
          (pss_one (ps_if (pt_cmpR op_gt (pe_callB call_len_seq rfl T.z_len (by decide +kernel) (pa_cons (pe_dget (hu_of hr) (pv 4) (pv 5) (fun _ _ => rfl)) pa_nil)) pe_int (nomark _)) (pss_one (ps_ret (pv 2))) pss_nil))))
        (pss_one (ps_lock (ps_for PassesOwn.never rfl (pi_keys (pv 4)) (pg_name (i := 5) sc_l_table.nd rfl (Or.inl rfl))
          (pss_one (ps_dput (hu_of hr) (pv 2) (pe_tup (pa_cons (pv 5) (pa_cons (pv 3) pa_nil))) (pe_dget (hu_of hr) (pv 4) (pv 5) (fun _ _ => rfl)) rfl))))))))
      (pss_one (ps_ret (pv 2))))), ?_⟩
  have hkeys := keys_ofE hpd
  intro tb ntb
  have A0 : Acc [] M H (upd H tb (.dT [])) tb (PT F 0) := Acc.new ntb al (by simp) fun G => ⟨[], rfl, fun _ _ _ m hm => absurd hm (by omega), fun _ _ _ h => (by cases h), Nat.zero_le _⟩
  refine ⟨_, rfl, _, _, rfl, rfl, 1, _, rfl, ⟨by decide, by decide, by omega, by omega⟩, ?_⟩
  refine for_range (lo := 1) (fun i σ H' => Acc [] M H H' tb (PT F i) ∧ ∃ (x3 x4 x5 : Option V), σ = [some (.ref dd), some (.int (most : Int)), some (.ref tb), x3, x4, x5])
    ⟨A0, _, _, _, rfl⟩ ?_ ?_
  · rintro i σ H1 hi ⟨A1, x3, x4, x5, rfl⟩
    intro fr nfr
    have al1 := A1.alp
    have B0 : Acc [] (tb :: M) H1 (upd H1 fr (.dK [])) fr (PF F i []) := Acc.new nfr al1 (by simp) fun G => ⟨[], rfl, Nat.le_refl _, by simp, by simp⟩
    have hdd1 := A1.same _ _ (off_at hkd)
    obtain ⟨_, htb1, kvs, rfl, tab1, tabe1, hkl⟩ := id A1.ex
    refine ⟨_, rfl, dd, kd, F.map (·.1), rfl, .inl (B0.same _ _ hdd1), hkeys, by rw [List.length_map]; have := tf.len; omega, fun ys p hperm _ np => ?_⟩
    have hys4 : ys.length ≤ 4 := by rw [hperm.length_eq, List.length_map]; exact tf.len
    have B1 := B0.step PF.mono (Stp.of_same (same_new np (.lst (ys.map V.str))))
    have hpl : off (fr :: tb :: M) (upd (upd H1 fr (.dK [])) p (.lst (ys.map V.str))) p = some (.lst (ys.map V.str)) := off_in B0.alp np upd_same
    refine ⟨p, rfl, ⟨_, SqL.of upd_same⟩, ?_⟩
    refine for_list (K := K) (xs := ys.map V.str) (fun j σ H' => Acc [] (tb :: M) H1 H' fr (PF F i (ys.take j)) ∧ off (fr :: tb :: M) H' p = some (.lst (ys.map V.str)) ∧ ∃ (x5 : Option V), σ = [some (.ref dd), some (.int (most : Int)), some (.ref tb), some (.int (1 + (i : Int))), some (.ref fr), x5])
      ⟨B1, hpl, _, rfl⟩ (fun j σ H' _ h => SqL.of (off_at h.2.1)) ?_ ?_
    · rintro j x σ H2 hx ⟨B2, hp2, x5, rfl⟩
      rw [List.getElem?_map] at hx
      obtain ⟨nm, hnm, rfl⟩ := Option.map_eq_some_iff.mp hx
      have hj := (List.getElem?_eq_some_iff.mp hnm).1
      have hmem : nm ∈ F.map (·.1) := hperm.mem_iff.mp (List.mem_of_getElem? hnm)
      obtain ⟨df, hdf⟩ := look_some.mpr hmem
      have et : ys.take (j + 1) = ys.take j ++ [nm] := by rw [List.take_add_one, hnm]; rfl
      rcases look_def nm hpd with ⟨e1, _⟩ | ⟨v, df', e1, e2, e3⟩
      · rw [e1] at hdf; cases hdf
      rw [e1] at hdf; cases hdf
      have so2 := A1.so.trans B2.so
      refine ⟨_, rfl, _, rfl, dd, v, rfl, e2 ▸ DGet.k (k := Sum.inr nm) (B2.same _ _ hdd1), _, rfl, _, rfl, ?_⟩
      refine ⟨tb, v, i, F, fr :: tb :: M, kvs, df, congrArg (fun z : Int => [v, V.ref tb, V.int z]) (show 1 + (i : Int) = ((i + 1 : Nat) : Int) by omega), by omega, B2.alp, B2.same _ _ htb1, tab1.same B2.so, e3.same so2, tf.df nm df e1, fun p2 H3 xs sm3 np2 hp2' hxl hent => ?_⟩
      have B3 := B2.step PF.mono (Stp.of_same sm3)
      obtain ⟨_, hfr3, kf, rfl, kf1, kf2, kf3⟩ := id B3.ex
      have hlk : kf.length ≤ 4 := by rw [List.length_take] at kf1; omega
      refine ⟨_, rfl, _, rfl, fr, _, rfl, DPut.k (k := Sum.inr nm) hfr3 (line_lt (by omega)), ?_⟩
      have npf : p2 ≠ fr := fun e => by
        obtain ⟨o, h, _⟩ := B2.ex
        rw [e, h] at np2
        cases np2
      have hp2f : upd H3 fr (.dK (putK kf (Sum.inr nm) (.ref p2))) p2 = some (.lst xs) := by rw [upd_ne npf]; exact hp2'
      have hvv : valV (putK kf (Sum.inr nm) (.ref p2)) (Sum.inr nm) = some (.ref p2) := by rw [valV_put, if_pos rfl]
      refine ⟨_, rfl, _, rfl, fr, .ref p2, rfl, hvv ▸ DGet.k (k := Sum.inr nm) upd_same, p2, xs, rfl, .inl (SqL.of hp2f), _, _, rfl, rfl, _, rfl, ifS (fun c => ?_) (fun c => ?_)⟩
      · refine ⟨_, rfl, ?_⟩
        have B4 : Acc [] (tb :: M) H1 (upd H3 fr (.dK (putK kf (Sum.inr nm) (.ref p2)))) fr fun _ _ => True := B3.set trivial fun _ _ _ _ _ => trivial
        refine q tb _ kvs (A1.same.trans B4.same) ntb (B4.same _ _ htb1) ?_
        refine (((tabe1.same B4.so).same off_less).same off_less).mono (by omega)
      · have hent := hent (by omega)
        have EL : EntL F i (off (fr :: tb :: M) H3) df (.ref p2) := ⟨p2, xs, rfl, off_in B2.alp np2 hp2', by omega, hent⟩
        refine ⟨B3.set ⟨_, rfl, ?_, ?_, ?_⟩ PF.mono, ?_, _, rfl⟩
        · rw [et, List.length_append]
          exact Nat.le_trans (putK_le kf (Sum.inr nm) (.ref p2)) (Nat.add_le_add_right kf1 1)
        · intro kv hkv
          rw [et]
          rcases mem_put2 hkv with rfl | hkv
          · exact ⟨nm, rfl, by simp⟩
          · obtain ⟨a, h1, h2⟩ := kf2 kv hkv
            exact ⟨a, h1, List.mem_append_left _ h2⟩
        · intro nm' hn'
          by_cases c2 : nm' = nm
          · subst c2
            exact ⟨.ref p2, df, e1, hvv, EL⟩
          · rw [et] at hn'
            have hn'' : nm' ∈ ys.take j := by
              rcases List.mem_append.mp hn' with h | h
              · exact h
              · exact absurd (List.mem_singleton.mp h) c2
            obtain ⟨x, df', h1, h2, h3⟩ := kf3 nm' hn''
            exact ⟨x, df', h1, by rw [valV_put, if_neg (fun z => c2 (Sum.inr.inj z))]; exact h2, h3⟩
        · exact off_put _ _ ((offs_same sm3) _ _ hp2)
    rintro σ H2 ⟨B2, _, x5, rfl⟩
    rw [List.length_map, List.take_length] at B2
    obtain ⟨_, hfr2, kf, rfl, kf1, kf2, kf3⟩ := id B2.ex
    refine ⟨fr, .dK kf, hfr2, trivial, fun od => ?_⟩
    have nft : fr ≠ tb := fun e => B2.nm (by rw [e]; simp)
    have htb2 := B2.same _ _ htb1
    have tab2 := tab1.same B2.so
    have tabe2 := (tabe1.same B2.so).mono (Nat.le_succ i)
    refine ⟨_, rfl, fr, od, rfl, .inl ⟨kf, upd_same, ?_⟩⟩
    refine for_it (walk_keys (d := fr) (o := od) (kvs := kf)) (fun j σ H' => Stp [fr, tb] H2 H' ∧ H' fr = some (.frz od (.dK kf)) ∧ (∃ kt, H' tb = some (.dT kt) ∧ Tab F i (off (fr :: tb :: M) H2) kt ∧ TabE F (i + 1) (off (fr :: tb :: M) H2) kt ∧ kt.length ≤ 64 * i + j ∧
        ∀ kv ∈ kf.take j, ∀ nm, kv.1 = Sum.inr nm → ∃ df x, look F nm = some df ∧ valV kt (tkey nm i) = some x ∧ EntL F i (off (fr :: tb :: M) H2) df x) ∧ ∃ (x5 : Option V), σ = [some (.ref dd), some (.int (most : Int)), some (.ref tb), some (.int (1 + (i : Int))), some (.ref fr), x5])
      ⟨Stp.put (by simp), upd_same, ⟨kvs, by rw [upd_ne nft.symm]; exact htb2, tab2, tabe2, by omega, by simp⟩, _, rfl⟩ (fun j σ H' _ h => h.2.1) ?_ ?_
    · rintro j x σ H3 H3' hj ⟨st, hf3, ⟨kt, ht3, tb3, te3, l3, al3⟩, x5, rfl⟩ ⟨rfl, k, v, hk, rfl⟩
      obtain ⟨nm, e, hnm⟩ := kf2 _ (List.mem_of_getElem? hk)
      obtain rfl : k = Sum.inr nm := e
      obtain ⟨x, df, h1, h2, h3⟩ := kf3 nm hnm
      refine ⟨_, rfl, _, rfl, fr, x, rfl, .inl ⟨kf, Sum.inr nm, .inr ⟨od, hf3⟩, rfl, h2.symm⟩, ?_⟩
      refine ⟨_, rfl, _, rfl, _, rfl, by show 2 ≤ sizeLine; decide, fun tk ntk => ?_⟩
      have ek : ((i + 1 : Nat) : Int) = 1 + (i : Int) := by omega
      have e1 := same_new ntk (.tup [.str nm, .int (1 + (i : Int))])
      refine ⟨tb, _, rfl, DPut.t (k := [Sum.inr nm, Sum.inl (1 + (i : Int))]) (e1 _ _ ht3) upd_same (line_lt (by omega)), ?_⟩
      rw [← ek]
      have e1' := same_new ntk (.tup [.str nm, .int ((i + 1 : Nat) : Int)])
      refine ⟨(st.trans (Stp.new ntk)).trans (Stp.put (by simp)), by rw [upd_ne nft]; exact e1' _ _ hf3, ⟨_, upd_same, tb3.put, te3.put h1 h3, ?_, fun kv hkv nm' hn' => ?_⟩, _, rfl⟩
      · exact Nat.le_trans (putK_le kt (tkey nm i) x) (by omega)
      · by_cases c : nm' = nm
        · subst c
          exact ⟨df, x, h1, by rw [valV_put, if_pos rfl], h3⟩
        · rw [List.take_add_one, hk] at hkv
          rcases List.mem_append.mp hkv with hkv | hkv
          · obtain ⟨df', x', h4, h5, h6⟩ := al3 kv hkv nm' hn'
            refine ⟨df', x', h4, ?_, h6⟩
            rw [valV_put, if_neg]
            · exact h5
            · intro z
              injection z with z _
              exact c (Sum.inr.inj z)
          · have : kv = (Sum.inr nm, v) := by simpa using hkv
            rw [this] at hn'
            exact absurd (Sum.inr.inj hn').symm c
    · rintro σ H3 ⟨st, hf3, ⟨kt, ht3, tb3, te3, l3, al3⟩, x5, rfl⟩
      rw [List.take_length] at al3
      refine ⟨hf3, ?_, _, _, _, rfl⟩
      have st2 : Stp [fr, tb] H2 (upd H3 fr (.dK kf)) := st.trans (Stp.put (by simp))
      have sg : Same (off (fr :: tb :: M) H2) (off (tb :: M) (upd H3 fr (.dK kf))) := (st2.mono (M' := fr :: tb :: M) (by simp)).offs fun a ha => .inl (List.mem_cons_of_mem _ ha)
      have nfH : H fr = none := A1.same.free nfr
      refine ⟨ntb, al, by simp, ⟨fun a o _ e => ?_, fun a e => ?_⟩, _, by rw [upd_ne nft.symm]; exact ht3, kt, rfl, fun nm df hl m hm => ?_, te3.same sg, ?_⟩
      · exact st2.keep a o (by simp [ne_of_none e nfH, ne_of_none e ntb]) (B2.same _ _ (A1.same _ _ e))
      · exact A1.st.al a (B2.st.al a (st2.al a e))
      · have hor : m < i ∨ m = i := by omega
        rcases hor with h | rfl
        · obtain ⟨x, h1, h2⟩ := tb3 nm df hl m h
          exact ⟨x, h1, h2.same sg⟩
        · have hn : nm ∈ ys := hperm.mem_iff.mpr (look_some.mp ⟨df, hl⟩)
          obtain ⟨x, _, _, h2, _⟩ := kf3 nm hn
          obtain ⟨⟨k, v⟩, hkv, e⟩ := List.mem_map.mp (valV_in h2)
          obtain ⟨df', x', h4, h5, h6⟩ := al3 _ hkv nm e
          rw [hl] at h4
          cases h4
          exact ⟨x', h5, h6.same sg⟩
      · omega
  · rintro σ H1 ⟨A1, x3, x4, x5, rfl⟩
    obtain ⟨_, htb1, kvs, rfl, tab1, tabe1, hkl⟩ := id A1.ex
    replace tabe1 := tabe1.mono (n' := most) (by omega)
    exact ⟨_, rfl, q tb H1 kvs A1.same ntb htb1 (tabe1.same off_less)⟩
end
end Ff
/-! The law, 9: definitions that are drawn. -/
namespace Ff
open PySem L2 C8
theorem call_len_seqK {X : Cx} {K : PySem.W.Frag} (h : X.K = K) : CallR X (.builtin "len") (fun xs H Q => ∃ p ys, xs = [.ref p] ∧ (SqL K H p ys ∨ SqT K H p ys) ∧ Q (.int ys.length) H) := h ▸ call_len_seq
theorem sl_tupAK {X : Cx} {K : PySem.W.Frag} (h : X.K = K) : SlR X (rSlA K) := h ▸ sl_tupA
/-- the shape of a definition over the names ns -/
def ShD (ns : List Str) (b : Nat) : Df → Prop
  | .any => True
  | .int lo hi => lo.natAbs ≤ b ∧ hi.natAbs ≤ b
  | .txt m => 0 ≤ m ∧ m ≤ 2
  | .lst e lo hi => e ∈ ns ∧ lo.natAbs ≤ b ∧ hi.natAbs ≤ b
  | .rcd fs => fs.length ≤ 3 ∧ (fs.map (·.nm)).Nodup ∧ ∀ f ∈ fs, nm1 f.nm ∧ f.ty ∈ ns
  | .cho cs _ => cs.length ≤ 4 ∧ (cs.map (·.1)).Nodup ∧ ∀ c ∈ cs, nm1 c.1 ∧ c.2 ∈ ns
/-- nothing is filled in yet -/
def PlD : Df → Prop
  | .rcd fs => ∀ f ∈ fs, ∀ d, f.pr ≠ .dft d
  | .cho _ fb => ∀ d, fb ≠ .val d
  | _ => True
theorem ShD.mono {ns : List Str} {b b' : Nat} (h : b ≤ b') {df : Df} (t : ShD ns b df) : ShD ns b' df := by
  cases df with
  | int lo hi => exact ⟨Nat.le_trans t.1 h, Nat.le_trans t.2 h⟩
  | lst e lo hi => exact ⟨t.1, Nat.le_trans t.2.1 h, Nat.le_trans t.2.2 h⟩
  | _ => exact t
theorem ShD.tb {F : Dfs} {b : Nat} {df : Df} (t : ShD (F.map (·.1)) b df) : TbD F b df := by
  have h : ∀ {e : Str}, e ∈ F.map (·.1) → (look F e).isSome = true := fun he => by
    obtain ⟨a, h⟩ := look_some.mpr he
    rw [h]; rfl
  cases df with
  | lst e lo hi => exact ⟨h t.1, t.2⟩
  | rcd fs => exact ⟨t.1, t.2.1, fun f hf => ⟨(t.2.2 f hf).1, h (t.2.2 f hf).2⟩⟩
  | cho cs fb => exact ⟨t.1, t.2.1, fun f hf => ⟨(t.2.2 f hf).1, h (t.2.2 f hf).2⟩⟩
  | _ => exact t
theorem xyzN : ∀ x ∈ (["x", "y", "z"] : List Str), x ∈ names8 := by decide +kernel
theorem pqrN : ∀ x ∈ (["p", "q", "r"] : List Str), x ∈ names8 := by decide +kernel
theorem xyz_nd : (["x", "y", "z"] : List Str).Nodup := by decide +kernel
theorem pqr_nd : (["p", "q", "r"] : List Str).Nodup := by decide +kernel
theorem take_get {α : Type} {xs : List α} {i : Nat} {x : α} (h : xs[i]? = some x) : xs.take (i + 1) = xs.take i ++ [x] := by rw [List.take_add_one, h]; rfl
theorem strs_get {xs : List Str} {i : Nat} {v : V} (h : (xs.map V.str)[i]? = some v) : ∃ x, v = .str x ∧ xs[i]? = some x := by
  rw [List.getElem?_map] at h
  obtain ⟨x, hx, rfl⟩ := Option.map_eq_some_iff.mp h
  exact ⟨x, rfl, hx⟩
theorem get_strs {xs : List Str} {i : Nat} {x : Str} (h : xs[i]? = some x) : (xs.map V.str)[i]? = some (.str x) := by
  rw [List.getElem?_map, h]; rfl
def PTy (ns : List Str) (j : Nat) (_ : Hp) (o : HO) : Prop := ∃ ts : List Str, o = .lst (ts.map V.str) ∧ ts.length = j ∧ ∀ t ∈ ts, t ∈ ns
theorem PTy.mono {ns : List Str} {j : Nat} : Mono (PTy ns j) := fun _ _ _ h _ => h
def PFs (ns : List Str) (i : Nat) (G : Hp) (o : HO) : Prop := ∃ us fs, o = .lst us ∧ Paired (RepFd G) us fs ∧ (fs.map (·.nm)).Sublist ((["x", "y", "z"] : List Str).take i) ∧ ∀ f ∈ fs, f.ty ∈ ns ∧ ∀ d, f.pr ≠ .dft d
theorem PFs.mono {ns : List Str} {j : Nat} : Mono (PFs ns j) := fun _ _ _ ⟨us, fs, h1, h2, h3⟩ s => ⟨us, fs, h1, L2.Paired.mapP h2 fun _ _ z => z.same s, h3⟩
/-- some of the fields fs -/
def PSub (fs : List Fd) (G : Hp) (o : HO) : Prop := ∃ us gs, o = .lst us ∧ Paired (RepFd G) us gs ∧ gs.Sublist fs
theorem PSub.mono {fs : List Fd} : Mono (PSub fs) := fun _ _ _ ⟨us, gs, h1, h2, h3⟩ s => ⟨us, gs, h1, L2.Paired.mapP h2 fun _ _ z => z.same s, h3⟩
def PCs (ns : List Str) (i : Nat) (G : Hp) (o : HO) : Prop := ∃ us cs, o = .lst us ∧ Paired (RepCs G) us cs ∧ (cs.map (·.1)).Sublist ((["p", "q", "r"] : List Str).take i) ∧ ∀ c ∈ cs, c.2 ∈ ns
theorem PCs.mono {ns : List Str} {j : Nat} : Mono (PCs ns j) := fun _ _ _ ⟨us, fs, h1, h2, h3⟩ s => ⟨us, fs, h1, L2.Paired.mapP h2 fun _ _ z => z.same s, h3⟩
theorem fd_rep {G : Hp} {a : Addr} {nm ty : Str} {p : Pr} (hp : ∀ d, p ≠ .dft d) (h : G a = some (.tup [.str nm, .str ty, .str (prS p)])) : RepFd G (.ref a) ⟨nm, ty, p⟩ := by
  refine ⟨a, rfl, ?_⟩
  cases p with
  | dft d => exact absurd rfl (hp d)
  | _ => exact h
theorem pres4 {i : Nat} (h : i < 4) : ∃ p : Pr, ([.str "required", .str "optional", .str "optional", .str "default"] : List V)[i]? = some (.str (prS p)) ∧ ∀ d, p ≠ .dft d := by
  have : i = 0 ∨ i = 1 ∨ i = 2 ∨ i = 3 := by omega
  rcases this with rfl | rfl | rfl | rfl
  · exact ⟨.req, rfl, fun d h => by cases h⟩
  · exact ⟨.opt, rfl, fun d h => by cases h⟩
  · exact ⟨.opt, rfl, fun d h => by cases h⟩
  · exact ⟨.mark, rfl, fun d h => by cases h⟩
theorem xyz_get {i : Nat} (h : i < 3) : ∃ x : Str, ([.str "x", .str "y", .str "z"] : List V)[i]? = some (.str x) ∧ (["x", "y", "z"] : List Str)[i]? = some x := by
  have : i = 0 ∨ i = 1 ∨ i = 2 := by omega
  rcases this with rfl | rfl | rfl <;> exact ⟨_, rfl, rfl⟩
theorem pqr_get {i : Nat} (h : i < 3) : ∃ x : Str, ([.str "p", .str "q", .str "r"] : List V)[i]? = some (.str x) ∧ (["p", "q", "r"] : List Str)[i]? = some x := by
  have : i = 0 ∨ i = 1 ∨ i = 2 := by omega
  rcases this with rfl | rfl | rfl <;> exact ⟨_, rfl, rfl⟩
section
variable {P : Program} {w : World} {K : PySem.W.Frag} {mg : Str → Option Value} {base : Heap} {C kA : Addr}
def spDef : Sp := fun vs H Q _ => ∃ (b l : Addr) (M : List Addr) (ns : List Str), vs = [.ref b, .ref l] ∧ Box M H b ∧ off M H l = some (.lst (ns.map V.str)) ∧ 0 < ns.length ∧
  ∀ v H' df, Stp [b] H H' → Box M H' b → RepDf (off M H') v df → ShD ns 10 df → PlD df → Q v H'
theorem ok_definition (h : Has K mg "_law_definition" s_l_definition p_l_definition) (T : Txt K mg C kA) (c_l_draw : Cal P w K mg base 1 "_law_draw" spDraw []) : Cal P w K mg base 2 "_law_definition" spDef [] := by
  refine h.cal sc_l_definition (fun vs H Q E h => ?_) (fun f cdv A outer s H vs Q E hr h => ?_)
  · obtain ⟨b, l, M, ns, rfl, _⟩ := h
    rfl
  obtain ⟨b, l, M, ns, rfl, bx0, hl0, hns, q⟩ := h
  refine ⟨_, (pss_cons (ps_set (i := 2) sc_l_definition.nd rfl (Or.inl rfl) (pe_c c_l_draw hr (by omega) rfl (pa_cons (pv 0) (pa_cons pe_int pa_nil))))
      (pss_cons (ps_set (i := 3) sc_l_definition.nd rfl (Or.inr rfl) (pe_lc (own := [("_law_turn", 11)]) (g := gName 11) (tt := tYes) rfl sc_l_definition.nd (pi_range1 rfl T.z_range (pa_cons pe_int pa_nil)) (blkOk_by (own := [("_law_turn", 11)]) (N := n_l_definition) (sc := fnScope s_l_definition) (by decide +kernel)) (fun _ _ _ _ _ => pg_name (i := 11) sc_l_definition.nd rfl (Or.inl rfl)) (fun _ _ _ _ _ => pts_nil) (fun _ _ _ _ _ => (pe_ix (ix_listK (K := K) rfl) (pv 1) (pe_op op_modN (pe_callTy call_int1 rfl T.z_int (by decide +kernel) (pa_cons (pe_c c_l_draw hr (by omega) rfl (pa_cons (pv 0) (pa_cons pe_int pa_nil))) pa_nil)) (pe_callB (call_len_seqK (K := K) rfl) rfl T.z_len (by decide +kernel) (pa_cons (pv 1) pa_nil))) (fun _ _ => rfl)))))
      (pss_cons (ps_if (pt_cmpR op_eq (pv 2) pe_int (nomark _)) (pss_one (ps_ret (pe_tup (pa_cons pe_str pa_nil)))) pss_nil)
      (pss_cons (ps_if (pt_cmpR op_lt (pv 2) pe_int (nomark _)) (pss_cons (ps_set (i := 4) sc_l_definition.nd rfl (Or.inl rfl) (pe_op op_sub (pe_c c_l_draw hr (by omega) rfl (pa_cons (pv 0) (pa_cons pe_int pa_nil))) pe_int))
        (pss_one (ps_ret (pe_tup (pa_cons pe_str (pa_cons (pv 4) (pa_cons (pe_op op_add (pv 4) (pe_c c_l_draw hr (by omega) rfl (pa_cons (pv 0) (pa_cons pe_int pa_nil)))) pa_nil))))))) pss_nil)
      (pss_cons (ps_if (pt_cmpR op_eq (pv 2) pe_int (nomark _)) (pss_one (ps_ret (pe_tup (pa_cons pe_str (pa_cons (pe_c c_l_draw hr (by omega) rfl (pa_cons (pv 0) (pa_cons pe_int pa_nil))) pa_nil))))) pss_nil)
      (pss_cons (ps_if (pt_cmpR op_lt (pv 2) pe_int (nomark _)) (pss_cons (ps_set (i := 5) sc_l_definition.nd rfl (Or.inl rfl) (pe_c c_l_draw hr (by omega) rfl (pa_cons (pv 0) (pa_cons pe_int pa_nil))))
        (pss_one (ps_ret (pe_tup (pa_cons pe_str (pa_cons (pe_ix ix_list (pv 3) pe_int (fun _ _ => rfl)) (pa_cons (pv 5) (pa_cons (pe_op op_add (pv 5) (pe_c c_l_draw hr (by omega) rfl (pa_cons (pv 0) (pa_cons pe_int pa_nil)))) pa_nil)))))))) pss_nil)
      (pss_cons (ps_set (i := 6) sc_l_definition.nd rfl (Or.inl rfl) (pe_c c_l_draw hr (by omega) rfl (pa_cons (pv 0) (pa_cons pe_int pa_nil))))
      (pss_cons (ps_if (pt_cmpR op_lt (pv 2) pe_int (nomark _)) (pss_cons (ps_set (i := 7) sc_l_definition.nd rfl (Or.inl rfl) (pe_lst pa_nil))
        (pss_cons (ps_for PassesOwn.never rfl (pi_range1 rfl T.z_range (pa_cons (pv 6) pa_nil)) (pg_name (i := 8) sc_l_definition.nd rfl (Or.inl rfl))
          (pss_cons (ps_set (i := 9) sc_l_definition.nd rfl (Or.inl rfl) (pe_ix ix_list (pe_lst (pa_cons pe_str (pa_cons pe_str (pa_cons pe_str (pa_cons pe_str pa_nil))))) (pe_c c_l_draw hr (by omega) rfl (pa_cons (pv 0) (pa_cons pe_int pa_nil))) (fun _ _ => rfl)))
          (pss_one (ps_expr (pe_bm PySem.F.plainAttrs_list PySem.F.slot_list_append PySem.F.type_list_append mt_append (pv 7) (pa_cons (pe_tup (pa_cons (pe_ix ix_list (pe_lst (pa_cons pe_str (pa_cons pe_str (pa_cons pe_str pa_nil)))) (pv 8) (fun _ _ => rfl)) (pa_cons (pe_ix ix_list (pv 3) (pv 8) (fun _ _ => rfl)) (pa_cons (pv 9) pa_nil)))) pa_nil))))))
        (pss_one (ps_ret (pe_tup (pa_cons pe_str (pa_cons (pe_callTy call_tuple_of rfl T.z_tuple (by decide +kernel) (pa_cons (pe_lc (own := [("_law_field", 12)]) (g := gName 12) rfl sc_l_definition.nd (pi_list (pv 7)) (blkOk_by (own := [("_law_field", 12)]) (N := n_l_definition) (sc := fnScope s_l_definition) (by decide +kernel)) (fun _ _ _ _ _ => pg_name (i := 12) sc_l_definition.nd rfl (Or.inl rfl)) (fun _ _ _ _ _ => (pts_one (pt_cmpR op_gt (pe_c c_l_draw hr (by omega) rfl (pa_cons (pv 0) (pa_cons pe_int pa_nil))) pe_int (nomark _)))) (fun _ _ _ _ _ => (pv 12))) pa_nil)) pa_nil))))))) pss_nil)
      (pss_cons (ps_setLc (i := 10) (own := [("_law_place", 8)]) (g := gName 8) rfl sc_l_definition.nd rfl rfl (sw_true rfl rfl rfl (by decide +kernel)) (pi_range1 rfl T.z_range (pa_cons (pe_callB (cr_max rfl) rfl T.z_max (by decide +kernel) (pa_cons (pe_lst (pa_cons pe_int (pa_cons (pv 6) pa_nil))) pa_nil)) pa_nil)) (blkOk_by (own := [("_law_place", 8)]) (N := n_l_definition) (sc := fnScope s_l_definition) (by decide +kernel)) (fun _ _ _ _ _ => pg_name (i := 8) sc_l_definition.nd rfl (Or.inl rfl)) (fun _ _ _ _ _ => (pts_one (PW.pt (pw_or (pt_cmpR op_eq (pv 8) pe_int (nomark _)) (pw_or1 (pt_cmpR op_gt (pe_c c_l_draw hr (by omega) rfl (pa_cons (pv 0) (pa_cons pe_int pa_nil))) pe_int (nomark _))))))) (fun _ _ _ _ _ => (pe_tup (pa_cons (pe_ix (ix_listK (K := K) rfl) (pe_lst (pa_cons pe_str (pa_cons pe_str (pa_cons pe_str pa_nil)))) (pv 8) (fun _ _ => rfl)) (pa_cons (pe_ix (ix_listK (K := K) rfl) (pv 3) (pv 8) (fun _ _ => rfl)) pa_nil)))))
      (pss_one (ps_ret (pe_tup (pa_cons pe_str (pa_cons (pe_callTy call_tuple_of rfl T.z_tuple (by decide +kernel) (pa_cons (pv 10) pa_nil)) (pa_cons (pe_ix ix_list (pe_lst (pa_cons pe_non (pa_cons pe_str pa_nil))) (pe_c c_l_draw hr (by omega) rfl (pa_cons (pv 0) (pa_cons pe_int pa_nil))) (fun _ _ => rfl)) pa_nil))))))))))))))), ?_⟩
  refine ⟨_, rfl, b, 11, M, rfl, by decide, bx0, fun kd H1 kd0 kd11 st1 bx1 => ?_⟩
  have hl1 := (st1.offb bx0.mem) _ _ hl0
  refine ⟨3, rfl, by decide, by decide, fun L nL => ?_⟩
  have subM : ∀ a ∈ [b], a ∈ M := by
    intro a ha
    rw [List.mem_singleton.mp ha]
    exact bx0.mem
  have A0 : Acc [b] M H1 (upd H1 L (.lst [])) L (PTy ns 0) := Acc.new nL bx1.al subM fun G => ⟨[], rfl, rfl, by simp⟩
  have nLb : L ≠ b := bx1.ne nL
  refine lc_range (lo := 0) (n := 3) (fun j H' => Acc [b] M H1 H' L (PTy ns j) ∧ Box (L :: M) H' b) ⟨A0, bx1.also nL⟩ ?_ ?_
  · rintro j H2 hj ⟨A1, bx2⟩
    refine ⟨rfl, _, rfl, _, rfl, b, 900, L :: M, rfl, by decide, bx2, fun z H3 z0 z9 st3 bx3 => ?_⟩
    have A2 := A1.step PTy.mono st3
    have hl3 : H3 l = some (.lst (ns.map V.str)) := off_at (A2.so _ _ hl1)
    have hm := fmod_lt (x := z) (m := ((ns.map V.str).length : Int)) (by rw [List.length_map]; omega)
    refine .inl ⟨_, rfl, _, rfl, l, _, rfl, .inl (SqL.of hl3), _, _, rfl, rfl, by rw [List.length_map]; omega, ?_⟩
    have hlt : (z.fmod ((ns.map V.str).length : Int)).toNat < ns.length := by rw [List.length_map] at hm ⊢; omega
    obtain ⟨_, hL, ts, rfl, tl, tn⟩ := id A2.ex
    refine ⟨l, _, _, .str (ns[(z.fmod ((ns.map V.str).length : Int)).toNat]'hlt), rfl, rfl, SqL.of hl3, at_of (j := (z.fmod ((ns.map V.str).length : Int)).toNat) (by omega) (get_strs (List.getElem?_eq_getElem hlt)), _, hL, line_lt (by rw [List.length_map]; omega), ?_, bx3.put (by simp) nLb⟩
    refine A2.set ⟨ts ++ [ns[(z.fmod ((ns.map V.str).length : Int)).toNat]'hlt], by rw [List.map_append]; rfl, by rw [List.length_append, tl]; rfl, fun t ht => ?_⟩ PTy.mono
    rcases List.mem_append.mp ht with ht | ht
    · exact tn t ht
    · rw [List.mem_singleton.mp ht]
      exact List.getElem_mem hlt
  rintro H2 ⟨A1, bx2⟩
  have bx2 := bx2.less bx0.mem
  obtain ⟨_, hL, ts, rfl, tl, tn⟩ := id A1.ex
  have hLo : off M H2 L = some (.lst (ts.map V.str)) := off_in bx1.al nL hL
  have st2 := st1.trans A1.st
  have al2 := bx2.al
  have tget : ∀ {i : Nat}, i < 3 → ∃ t, ts[i]? = some t ∧ t ∈ ns := fun {i} h => ⟨ts[i]'(by omega), List.getElem?_eq_getElem (by omega), tn _ (List.getElem_mem _)⟩
  clear A1 A0 hl1 hL nL nLb
  refine ⟨_, rfl, rfl, _, rfl, ifS (fun _ => ?_) (fun _ => ?_)⟩
  · refine ⟨by show 1 ≤ sizeLine; decide, fun a na => ?_⟩
    have e1 := same_new na (.tup [.str "any"])
    exact q _ _ .any (st2.trans (Stp.of_same e1)) (bx2.same e1) ⟨a, rfl, off_in al2 na upd_same⟩ trivial trivial
  refine ⟨_, rfl, _, _, rfl, rfl, _, rfl, ifS (fun _ => ?_) (fun _ => ?_)⟩
  · refine ⟨_, rfl, b, 5, M, rfl, by decide, bx2, fun z H3 z0 z9 st3 bx3 => ?_⟩
    refine ⟨_, _, rfl, rfl, ?_⟩
    refine ⟨_, rfl, _, rfl, _, rfl, b, 3, M, rfl, by decide, bx3, fun y H4 y0 y9 st4 bx4 => ?_⟩
    refine ⟨_, _, rfl, rfl, by show 3 ≤ sizeLine; decide, fun a na => ?_⟩
    have e1 := same_new na (.tup [.str "integer", .int (z - 2), .int (z - 2 + y)])
    exact q _ _ (.int (z - 2) (z - 2 + y)) ((st2.trans (st3.trans st4)).trans (Stp.of_same e1)) (bx4.same e1) ⟨a, rfl, off_in bx4.al na upd_same⟩ ⟨by omega, by omega⟩ trivial
  refine ⟨_, rfl, rfl, _, rfl, ifS (fun _ => ?_) (fun _ => ?_)⟩
  · refine ⟨_, rfl, b, 3, M, rfl, by decide, bx2, fun z H3 z0 z9 st3 bx3 => ?_⟩
    refine ⟨by show 2 ≤ sizeLine; decide, fun a na => ?_⟩
    have e1 := same_new na (.tup [.str "text", .int z])
    exact q _ _ (.txt z) ((st2.trans st3).trans (Stp.of_same e1)) (bx3.same e1) ⟨a, rfl, off_in bx3.al na upd_same⟩ ⟨z0, by omega⟩ trivial
  refine ⟨_, rfl, _, _, rfl, rfl, _, rfl, ifS (fun _ => ?_) (fun _ => ?_)⟩
  · refine ⟨_, rfl, b, 3, M, rfl, by decide, bx2, fun z H3 z0 z9 st3 bx3 => ?_⟩
    obtain ⟨t, ht, htn⟩ := tget (i := 0) (by decide)
    refine ⟨_, rfl, L, _, _, .str t, rfl, rfl, SqL.of (off_at ((st3.offb bx0.mem) _ _ hLo)), at_of (j := 0) rfl (get_strs ht), _, rfl, _, rfl, _, rfl, b, 3, M, rfl, by decide, bx3, fun y H4 y0 y9 st4 bx4 => ?_⟩
    refine ⟨_, _, rfl, rfl, by show 4 ≤ sizeLine; decide, fun a na => ?_⟩
    have e1 := same_new na (.tup [.str "list", .str t, .int z, .int (z + y)])
    exact q _ _ (.lst t z (z + y)) ((st2.trans (st3.trans st4)).trans (Stp.of_same e1)) (bx4.same e1) ⟨a, rfl, off_in bx4.al na upd_same⟩ ⟨htn, by omega, by omega⟩ trivial
  refine ⟨_, rfl, b, 4, M, rfl, by decide, bx2, fun many H3 m0 m4 st3 bx3 => ?_⟩
  have hLo3 := (st3.offb bx0.mem) _ _ hLo
  have st23 := st2.trans st3
  refine ⟨_, rfl, _, _, rfl, rfl, _, rfl, ifS (fun _ => ?_) (fun _ => ?_)⟩
  · -- a record
    refine ⟨by show 0 ≤ sizeLine; decide, fun fo nfo => ?_⟩
    have A0 : Acc [b] M H3 (upd H3 fo (.lst [])) fo (PFs ns 0) := Acc.new nfo bx3.al subM fun G => ⟨[], [], rfl, .nil, List.Sublist.refl _, by simp⟩
    refine ⟨_, rfl, many, rfl, by omega, by omega, ?_⟩
    refine for_range (lo := 0) (fun j σ H' => Acc [b] M H3 H' fo (PFs ns j) ∧ Box (fo :: M) H' b ∧ ∃ (x8 x9 : Option V), σ = [some (.ref b), some (.ref l), some (.int kd), some (.ref L), none, none, some (.int many), some (.ref fo), x8, x9, none, none, none])
      ⟨A0, bx3.also nfo, _, _, rfl⟩ ?_ ?_
    · rintro j σ H4 hj ⟨A1, bx4, x8, x9, rfl⟩
      refine ⟨by show 4 ≤ sizeLine; decide, fun p np => ?_⟩
      have e1 := same_new np (.lst [.str "required", .str "optional", .str "optional", .str "default"])
      refine ⟨_, rfl, b, 4, fo :: M, rfl, by decide, bx4.same e1, fun z H5 z0 z9 st5 bx5 => ?_⟩
      have npb : p ≠ b := bx4.ne np
      have hp5 : H5 p = some (.lst [.str "required", .str "optional", .str "optional", .str "default"]) := st5.keep _ _ (by simpa using npb) upd_same
      obtain ⟨pr, hpr, hpl⟩ := pres4 (i := z.toNat) (by omega)
      refine ⟨p, _, _, _, rfl, rfl, SqL.of hp5, at_of (j := z.toNat) (by omega) hpr, ?_⟩
      have A2 := A1.step PFs.mono ((Stp.of_same e1).trans st5)
      obtain ⟨_, hfo, us, fs, rfl, f1, f2, f3⟩ := id A2.ex
      refine ⟨_, rfl, .inl ⟨rfl, _, SqL.of hfo⟩, by show 3 ≤ sizeLine; decide, fun p2 np2 => ?_⟩
      have e2 := same_new np2 (.lst [.str "x", .str "y", .str "z"])
      obtain ⟨x, hx, hx2⟩ := xyz_get (i := j) (by omega)
      obtain ⟨t, ht, htn⟩ := tget (i := j) (by omega)
      have hL5 := off_at (A2.so _ _ hLo3)
      refine ⟨_, rfl, p2, _, _, _, rfl, rfl, SqL.of upd_same, at_of (j := j) (by omega) hx, _, rfl, _, rfl, L, _, _, .str t, rfl, rfl, SqL.of (e2 _ _ hL5), at_of (j := j) (by omega) (get_strs ht), _, rfl, by show 3 ≤ sizeLine; decide, fun p3 np3 => ?_⟩
      have e3 := same_new np3 (.tup [.str x, .str t, .str (prS pr)])
      have e23 := e2.trans e3
      have A3 := A2.step PFs.mono (Stp.of_same e23)
      have hul : us.length ≤ 3 := by
        rw [f1.length]
        have h1 := f2.length_le
        rw [List.length_map, List.length_take] at h1
        exact Nat.le_trans h1 (Nat.min_le_right _ _)
      refine ⟨fo, _, _, rfl, rfl, e23 _ _ hfo, line_lt (by omega), ?_⟩
      refine ⟨A3.set ⟨us ++ [.ref p3], fs ++ [⟨x, t, pr⟩], rfl, paired_append (L2.Paired.mapP f1 fun _ _ z => z.same (offs_same e23)) (.cons (fd_rep hpl (off_in A2.alp (e2.free np3) upd_same)) .nil), ?_, fun f hf => ?_⟩ PFs.mono, (bx5.same e23).put (by simp) (bx3.ne nfo), _, _, rfl⟩
      · rw [take_get hx2, List.map_append]
        exact f2.append (List.Sublist.refl _)
      · rcases List.mem_append.mp hf with hf | hf
        · exact f3 f hf
        · rw [List.mem_singleton.mp hf]
          exact ⟨htn, hpl⟩
    rintro σ H4 ⟨A1, bx4, x8, x9, rfl⟩
    have bx4 := bx4.less bx0.mem
    obtain ⟨_, hfo, us, fs, rfl, f1, f2, f3⟩ := id A1.ex
    have f1' : Paired (RepFd (off M H4)) us fs := L2.Paired.mapP f1 fun _ _ z => z.same off_less
    have hfo4 : off M H4 fo = some (.lst us) := off_in bx3.al nfo hfo
    refine ⟨_, rfl, fo, rfl, ⟨_, SqL.of hfo⟩, fun Lb nL2 => ?_⟩
    have B0 : Acc [b] M H4 (upd H4 Lb (.lst [])) Lb (PSub (fs.take 0)) := Acc.new nL2 bx4.al subM fun G => ⟨[], [], rfl, .nil, List.Sublist.refl _⟩
    refine lc_list (K := K) (xs := us) (fun j H' => Acc [b] M H4 H' Lb (PSub (fs.take j)) ∧ Box (Lb :: M) H' b) ⟨B0, bx4.also nL2⟩ (fun j H' _ h => SqL.of (off_at (h.1.so _ _ hfo4))) ?_ ?_
    · rintro j x H5 hx ⟨B1, bx5⟩
      obtain ⟨fd, hfd, rfd⟩ := paired_get f1' hx
      refine ⟨rfl, _, rfl, b, 5, Lb :: M, rfl, by decide, bx5, fun z H6 z0 z9 st6 bx6 => ?_⟩
      have B2 := B1.step PSub.mono st6
      rw [take_get hfd]
      refine ⟨_, _, rfl, rfl, _, rfl, ifS (fun _ => ?_) (fun _ => ⟨B2.as fun G o ⟨us, gs, h1, h2, h3⟩ => ⟨us, gs, h1, h2, h3.trans (List.sublist_append_left _ _)⟩, bx6⟩)⟩
      obtain ⟨_, hL2, vs, gs, rfl, g1, g2⟩ := id B2.ex
      have hvl : vs.length ≤ 3 := by
        rw [g1.length]
        have h1 := g2.length_le
        have h2 := f2.length_le
        rw [List.length_map, List.length_take] at h2
        rw [List.length_take] at h1
        have : (["x", "y", "z"] : List Str).length = 3 := rfl
        omega
      refine ⟨_, rfl, _, hL2, line_lt (by omega), B2.set ⟨_, gs ++ [fd], rfl, paired_append g1 (.cons (rfd.same B2.so) .nil), g2.append (List.Sublist.refl _)⟩ PSub.mono, bx6.put (by simp) (bx4.ne nL2)⟩
    rintro H5 ⟨B1, bx5⟩
    have bx5 := bx5.less bx0.mem
    obtain ⟨_, hL2, vs, gs, rfl, g1, g2⟩ := id B1.ex
    refine ⟨Lb, vs, rfl, .inl ⟨SqL.of hL2, fun tp ntp => ?_⟩⟩
    have e5 := same_new ntp (.tup vs)
    refine ⟨by show 2 ≤ sizeLine; decide, fun a na => ?_⟩
    have e6 := same_new na (.tup [.str "record", .ref tp])
    have e56 := e5.trans e6
    have efs : fs.take us.length = fs := List.take_of_length_le (by rw [f1.length]; exact Nat.le_refl _)
    rw [efs] at g2
    have g3 := (g2.map (·.nm)).trans (f2.trans (List.take_sublist _ _))
    refine q _ _ (.rcd gs) ((st23.trans (A1.st.trans B1.st)).trans (Stp.of_same e56)) (bx5.same e56) ⟨a, rfl, tp, vs, off_in bx5.al (e5.free na) upd_same, off_in bx5.al ntp (e6 _ _ upd_same), L2.Paired.mapP g1 fun _ _ z => (z.same off_less).same (offs_same e56)⟩ ⟨?_, g3.nodup xyz_nd, fun f hf => ⟨nm1_of (xyzN _ (g3.subset (List.mem_map_of_mem hf))), (f3 f (g2.subset hf)).1⟩⟩ (fun f hf => (f3 f (g2.subset hf)).2)
    have := g3.length_le
    rw [List.length_map] at this
    exact this
  · -- a choice
    refine ⟨_, rfl, by show 2 ≤ sizeLine; decide, fun p np => ?_⟩
    have e1 := same_new np (.lst [.int 1, .int many])
    have bx4 := bx3.same e1
    have hLo4 := (offs_same (M := M) e1) _ _ hLo3
    refine ⟨p, [1, many], rfl, SqL.of upd_same, by show 0 < 2; decide, fun mx hmx hmx2 => ?_⟩
    have hmx1 := hmx2 1 (by simp)
    have hmx3 : mx ≤ 3 := by
      simp only [List.mem_cons, List.not_mem_nil, or_false] at hmx
      rcases hmx with rfl | rfl <;> omega
    refine ⟨mx, rfl, by omega, by omega, fun Lb nL2 => ?_⟩
    have B0 : Acc [b] M _ (upd _ Lb (.lst [])) Lb (PCs ns 0) := Acc.new nL2 bx4.al subM fun G => ⟨[], [], rfl, .nil, List.Sublist.refl _, by simp⟩
    refine lc_range (lo := 0) (fun j H' => Acc [b] M _ H' Lb (PCs ns j) ∧ Box (Lb :: M) H' b) ⟨B0, bx4.also nL2⟩ ?_ ?_
    · rintro j H5 hj ⟨B1, bx5⟩
      obtain ⟨x, hx, hx2⟩ := pqr_get (i := j) (by omega)
      obtain ⟨t, ht, htn⟩ := tget (i := j) (by omega)
      have elt : ∀ {H6 : Hp} {σ : L2.St} {c : Bool}, Acc [b] M (upd H3 p (.lst [.int 1, .int many])) H6 Lb (PCs ns j) → Box (Lb :: M) H6 b → σ[3]? = some (some (.ref L)) → σ[8]? = some (some (.int (0 + (j : Int)))) →
          if c = true then tTup (tCons (tOp (rIxL K) (tLst (tCons (tC (.str "p")) (tCons (tC (.str "q")) (tCons (tC (.str "r")) tNil)))) (tVar 8)) (tCons (tOp (rIxL K) (tVar 3) (tVar 8)) tNil)) σ H6 (fun y H4 => ∃ acc, H4 Lb = some (.lst acc) ∧ acc.length < sizeLine ∧ (Acc [b] M (upd H3 p (.lst [.int 1, .int many])) (upd H4 Lb (.lst (acc ++ [y]))) Lb (PCs ns (j + 1)) ∧ Box (Lb :: M) (upd H4 Lb (.lst (acc ++ [y]))) b)) else Acc [b] M (upd H3 p (.lst [.int 1, .int many])) H6 Lb (PCs ns (j + 1)) ∧ Box (Lb :: M) H6 b := by
        intro H6 σ c B2 bx6 h3 h8
        cases c with
        | false => exact iteF ⟨B2.as fun G o ⟨us, cs, h1, h2, h3, h4⟩ => ⟨us, cs, h1, h2, by rw [take_get hx2]; exact h3.trans (List.sublist_append_left _ _), h4⟩, bx6⟩
        | true =>
          refine iteT ⟨by show 3 ≤ sizeLine; decide, fun p2 np2 => ?_⟩
          have e2 := same_new np2 (.lst [.str "p", .str "q", .str "r"])
          have hL5 := off_at (B2.so _ _ hLo4)
          refine ⟨_, h8, p2, _, _, _, rfl, rfl, SqL.of upd_same, at_of (j := j) (by omega) hx, _, h3, _, h8, L, _, _, .str t, rfl, rfl, SqL.of (e2 _ _ hL5), at_of (j := j) (by omega) (get_strs ht), by show 2 ≤ sizeLine; decide, fun p3 np3 => ?_⟩
          have e3 := same_new np3 (.tup [.str x, .str t])
          have e23 := e2.trans e3
          have B3 := B2.step PCs.mono (Stp.of_same e23)
          obtain ⟨_, hL2, us, cs, rfl, f1, f2, f3⟩ := id B2.ex
          have hul : us.length ≤ 3 := by
            rw [f1.length]
            have h1 := f2.length_le
            rw [List.length_map, List.length_take] at h1
            exact Nat.le_trans h1 (Nat.min_le_right _ _)
          refine ⟨_, e23 _ _ hL2, line_lt (by omega), B3.set ⟨us ++ [.ref p3], cs ++ [(x, t)], rfl, paired_append (L2.Paired.mapP f1 fun _ _ z => z.same (offs_same e23)) (.cons ⟨p3, rfl, off_in B2.alp (e2.free np3) upd_same⟩ .nil), ?_, fun c hc => ?_⟩ PCs.mono, (bx6.same e23).put (by simp) (bx4.ne nL2)⟩
          · rw [take_get hx2, List.map_append]
            exact f2.append (List.Sublist.refl _)
          · rcases List.mem_append.mp hc with hc | hc
            · exact f3 c hc
            · rw [List.mem_singleton.mp hc]
              exact htn
      refine ⟨rfl, _, rfl, rfl, _, rfl, ?_⟩
      by_cases c0 : V.int (0 + (j : Int)) = V.int 0
      · refine ifT c0 ?_
        exact elt (c := true) B1 bx5 rfl rfl
      · refine ifF c0 ?_
        refine ⟨_, rfl, b, 4, Lb :: M, rfl, by decide, bx5, fun z H6 z0 z9 st6 bx6 => ?_⟩
        refine ⟨_, _, rfl, rfl, _, rfl, ?_⟩
        exact elt (B1.step PCs.mono st6) bx6 rfl rfl
    rintro H5 ⟨B1, bx5⟩
    have bx5 := bx5.less bx0.mem
    obtain ⟨_, hL2, vs, gs, rfl, g1, g2, g3⟩ := id B1.ex
    refine ⟨_, rfl, Lb, vs, rfl, .inl ⟨SqL.of hL2, fun tp ntp => ?_⟩⟩
    have e5 := same_new ntp (.tup vs)
    refine ⟨by show 2 ≤ sizeLine; decide, fun p2 np2 => ?_⟩
    have e6 := same_new np2 (.lst [.non, .str "fallback"])
    have e56 := e5.trans e6
    refine ⟨_, rfl, b, 2, M, rfl, by decide, bx5.same e56, fun z H6 z0 z9 st6 bx6 => ?_⟩
    have np2b : p2 ≠ b := (bx5.same e5).ne np2
    have hp6 : H6 p2 = some (.lst [.non, .str "fallback"]) := st6.keep _ _ (by simpa using np2b) upd_same
    obtain ⟨y, fb, hy, hfb, hfb2⟩ : ∃ (y : V) (fb : Fb), ([.non, .str "fallback"] : List V)[z.toNat]? = some y ∧ (∀ G, RepFb G y fb) ∧ ∀ d, fb ≠ .val d := by
      have : z.toNat = 0 ∨ z.toNat = 1 := by omega
      rcases this with h | h <;> rw [h]
      · exact ⟨.non, .non, rfl, fun G => rfl, fun d h => by cases h⟩
      · exact ⟨.str "fallback", .mark, rfl, fun G => rfl, fun d h => by cases h⟩
    refine ⟨p2, _, _, y, rfl, rfl, SqL.of hp6, at_of (j := z.toNat) (by omega) hy, by show 3 ≤ sizeLine; decide, fun a na => ?_⟩
    have e7 := same_new na (.tup [.str "choice", .ref tp, y])
    have so : Same (off (Lb :: M) H5) (off M _) := ((off_less).trans (offs_same e56)).trans ((st6.offb bx0.mem).trans (offs_same e7))
    have htp : off M _ tp = some (.tup vs) := (offs_same e7) _ _ ((st6.offb bx0.mem) _ _ (off_in bx5.al ntp (e6 _ _ upd_same)))
    have g2' := g2.trans (List.take_sublist _ _)
    refine q _ _ (.cho gs fb) ((st23.trans ((Stp.of_same e1).trans B1.st)).trans ((Stp.of_same e56).trans (st6.trans (Stp.of_same e7)))) (bx6.same e7) ⟨a, rfl, tp, vs, y, off_in bx6.al na upd_same, htp, L2.Paired.mapP g1 fun _ _ z => z.same so, hfb _⟩ ⟨?_, g2'.nodup pqr_nd, fun c hc => ⟨nm1_of (pqrN _ (g2'.subset (List.mem_map_of_mem hc))), g3 c hc⟩⟩ hfb2
    have h1 := g2'.length_le
    rw [List.length_map] at h1
    exact Nat.le_trans h1 (by decide)
end
end Ff
/-! The law, 10: definitions with nothing filled in. -/
namespace Ff
open PySem L2 C8
abbrev abcd : List Str := ["a", "b", "c", "d"]
theorem abcd_nd : abcd.Nodup := by decide +kernel
theorem abcd_not8 : ∀ x ∈ abcd, x ∉ names8 := by decide +kernel
/-- definitions of the names of F -/
structure ShF (F : Dfs) (b : Nat) : Prop where
  nd : (F.map (·.1)).Nodup
  sub : ∀ x ∈ F.map (·.1), x ∈ abcd
  ne : 0 < F.length
  df : ∀ e ∈ F, ShD (F.map (·.1)) b e.2
theorem ShF.len {F : Dfs} {b : Nat} (h : ShF F b) : F.length ≤ 4 := by
  have := nd_len _ abcd h.nd h.sub
  rw [List.length_map] at this
  exact this
theorem ShF.mono {F : Dfs} {b b' : Nat} (h : ShF F b) (hb : b ≤ b') : ShF F b' := ⟨h.nd, h.sub, h.ne, fun e he => (h.df e he).mono hb⟩
theorem ShF.tbf {F : Dfs} (h : ShF F 100) : TbF F := ⟨h.len, fun nm df hl => (h.df _ (look_mem hl)).tb⟩
/-- a dict of definitions that is still to be changed -/
def RepDp (M : List Addr) (H : Hp) (p : Addr) (F : Dfs) : Prop := ∃ kvs, H p = some (.dK kvs) ∧ Paired (RepE (off (p :: M) H)) kvs F
theorem RepDp.ds {M : List Addr} {H : Hp} {p : Addr} {F : Dfs} (h : RepDp M H p F) (hp : p ∉ M) : RepDs (off M H) p F := by
  obtain ⟨kvs, h1, h2⟩ := h
  exact ⟨kvs, off_some.mpr ⟨hp, h1⟩, L2.Paired.mapP h2 fun _ _ z => ⟨z.1, z.2.same off_less⟩⟩
def PDs (ns : List Str) (Ok : Str × Df → Prop) (G : Hp) (o : HO) : Prop := ∃ kvs F, o = .dK kvs ∧ Paired (RepE G) kvs F ∧ F.map (·.1) = ns ∧ ∀ e ∈ F, Ok e
theorem PDs.mono {ns : List Str} {Ok : Str × Df → Prop} : Mono (PDs ns Ok) := fun _ _ _ ⟨kvs, F, h1, h2, h3⟩ s => ⟨kvs, F, h1, L2.Paired.mapP h2 fun _ _ z => ⟨z.1, z.2.same s⟩, h3⟩
/-- one more definition, of a new name -/
theorem PDs.add {ns : List Str} {Ok : Str × Df → Prop} {G : Hp} {kvs : List (Key × V)} {nm : Str} {v : V} {df : Df} (h : PDs ns Ok G (.dK kvs)) (hn : nm ∉ ns) (hv : RepDf G v df) (ok : Ok (nm, df)) : PDs (ns ++ [nm]) Ok G (.dK (putK kvs (Sum.inr nm) v)) := by
  obtain ⟨_, F, h1, h2, h3, h4⟩ := h
  cases h1
  have hk : valV kvs (Sum.inr nm) = none := by
    refine valV_none_of ?_
    rw [keys_ofE h2, h3]
    intro hm
    obtain ⟨y, hy, e⟩ := List.mem_map.mp hm
    exact hn (Sum.inr.inj e ▸ hy)
  refine ⟨_, F ++ [(nm, df)], by rw [putK_new _ hk], paired_append h2 (.cons ⟨rfl, hv⟩ .nil), by rw [List.map_append, h3]; rfl, fun e he => ?_⟩
  rcases List.mem_append.mp he with he | he
  · exact h4 e he
  · rw [List.mem_singleton.mp he]
    exact ok
theorem nodup_at {ns : List Str} {i : Nat} {x : Str} (nd : ns.Nodup) (h : ns[i]? = some x) : x ∉ ns.take i := by
  intro hm
  obtain ⟨hlt, e⟩ := List.getElem?_eq_some_iff.mp h
  have e2 : ns = ns.take i ++ x :: ns.drop (i + 1) := by rw [← e, ← List.drop_eq_getElem_cons hlt, List.take_append_drop]
  rw [e2] at nd
  exact (List.nodup_append.mp nd).2.2 _ hm _ List.mem_cons_self rfl
theorem paired_gd {α β : Type} {R R' : α → β → Prop} {P : β → Prop} : ∀ {xs : List α} {ys : List β}, Paired R xs ys → (∀ y ∈ ys, P y) → (∀ x y, True → R x y → P y → R' x y) → Paired R' xs ys
  | _, _, .nil, _, _ => .nil
  | _, _, .cons r t, h, f => .cons (f _ _ trivial r (h _ List.mem_cons_self)) (paired_gd t (fun y hy => h y (List.mem_cons_of_mem _ hy)) f)
/-- a value whose names are not a, b, c, d does not reach a dict of definitions -/
theorem rep_avoid {b : Nat} {G G' : Hp} {dd : Addr} {k : Str} {v0 : V} {r0 : List (Key × V)} (hd : G dd = some (.dK ((Sum.inr k, v0) :: r0))) (hk : k ∉ names8) (hs : ∀ a o, a ≠ dd → G a = some o → G' a = some o) : ∀ (n : Nat) (v : V) (d : D), Rep n G v d → d.gd b → Rep n G' v d := by
  intro n
  induction n with
  | zero =>
    intro v d h g
    cases d with
    | int i => exact h
    | str s => exact h
    | lst ds =>
      obtain ⟨a, vs, e, ha, p⟩ := h
      exact ⟨a, vs, e, hs _ _ (fun z => by rw [z, hd] at ha; cases ha) ha, p⟩
    | rcd fs =>
      obtain ⟨a, vs, e, ha, nd, p⟩ := h
      refine ⟨a, vs, e, hs _ _ (fun z => ?_) ha, nd, p⟩
      rw [z, hd] at ha
      cases ha
      cases p with
      | cons r t => exact r.2
    | cho t x =>
      obtain ⟨a, y, e, ha, p⟩ := h
      exact p.elim
  | succ n ih =>
    intro v d h g
    cases d with
    | int i => exact h
    | str s => exact h
    | lst ds =>
      obtain ⟨a, vs, e, ha, p⟩ := h
      simp only [D.gd] at g
      refine ⟨a, vs, e, hs _ _ (fun z => by rw [z, hd] at ha; cases ha) ha, ?_⟩
      exact paired_gd p (gdL_iff.mp g) fun v d _ z1 z2 => ih v d z1 z2
    | rcd fs =>
      obtain ⟨a, vs, e, ha, nd, p⟩ := h
      simp only [D.gd] at g
      refine ⟨a, vs, e, hs _ _ (fun z => ?_) ha, nd, ?_⟩
      · rw [z, hd] at ha
        cases ha
        cases p with
        | cons r t =>
          have h1 := Sum.inr.inj r.1
          have h2 := (gdF_iff.mp g _ List.mem_cons_self).1.2.2
          rw [← h1] at h2
          exact hk h2
      · exact paired_gd p (gdF_iff.mp g) fun v d _ z1 z2 => ⟨z1.1, ih _ _ z1.2 z2.2⟩
    | cho t x =>
      obtain ⟨a, y, e, ha, p⟩ := h
      simp only [D.gd] at g
      exact ⟨a, y, e, hs _ _ (fun z => by rw [z, hd] at ha; cases ha) ha, ih _ _ p g.2⟩
/-- what is filled in is small -/
def gdD : Df → Prop
  | .rcd fs => ∀ f ∈ fs, ∀ d, f.pr = .dft d → d.gd 1000
  | .cho _ fb => ∀ d, fb = .val d → d.gd 1000
  | _ => True
theorem repDf_avoid {G G' : Hp} {dd : Addr} {k : Str} {v0 : V} {r0 : List (Key × V)} (hd : G dd = some (.dK ((Sum.inr k, v0) :: r0))) (hk : k ∉ names8) (hs : ∀ a o, a ≠ dd → G a = some o → G' a = some o) {v : V} {df : Df} (h : RepDf G v df) (g : gdD df) : RepDf G' v df := by
  obtain ⟨a, e, h⟩ := h
  have tup : ∀ {a : Addr} {xs : List V}, G a = some (.tup xs) → G' a = some (.tup xs) := fun ha => hs _ _ (fun z => by rw [z, hd] at ha; cases ha) ha
  refine ⟨a, e, ?_⟩
  cases df <;> dsimp only at h ⊢
  case rcd fs =>
    obtain ⟨b, xs, h1, h2, h3⟩ := h
    refine ⟨b, xs, tup h1, tup h2, paired_gd h3 g fun v f _ z1 z2 => ?_⟩
    obtain ⟨c, e, z1⟩ := z1
    refine ⟨c, e, ?_⟩
    cases hp : f.pr <;> rw [hp] at z1 <;> dsimp only at z1 ⊢
    case dft d =>
      obtain ⟨x, y1, y2⟩ := z1
      exact ⟨x, tup y1, rep_avoid hd hk hs 3 _ _ y2 (z2 d hp)⟩
    all_goals exact tup z1
  case cho cs fb =>
    obtain ⟨b, xs, y, h1, h2, h3, h4⟩ := h
    refine ⟨b, xs, y, tup h1, tup h2, L2.Paired.mapP h3 fun v c z => ?_, ?_⟩
    · obtain ⟨c, e, z⟩ := z
      exact ⟨c, e, tup z⟩
    · cases fb with
      | val d => exact rep_avoid hd hk hs 3 _ _ h4 (g d rfl)
      | _ => exact h4
  all_goals exact tup h
def barePr : Pr → Pr
  | .dft _ => .mark
  | p => p
def bareFd (f : Fd) : Fd := ⟨f.nm, f.ty, barePr f.pr⟩
def bareFb : Fb → Fb
  | .val _ => .mark
  | f => f
def bareD : Df → Df
  | .rcd fs => .rcd (fs.map bareFd)
  | .cho cs fb => .cho cs (bareFb fb)
  | d => d
theorem bareD_sh {ns : List Str} {b : Nat} {df : Df} (h : ShD ns b df) : ShD ns b (bareD df) := by
  cases df with
  | rcd fs =>
    refine ⟨by rw [List.length_map]; exact h.1, by rw [List.map_map]; exact h.2.1, fun f hf => ?_⟩
    obtain ⟨g, hg, rfl⟩ := List.mem_map.mp hf
    exact h.2.2 g hg
  | cho cs fb => exact h
  | _ => exact h
theorem bareD_pl {df : Df} : PlD (bareD df) := by
  cases df with
  | rcd fs =>
    intro f hf d e
    obtain ⟨g, hg, rfl⟩ := List.mem_map.mp hf
    have e : barePr g.pr = .dft d := e
    cases h : g.pr <;> rw [h] at e <;> cases e
  | cho cs fb =>
    intro d e
    cases fb <;> cases e
  | _ => trivial
theorem sIx3 (n : Nat) : HT.sIx n n (some (3 : Int)) = min 3 n := HT.sIx_nat n n 3
/-- field[:3] -/
theorem bare_fd {K : PySem.W.Frag} {G : Hp} {v : V} {f : Fd} (h : RepFd G v f) : ∃ a xs, v = .ref a ∧ G a = some (.tup xs) ∧ ((xs.length = 3 ∧ RepFd G v (bareFd f)) ∨ (xs.length = 4 ∧ ∀ G' p, G' p = some (.tup (cutV xs none (some (3 : Int)))) → RepFd G' (.ref p) (bareFd f))) := by
  obtain ⟨a, e, h'⟩ := id h
  cases hp : f.pr <;> rw [hp] at h' <;> dsimp only at h'
  case dft d =>
    obtain ⟨x, h1, _⟩ := h'
    refine ⟨a, _, e, h1, .inr ⟨rfl, fun G' p hp' => ?_⟩⟩
    have e3 : cutV [V.str f.nm, V.str f.ty, V.str "default", x] none (some (3 : Int)) = [V.str f.nm, V.str f.ty, V.str "default"] := cut_take (j := 3) (by show 3 ≤ 4; decide)
    rw [e3] at hp'
    unfold bareFd
    rw [hp]
    exact ⟨p, rfl, hp'⟩
  all_goals
    refine ⟨a, _, e, h', .inl ⟨rfl, ?_⟩⟩
    unfold bareFd
    rw [hp]
    exact ⟨a, e, h'⟩
section
variable {P : Program} {w : World} {K : PySem.W.Frag} {mg : Str → Option Value} {base : Heap} {C kA : Addr}
def spPlain : Sp := fun vs H Q _ => ∃ (b : Addr) (M : List Addr), vs = [.ref b] ∧ Box M H b ∧ ∀ p H' F, Stp [b] H H' → Box M H' b → H p = none → RepDs (off M H') p F → ShF F 10 → (∀ e ∈ F, PlD e.2) → Q (.ref p) H'
theorem ok_plain (h : Has K mg "_law_plain" s_l_plain p_l_plain) (T : Txt K mg C kA) (c_l_draw : Cal P w K mg base 1 "_law_draw" spDraw []) (c_l_definition : Cal P w K mg base 2 "_law_definition" spDef []) : Cal P w K mg base 3 "_law_plain" spPlain [] := by
  refine h.cal sc_l_plain (fun vs H Q E h => ?_) (fun f cdv A outer s H vs Q E hr h => ?_)
  · obtain ⟨b, M, rfl, _⟩ := h
    rfl
  obtain ⟨b, M, rfl, bx0, q⟩ := h
  refine ⟨_, (pss_cons (ps_set (i := 1) sc_l_plain.nd rfl (Or.inl rfl) (pe_slice sl_list (pe_lst (pa_cons pe_str (pa_cons pe_str (pa_cons pe_str (pa_cons pe_str pa_nil))))) po_none (po_some (pe_op op_add pe_int (pe_c c_l_draw hr (by omega) rfl (pa_cons (pv 0) (pa_cons pe_int pa_nil)))))))
      (pss_cons (ps_set (i := 2) sc_l_plain.nd rfl (Or.inl rfl) pe_dnewK)
      (pss_cons (ps_for PassesOwn.never rfl (pi_list (pv 1)) (pg_name (i := 3) sc_l_plain.nd rfl (Or.inl rfl))
        (pss_one (ps_dput (hu_of hr) (pv 2) (pv 3) (pe_c c_l_definition hr (by omega) rfl (pa_cons (pv 0) (pa_cons (pv 1) pa_nil))) rfl)))
      (pss_one (ps_ret (pv 2)))))), ?_⟩
  refine ⟨by show 4 ≤ sizeLine; decide, fun p0 n0 => ?_⟩
  have e0 := same_new n0 (.lst (abcd.map V.str))
  refine ⟨_, rfl, b, 4, M, rfl, by decide, bx0.same e0, fun z H1 z0 z4 st1 bx1 => ?_⟩
  have n0b : p0 ≠ b := bx0.ne n0
  have hp1 : H1 p0 = some (.lst (abcd.map V.str)) := st1.keep _ _ (by simpa using n0b) upd_same
  refine ⟨_, _, rfl, rfl, _, rfl, p0, _, rfl, SqL.of hp1, fun l nl => ?_⟩
  obtain ⟨k, rfl⟩ : ∃ k : Nat, z = (k : Int) := ⟨z.toNat, by omega⟩
  have ec : cutV (abcd.map V.str) none (some (1 + (k : Int))) = (abcd.take (k + 1)).map V.str := by
    rw [show (1 + (k : Int)) = ((k + 1 : Nat) : Int) by omega, cut_take (by show k + 1 ≤ 4; omega), List.map_take]
  have e1 := same_new nl (.lst (cutV (abcd.map V.str) none (some (1 + (k : Int)))))
  have bx2 := bx1.same e1
  have hl2 : off M (upd H1 l (.lst (cutV (abcd.map V.str) none (some (1 + (k : Int)))))) l = some (.lst ((abcd.take (k + 1)).map V.str)) := by
    rw [← ec]
    exact off_in bx1.al nl upd_same
  intro p np
  have nsnd : (abcd.take (k + 1)).Nodup := abcd_nd.sublist (List.take_sublist _ _)
  have A0 : Acc [b] M _ (upd _ p (.dK [])) p (PDs ((abcd.take (k + 1)).take 0) fun e => ShD (abcd.take (k + 1)) 10 e.2 ∧ PlD e.2) := Acc.new np bx2.al (by simpa using bx0.mem) fun G => ⟨[], [], rfl, .nil, rfl, by simp⟩
  have hpb : p ≠ b := bx2.ne np
  refine ⟨_, rfl, l, rfl, ⟨_, SqL.of (off_at (A0.so _ _ hl2))⟩, ?_⟩
  refine for_list (K := K) (xs := (abcd.take (k + 1)).map V.str) (fun j σ H' => Acc [b] M _ H' p (PDs ((abcd.take (k + 1)).take j) fun e => ShD (abcd.take (k + 1)) 10 e.2 ∧ PlD e.2) ∧ Box (p :: M) H' b ∧ ∃ (x3 : Option V), σ = [some (.ref b), some (.ref l), some (.ref p), x3])
    ⟨A0, bx2.also np, _, rfl⟩ (fun j σ H' _ h => SqL.of (off_at (h.1.so _ _ hl2))) ?_ ?_
  · rintro j x σ H2 hx ⟨A1, bx3, x3, rfl⟩
    obtain ⟨nm, rfl, hnm⟩ := strs_get hx
    refine ⟨_, rfl, _, rfl, b, l, p :: M, abcd.take (k + 1), rfl, bx3, A1.so _ _ hl2, by rw [List.length_take]; show 0 < min _ 4; omega, fun v H3 df st3 bx4 hv hsh hpl => ?_⟩
    have A2 := A1.step PDs.mono st3
    obtain ⟨o, hpo, hP⟩ := id A2.ex
    obtain ⟨kvs, F, rfl, h2, h3, h4⟩ := id hP
    have hkl : kvs.length ≤ 4 := by
      have h1 := h2.length
      have h5 := congrArg List.length h3
      rw [List.length_map, List.length_take, List.length_take] at h5
      have : abcd.length = 4 := rfl
      omega
    refine ⟨_, rfl, _, rfl, p, _, rfl, DPut.k (k := Sum.inr nm) hpo (line_lt (by omega)), ?_⟩
    refine ⟨?_, bx4.put (by simp) hpb, _, rfl⟩
    rw [take_get hnm]
    exact A2.set (hP.add (nodup_at nsnd hnm) hv ⟨hsh, hpl⟩) PDs.mono
  · rintro σ H2 ⟨A1, bx3, x3, rfl⟩
    rw [List.length_map, List.take_length] at A1
    obtain ⟨_, hpo, kvs, F, rfl, h2, h3, h4⟩ := id A1.ex
    have st : Stp [b] H H2 := (Stp.of_same e0).trans (st1.trans ((Stp.of_same e1).trans A1.st))
    have npH : H p = none := e0.free (st1.al _ (e1.free np))
    refine ⟨_, rfl, q p H2 F st (bx3.less bx0.mem) npH ⟨kvs, off_in bx0.al npH hpo, L2.Paired.mapP h2 fun _ _ z => ⟨z.1, z.2.same off_less⟩⟩ ⟨by rw [h3]; exact nsnd, by rw [h3]; exact fun x hx => (List.take_sublist _ _).subset hx, ?_, fun e he => by rw [h3]; exact (h4 e he).1⟩ fun e he => (h4 e he).2⟩
    have h5 := congrArg List.length h3
    rw [List.length_map, List.length_take] at h5
    have : abcd.length = 4 := rfl
    omega
end
end Ff
/-! The law, 11: definitions laid bare. -/
namespace Ff
open PySem L2 C8
def PDx (F : Dfs) (G : Hp) (o : HO) : Prop := ∃ kvs, o = .dK kvs ∧ Paired (RepE G) kvs F
theorem PDx.mono {F : Dfs} : Mono (PDx F) := fun _ _ _ ⟨kvs, h1, h2⟩ s => ⟨kvs, h1, L2.Paired.mapP h2 fun _ _ z => ⟨z.1, z.2.same s⟩⟩
theorem PDx.add {F : Dfs} {G : Hp} {kvs : List (Key × V)} {nm : Str} {v : V} {df : Df} (h : PDx F G (.dK kvs)) (hn : nm ∉ F.map (·.1)) (hv : RepDf G v df) : PDx (F ++ [(nm, df)]) G (.dK (putK kvs (Sum.inr nm) v)) := by
  obtain ⟨_, h1, h2⟩ := h
  cases h1
  have hk : valV kvs (Sum.inr nm) = none := by
    refine valV_none_of ?_
    rw [keys_ofE h2]
    intro hm
    obtain ⟨y, hy, e⟩ := List.mem_map.mp hm
    exact hn (Sum.inr.inj e ▸ hy)
  exact ⟨_, by rw [putK_new _ hk], paired_append h2 (.cons ⟨rfl, hv⟩ .nil)⟩
def PFx (fs : List Fd) (G : Hp) (o : HO) : Prop := ∃ us, o = .lst us ∧ Paired (RepFd G) us fs
theorem PFx.mono {fs : List Fd} : Mono (PFx fs) := fun _ _ _ ⟨kvs, h1, h2⟩ s => ⟨kvs, h1, L2.Paired.mapP h2 fun _ _ z => z.same s⟩
abbrev bareE (e : Str × Df) : Str × Df := (e.1, bareD e.2)
/-- the tag of a definition that is no record and no choice -/
theorem tag_of {G : Hp} {v : V} {df : Df} (h : RepDf G v df) : (∃ a tag xs, v = .ref a ∧ G a = some (.tup (.str tag :: xs)) ∧ (tag : Str) ≠ "record" ∧ tag ≠ "choice" ∧ bareD df = df) ∨ (∃ fs, df = .rcd fs) ∨ ∃ cs fb, df = .cho cs fb := by
  obtain ⟨a, e, h⟩ := h
  cases df <;> dsimp only at h
  case rcd fs => exact .inr (.inl ⟨_, rfl⟩)
  case cho cs fb => exact .inr (.inr ⟨_, _, rfl⟩)
  all_goals exact .inl ⟨a, _, _, e, h, by decide +kernel, by decide +kernel, rfl⟩
def BarN (dd : Addr) (od : Obj) (kvs : List (Key × V)) (M : List Addr) (H : Hp) (p : Addr) (Fj : Dfs) : L2.St → Hp → Prop := fun σ H' => Acc [dd] (dd :: M) H H' p (PDx Fj) ∧ H' dd = some (.frz od (.dK kvs)) ∧ ∃ (x2 x3 x4 : Option V), σ = [some (.ref dd), some (.ref p), x2, x3, x4]
def BarJ (dd : Addr) (od : Obj) (kvs : List (Key × V)) (M : List Addr) (H : Hp) (p : Addr) (Fj : Dfs) (nm : Str) (df1 : Df) : L2.St → Hp → Prop := fun σ' H' => Acc [dd] (dd :: M) H H' p (PDx Fj) ∧ H' dd = some (.frz od (.dK kvs)) ∧
  ∃ (v1 : V) (x4 : Option V), RepDf (off (p :: dd :: M) H') v1 df1 ∧ σ' = [some (.ref dd), some (.ref p), some (.str nm), some v1, x4]
theorem bar_fin {dd : Addr} {od : Obj} {kvs : List (Key × V)} {M : List Addr} {H : Hp} {p : Addr} {Fj : Dfs} {nm : Str} {df1 : Df} (hn : nm ∉ Fj.map (·.1)) (hl : Fj.length ≤ 4) {N : Ends} (hN : ∀ σ H', BarN dd od kvs M H p (Fj ++ [(nm, df1)]) σ H' → N.nx σ H') {σ : L2.St} {H' : Hp} (h : BarJ dd od kvs M H p Fj nm df1 σ H') : sDPut (tVar 1) (tVar 2) (tVar 3) N σ H' := by
  obtain ⟨A1, hfz, v1, x4, hv, rfl⟩ := h
  obtain ⟨o, hpo, hP⟩ := id A1.ex
  obtain ⟨kt, rfl, h2⟩ := id hP
  have hkl := h2.length
  have npd : p ≠ dd := fun e => A1.nm (by rw [e]; simp)
  refine ⟨_, rfl, _, rfl, _, rfl, p, _, rfl, DPut.k (k := Sum.inr nm) hpo (line_lt (by omega)), ?_⟩
  refine hN _ _ ⟨?_, by rw [upd_ne npd.symm]; exact hfz, _, _, _, rfl⟩
  exact A1.set (hP.add hn hv) PDx.mono
section
variable {P : Program} {w : World} {K : PySem.W.Frag} {mg : Str → Option Value} {base : Heap} {C kA : Addr}
def spBare : Sp := fun vs H Q _ => ∃ (dd : Addr) (M : List Addr) (F : Dfs) (b : Nat), vs = [.ref dd] ∧ Al M H ∧ RepDs (off M H) dd F ∧ ShF F b ∧ (∀ e ∈ F, gdD e.2) ∧ ∀ p H', Same H H' → H p = none → RepDp M H' p (F.map bareE) → Q (.ref p) H'
theorem ok_bare (h : Has K mg "_law_bare" s_l_bare p_l_bare) (T : Txt K mg C kA) : Cal P w K mg base 1 "_law_bare" spBare [] := by
  refine h.cal sc_l_bare (fun vs H Q E h => ?_) (fun f cdv A outer s H vs Q E hr h => ?_)
  · obtain ⟨dd, M, F, b, rfl, _⟩ := h
    rfl
  obtain ⟨dd, M, F, b, rfl, al, ⟨kvs, hdd, hp0⟩, sh, hgd, q⟩ := h
  refine ⟨_, (pss_cons (ps_set (i := 1) sc_l_bare.nd rfl (Or.inl rfl) pe_dnewK)
      (pss_cons (ps_lock (ps_for PassesOwn.never rfl (pi_keys (pv 0)) (pg_name (i := 2) sc_l_bare.nd rfl (Or.inl rfl))
        (pss_cons (ps_set (i := 3) sc_l_bare.nd rfl (Or.inl rfl) (pe_dget (hu_of hr) (pv 0) (pv 2) (fun _ _ => rfl)))
        (C8.pss_cut (ps_if (pt_cmpR op_eq (pe_ix ix_tup (pv 3) pe_int (fun _ _ => rfl)) pe_str (nomark _)) (pss_one (ps_set (i := 3) sc_l_bare.nd rfl (Or.inl rfl) (pe_tup (pa_cons pe_str (pa_cons (pe_callTy call_tuple_of rfl T.z_tuple (by decide +kernel) (pa_cons (pe_lc (own := [("_law_field", 4)]) (g := gName 4) (tt := tYes) rfl sc_l_bare.nd (pi_tup (pe_ix ix_tup (pv 3) pe_int (fun _ _ => rfl))) (blkOk_by (own := [("_law_field", 4)]) (N := n_l_bare) (sc := fnScope s_l_bare) (by decide +kernel)) (fun _ _ _ _ _ => pg_name (i := 4) sc_l_bare.nd rfl (Or.inl rfl)) (fun _ _ _ _ _ => pts_nil) (fun _ _ _ _ _ => (pe_slice (sl_tupAK (K := K) rfl) (pv 4) po_none (po_some pe_int)))) pa_nil)) pa_nil))))) pss_nil)
        (C8.pss_cut (ps_if (PW.pt (pw_and (pt_cmpR op_eq (pe_ix ix_tup (pv 3) pe_int (fun _ _ => rfl)) pe_str (nomark _)) (pw_and1 (pt_cmpR op_notN (pe_ix ix_tup (pv 3) pe_int (fun _ _ => rfl)) pe_non (nomark _))))) (pss_one (ps_set (i := 3) sc_l_bare.nd rfl (Or.inl rfl) (pe_tup (pa_cons pe_str (pa_cons (pe_ix ix_tup (pv 3) pe_int (fun _ _ => rfl)) (pa_cons pe_str pa_nil)))))) pss_nil)
        (pss_one (ps_dput (hu_of hr) (pv 1) (pv 2) (pv 3) rfl)))))))
      (pss_one (ps_ret (pv 1))))), ?_⟩
  have hddM := (off_some.mp hdd).1
  -- the definitions do not reach the dict
  have hp : Paired (RepE (off (dd :: M) H)) kvs F := by
    have hne := sh.ne
    have hsub := sh.sub
    cases hk : kvs with
    | nil =>
      rw [hk] at hp0
      cases hp0
      exact absurd hne (by simp)
    | cons kv0 r0 =>
      obtain ⟨k0, v0⟩ := kv0
      rw [hk] at hp0 hdd
      cases F with
      | nil => cases hp0
      | cons f0 F =>
        have hk0 : k0 = Sum.inr f0.1 := by cases hp0 with | cons r t => exact r.1
        subst hk0
        have hn8 := abcd_not8 f0.1 (hsub _ (by simp))
        refine paired_gd hp0 hgd fun x y _ z1 z2 => ⟨z1.1, repDf_avoid hdd hn8 (fun a o ha h => ?_) z1.2 z2⟩
        obtain ⟨h1, h2⟩ := off_some.mp h
        exact off_some.mpr ⟨by simp [ha, h1], h2⟩
  intro p np
  have nepd : p ≠ dd := fun e => by rw [e, off_at hdd] at np; cases np
  refine ⟨dd, .dK kvs, by rw [upd_ne nepd.symm]; exact off_at hdd, trivial, fun od => ?_⟩
  have alM : Al (dd :: M) H := al.cons (off_at hdd)
  have A0 : Acc [dd] (dd :: M) H (upd (upd H p (.dK [])) dd (.frz od (.dK kvs))) p (PDx ((F.take 0).map bareE)) := ⟨np, alM, by simp, (Stp.new np).trans (Stp.put (by simp)), .dK [], by rw [upd_ne nepd, upd_same], [], rfl, .nil⟩
  refine ⟨_, rfl, dd, od, rfl, .inl ⟨kvs, upd_same, ?_⟩⟩
  refine for_it (walk_keys (d := dd) (o := od) (kvs := kvs)) (fun j σ H' => BarN dd od kvs M H p ((F.take j).map bareE) σ H')
    ⟨A0, upd_same, _, _, _, rfl⟩ (fun j σ H' _ h => h.2.1) ?_ ?_
  · rintro j x σ H1 H1' hj ⟨A1, hfz, x2, x3, x4, rfl⟩ ⟨rfl, k, v', hk, rfl⟩
    obtain ⟨⟨nm, df⟩, hFj, e, _⟩ := paired_get hp hk
    obtain rfl : k = Sum.inr nm := e
    have hmem := List.mem_of_getElem? hFj
    have hlook := look_at sh.nd hmem
    rcases look_def nm hp with ⟨e1, _⟩ | ⟨v, df', e1, e2, e3⟩
    · rw [e1] at hlook; cases hlook
    rw [e1] at hlook
    cases hlook
    have e3 : RepDf (off (p :: dd :: M) H1') v df := e3.same A1.so
    refine ⟨_, rfl, _, rfl, dd, v, rfl, .inl ⟨kvs, Sum.inr nm, .inr ⟨od, hfz⟩, rfl, e2.symm⟩, ?_⟩
    have hfresh : nm ∉ ((F.take j).map bareE).map (·.1) := by
      rw [List.map_map]
      show nm ∉ (F.take j).map (·.1)
      rw [List.map_take]
      exact nodup_at sh.nd (by rw [List.getElem?_map, hFj]; rfl)
    have hFl : ((F.take j).map bareE).length ≤ 4 := by
      have := sh.len
      rw [List.length_map, List.length_take]
      omega
    have hnext : ∀ {N : Ends}, N.nx = BarN dd od kvs M H p ((F.take (j + 1)).map bareE) → ∀ σ H', BarN dd od kvs M H p ((F.take j).map bareE ++ [(nm, bareD df)]) σ H' → N.nx σ H' := by
      intro N hN σ H' h
      rw [hN, take_get hFj, List.map_append]
      exact h
    rcases tag_of e3 with ⟨a, tag, xs, rfl, ha, t1, t2, hb⟩ | ⟨fs, rfl⟩ | ⟨cs, fb, rfl⟩
    · refine ⟨fun σ' H' => H' = H1' ∧ ∃ x4, σ' = [some (.ref dd), some (.ref p), some (.str nm), some (.ref a), x4], ?_, ?_⟩
      · exact ⟨_, rfl, a, _, _, .str tag, rfl, rfl, SqT.of (off_at ha), at_of (j := 0) rfl rfl, rfl, _, rfl, ifF (fun z => t1 (vstr.mp z)) ⟨rfl, _, rfl⟩⟩
      rintro σ' H2 ⟨rfl, x4, rfl⟩
      refine ⟨BarJ dd od kvs M H p ((F.take j).map bareE) nm (bareD df), ?_, ?_⟩
      · dsimp only [tIfS]
        refine and2 (a := false) (b := false) ?_ ?_ ?_
        · exact fun Q q => ⟨_, rfl, a, _, _, .str tag, rfl, rfl, SqT.of (off_at ha), at_of (j := 0) rfl rfl, rfl, _, rfl, by rw [decide_eq_false (fun z => t2 (vstr.mp z))]; exact q⟩
        · exact fun h => by cases h
        · exact iteF ⟨A1, hfz, _, _, by rw [hb]; exact e3, rfl⟩
      · exact fun σ H' h => bar_fin hfresh hFl (hnext rfl) h
    · -- a record
      obtain ⟨a, rfl, fa, us, ha, hfa, hfs⟩ := id e3
      have hul : us.length ≤ 3 := by rw [hfs.length]; exact (sh.df _ hmem).1
      refine ⟨fun σ' H' => Acc [dd] (dd :: M) H H' p (PDx ((F.take j).map bareE)) ∧ H' dd = some (.frz od (.dK kvs)) ∧ ∃ (a1 tp : Addr) (ws : List V) (x4 : Option V), off (p :: dd :: M) H' a1 = some (.tup [.str "record", .ref tp]) ∧ off (p :: dd :: M) H' tp = some (.tup ws) ∧ Paired (RepFd (off (p :: dd :: M) H')) ws (fs.map bareFd) ∧
        σ' = [some (.ref dd), some (.ref p), some (.str nm), some (.ref a1), x4], ?_, ?_⟩
      · refine ⟨_, rfl, a, _, _, .str "record", rfl, rfl, SqT.of (off_at ha), at_of (j := 0) rfl rfl, rfl, _, rfl, ifT rfl ?_⟩
        refine ⟨_, rfl, a, _, _, .ref fa, rfl, rfl, SqT.of (off_at ha), at_of (j := 1) rfl rfl, fa, rfl, ⟨_, SqT.of (off_at hfa)⟩, fun L nL => ?_⟩
        have B0 : Acc [] (p :: dd :: M) H1' (upd H1' L (.lst [])) L (PFx ((fs.take 0).map bareFd)) := Acc.new nL A1.alp (by simp) fun G => ⟨[], rfl, .nil⟩
        refine lc_tup (K := K) (xs := us) (fun i H' => Acc [] (p :: dd :: M) H1' H' L (PFx ((fs.take i).map bareFd))) B0 (fun i H' _ h => SqT.of (h.same _ _ (off_at hfa))) ?_ ?_
        · rintro i x H2 hx B1
          obtain ⟨f, hf, rf⟩ := paired_get hfs hx
          have rf2 := rf.same B1.so
          obtain ⟨fa2, xs2, rfl, hxs2, hcase⟩ := bare_fd (K := K) rf2
          obtain ⟨_, hL2, ws, rfl, hws⟩ := id B1.ex
          have hwl : ws.length ≤ 3 := by
            have := hws.length
            rw [List.length_map, List.length_take] at this
            have := hfs.length
            omega
          rw [take_get hf]
          refine ⟨rfl, _, rfl, _, rfl, fa2, xs2, rfl, SqT.of (off_at hxs2), fun hw => ?_, fun hw p2 np2 => ?_⟩
          · rcases hcase with ⟨_, hr⟩ | ⟨h4, _⟩
            · refine ⟨_, hL2, line_lt (by omega), B1.set ⟨_, rfl, ?_⟩ PFx.mono⟩
              rw [List.map_append]
              exact paired_append hws (.cons hr .nil)
            · have := hw.2
              rw [sIx3, h4] at this
              exact absurd this (by decide)
          · rcases hcase with ⟨h3, _⟩ | ⟨_, hr⟩
            · exact absurd ⟨rfl, by rw [sIx3, h3]; rfl⟩ hw
            · have e4 := same_new np2 (.tup (cutV xs2 none (some (3 : Int))))
              have B2 := B1.step PFx.mono (Stp.of_same e4)
              refine ⟨_, e4 _ _ hL2, line_lt (by omega), B2.set ⟨_, rfl, ?_⟩ PFx.mono⟩
              rw [List.map_append]
              exact paired_append (L2.Paired.mapP hws fun _ _ z => z.same (offs_same e4)) (.cons (hr _ _ (off_in B1.alp np2 upd_same)) .nil)
        · rintro H2 B1
          obtain ⟨_, hL2, ws, rfl, hws⟩ := id B1.ex
          have eall : fs.take us.length = fs := List.take_of_length_le (by rw [hfs.length]; exact Nat.le_refl _)
          rw [eall] at hws
          refine ⟨L, ws, rfl, .inl ⟨SqL.of hL2, fun tp ntp => ?_⟩⟩
          have e4 := same_new ntp (.tup ws)
          refine ⟨by show 2 ≤ sizeLine; decide, fun a2 na2 => ?_⟩
          have e5 := same_new na2 (.tup [.str "record", .ref tp])
          have e45 := e4.trans e5
          have sm := B1.same.trans e45
          have al3 := A1.alp.same B1.same
          refine ⟨A1.step PDx.mono (Stp.of_same sm), sm _ _ hfz, a2, tp, ws, _, off_in (al3.same e4) na2 upd_same, off_in al3 ntp (e5 _ _ upd_same), L2.Paired.mapP hws fun _ _ z => (z.same off_less).same (offs_same e45), rfl⟩
      rintro σ' H2 ⟨A2, hfz2, a1, tp, ws, x4, ha1, htp, hws, rfl⟩
      refine ⟨BarJ dd od kvs M H p ((F.take j).map bareE) nm (bareD (.rcd fs)), ?_, ?_⟩
      · dsimp only [tIfS]
        refine and2 (a := false) (b := false) ?_ ?_ ?_
        · exact fun Q q => ⟨_, rfl, a1, _, _, .str "record", rfl, rfl, SqT.of (off_at ha1), at_of (j := 0) rfl rfl, rfl, _, rfl, by rw [decide_eq_false (fun z => absurd (vstr.mp z) (by decide +kernel))]; exact q⟩
        · exact fun h => by cases h
        · exact iteF ⟨A2, hfz2, _, _, ⟨a1, rfl, tp, ws, ha1, htp, hws⟩, rfl⟩
      · exact fun σ H' h => bar_fin hfresh hFl (hnext rfl) h
    · -- a choice
      obtain ⟨a, rfl, ca, us, y, ha, hca, hcs, hfb⟩ := id e3
      refine ⟨fun σ' H' => H' = H1' ∧ ∃ x4, σ' = [some (.ref dd), some (.ref p), some (.str nm), some (.ref a), x4], ?_, ?_⟩
      · exact ⟨_, rfl, a, _, _, .str "choice", rfl, rfl, SqT.of (off_at ha), at_of (j := 0) rfl rfl, rfl, _, rfl, ifF (ne_str (by decide +kernel)) ⟨rfl, _, rfl⟩⟩
      rintro σ' H2 ⟨rfl, x4, rfl⟩
      refine ⟨BarJ dd od kvs M H p ((F.take j).map bareE) nm (bareD (.cho cs fb)), ?_, ?_⟩
      · dsimp only [tIfS]
        refine and2 (a := true) (b := !decide (y = .non)) ?_ ?_ ?_
        · exact fun Q q => ⟨_, rfl, a, _, _, .str "choice", rfl, rfl, SqT.of (off_at ha), at_of (j := 0) rfl rfl, rfl, _, rfl, by rw [decide_eq_true rfl]; exact q⟩
        · exact fun _ Q q => ⟨_, rfl, a, _, _, y, rfl, rfl, SqT.of (off_at ha), at_of (j := 2) rfl rfl, rfl, _, rfl, q⟩
        · rw [Bool.true_and]
          refine ifNS (fun hy => ?_) (fun hy => ?_)
          · have hmk : bareFb fb = .mark := by
              cases fb with
              | non => exact absurd hfb hy
              | _ => rfl
            refine ⟨_, rfl, a, _, _, .ref ca, rfl, rfl, SqT.of (off_at ha), at_of (j := 1) rfl rfl, by show 3 ≤ sizeLine; decide, fun a2 na2 => ?_⟩
            have e4 := same_new na2 (.tup [.str "choice", .ref ca, .str "fallback"])
            refine ⟨A1.step PDx.mono (Stp.of_same e4), e4 _ _ hfz, _, _, ⟨a2, rfl, ca, us, .str "fallback", off_in A1.alp na2 upd_same, (offs_same e4) _ _ hca, L2.Paired.mapP hcs fun _ _ z => z.same (offs_same e4), ?_⟩, rfl⟩
            rw [hmk]
            exact rfl
          · have hmk : bareFb fb = fb := by
              cases fb with
              | val d =>
                subst hy
                have hfb : Rep 3 _ V.non d := hfb
                rw [rep_eq] at hfb
                cases d <;> simp [repStep] at hfb
              | _ => rfl
            refine ⟨A1, hfz, _, _, ?_, rfl⟩
            show RepDf _ _ (.cho cs (bareFb fb))
            rw [hmk]
            exact e3
      · exact fun σ H' h => bar_fin hfresh hFl (hnext rfl) h
  · rintro σ H1 ⟨A1, hfz, x2, x3, x4, rfl⟩
    have efl : F.take kvs.length = F := List.take_of_length_le (by rw [hp.length]; exact Nat.le_refl _)
    rw [efl] at A1
    obtain ⟨_, hpo, kt, rfl, h2⟩ := id A1.ex
    refine ⟨hfz, ?_⟩
    have npd : p ≠ dd := nepd
    refine ⟨_, rfl, q p _ (fun c o hc => ?_) np ⟨kt, by rw [upd_ne npd]; exact hpo, L2.Paired.mapP h2 fun _ _ z => ⟨z.1, z.2.same ?_⟩⟩⟩
    · by_cases e : c = dd
      · subst e
        rw [off_at hdd] at hc
        cases hc
        exact upd_same
      · rw [upd_ne e]
        exact A1.st.keep c o (by simpa using e) hc
    · exact (Stp.put (M := p :: dd :: M) (by simp)).offs fun c hc => .inl (by
        rcases List.mem_cons.mp hc with rfl | hc
        · simp
        · simp [hc])
end
end Ff
/-! The law, 12: what is filled in (plain). -/
namespace Ff
open PySem L2 C8
def FlF (F : Dfs) (f f' : Fd) : Prop := f'.nm = f.nm ∧ f'.ty = f.ty ∧ ((f'.pr = f.pr ∧ f.pr ≠ .mark ∧ ∀ d, f.pr ≠ .dft d) ∨ (f.pr = .mark ∧ (f'.pr = .req ∨ ∃ d, f'.pr = .dft d ∧ Wr F 3 f.ty d ∧ d.gd 1000 ∧ d.size ≤ 3)))
def FlB (F : Dfs) (nm : Str) (fb fb' : Fb) : Prop := (fb = .non ∧ fb' = .non) ∨ (fb = .mark ∧ (fb' = .non ∨ ∃ d, fb' = .val d ∧ Wr F 3 nm d ∧ d.gd 1000 ∧ d.size ≤ 3))
def FlD (F : Dfs) (nm : Str) (df df' : Df) : Prop := (∃ fs fs', df = .rcd fs ∧ df' = .rcd fs' ∧ Paired (FlF F) fs fs') ∨ (∃ cs fb fb', df = .cho cs fb ∧ df' = .cho cs fb' ∧ FlB F nm fb fb') ∨ ((∀ fs, df ≠ .rcd fs) ∧ (∀ cs fb, df ≠ .cho cs fb) ∧ df' = df)
structure Flld (F F' : Dfs) : Prop where
  names : (F'.map (·.1)).Perm (F.map (·.1))
  df : ∀ e ∈ F', ∃ df, look F e.1 = some df ∧ FlD F e.1 df e.2
theorem ShD.to {ns ns' : List Str} {b : Nat} (h : ∀ x ∈ ns, x ∈ ns') {df : Df} (t : ShD ns b df) : ShD ns' b df := by
  cases df with
  | lst e lo hi => exact ⟨h _ t.1, t.2⟩
  | rcd fs => exact ⟨t.1, t.2.1, fun f hf => ⟨(t.2.2 f hf).1, h _ (t.2.2 f hf).2⟩⟩
  | cho cs fb => exact ⟨t.1, t.2.1, fun f hf => ⟨(t.2.2 f hf).1, h _ (t.2.2 f hf).2⟩⟩
  | _ => exact t
theorem flf_names {F : Dfs} : ∀ {fs fs' : List Fd}, Paired (FlF F) fs fs' → fs'.map (·.nm) = fs.map (·.nm)
  | _, _, .nil => rfl
  | _, _, .cons r t => by rw [List.map_cons, List.map_cons, flf_names t, r.1]
theorem flf_mem {F : Dfs} : ∀ {fs fs' : List Fd}, Paired (FlF F) fs fs' → ∀ f' ∈ fs', ∃ f ∈ fs, FlF F f f'
  | _, _, .nil, f', h => by cases h
  | _, _, .cons r t, f', h => by
    rcases List.mem_cons.mp h with rfl | h
    · exact ⟨_, List.mem_cons_self, r⟩
    · obtain ⟨f, h1, h2⟩ := flf_mem t f' h
      exact ⟨f, List.mem_cons_of_mem _ h1, h2⟩
theorem FlD.sh {F : Dfs} {nm : Str} {ns : List Str} {b : Nat} {df df' : Df} (h : FlD F nm df df') (s : ShD ns b df) : ShD ns b df' := by
  rcases h with ⟨fs, fs', rfl, rfl, hp⟩ | ⟨cs, fb, fb', rfl, rfl, _⟩ | ⟨_, _, rfl⟩
  · refine ⟨by rw [← hp.length]; exact s.1, by rw [flf_names hp]; exact s.2.1, fun f' hf' => ?_⟩
    obtain ⟨f, hf, h1, h2, _⟩ := flf_mem hp f' hf'
    rw [h1, h2]
    exact s.2.2 f hf
  · exact s
  · exact s
theorem FlF.opt {F : Dfs} {f f' : Fd} (h : FlF F f f') (e : f.pr = .opt) : f'.pr = .opt := by
  obtain ⟨_, _, ⟨h, _⟩ | ⟨h, _⟩⟩ := h
  · rw [h, e]
  · rw [e] at h; cases h
theorem fl_wrF {F : Dfs} {rec rec' : Str → D → Prop} (hr : ∀ t d, rec t d → rec' t d) : ∀ {fs fs' : List Fd}, Paired (FlF F) fs fs' → ∀ gs, wrF rec fs gs → wrF rec' fs' gs
  | _, _, .nil, gs, w => w
  | _, _, .cons r t, gs, w => by
    rcases w with ⟨d, gs', e, h1, h2⟩ | ⟨e, h2⟩
    · exact .inl ⟨d, gs', by rw [r.1]; exact e, by rw [r.2.1]; exact hr _ _ h1, fl_wrF hr t _ h2⟩
    · exact .inr ⟨r.opt e, fl_wrF hr t _ h2⟩
theorem FlD.wr {F : Dfs} {rec rec' : Str → D → Prop} (hr : ∀ t d, rec t d → rec' t d) {nm : Str} {df df' : Df} {d : D} (h : FlD F nm df df') (w : wrD rec df d) : wrD rec' df' d := by
  rcases h with ⟨fs, fs', rfl, rfl, hp⟩ | ⟨cs, fb, fb', rfl, rfl, _⟩ | ⟨_, _, rfl⟩
  · cases d <;> simp only [wrD] at w ⊢
    exact fl_wrF hr hp _ w
  · cases d <;> simp only [wrD] at w ⊢
    obtain ⟨ty, e, w⟩ := w
    exact ⟨ty, e, hr _ _ w⟩
  · exact wrD_mono hr w
section
variable {F F' : Dfs} {b : Nat}
theorem Flld.of (h : Flld F F') {nm : Str} {df' : Df} (hl : look F' nm = some df') : ∃ df, look F nm = some df ∧ FlD F nm df df' := h.df _ (look_mem hl)
theorem Flld.to (h : Flld F F') {nm : Str} {df : Df} (hl : look F nm = some df) : ∃ df', look F' nm = some df' ∧ FlD F nm df df' := by
  obtain ⟨df', h'⟩ := look_some.mpr (h.names.mem_iff.mpr (look_some.mp ⟨df, hl⟩))
  obtain ⟨df2, h1, h2⟩ := h.of h'
  rw [hl] at h1
  cases h1
  exact ⟨df', h', h2⟩
theorem Flld.wr (h : Flld F F') : ∀ {n : Nat} {nm : Str} {d : D}, Wr F n nm d → Wr F' n nm d
  | 0, nm, d, ⟨df, e, w⟩ => by
    obtain ⟨df', e', fl⟩ := h.to e
    exact ⟨df', e', fl.wr (fun _ _ z => z.elim) w⟩
  | n + 1, nm, d, ⟨df, e, w⟩ => by
    obtain ⟨df', e', fl⟩ := h.to e
    exact ⟨df', e', fl.wr (fun _ _ z => Flld.wr h z) w⟩
theorem Flld.sh (h : Flld F F') (s : ShF F b) : ShF F' b := by
  have hl := h.names.length_eq
  rw [List.length_map, List.length_map] at hl
  refine ⟨h.names.nodup_iff.mpr s.nd, fun x hx => s.sub x (h.names.mem_iff.mp hx), by rw [hl]; exact s.ne, fun e he => ?_⟩
  obtain ⟨df, h1, h2⟩ := h.df e he
  exact (h2.sh (s.df _ (look_mem h1))).to fun x hx => h.names.mem_iff.mpr hx
theorem Flld.fil (h : Flld F F') : Fil F' := by
  refine ⟨fun nm fs f d hl hf hd => ?_, fun nm cs d hl => ?_⟩
  · obtain ⟨df, h1, h2⟩ := h.of hl
    rcases h2 with ⟨fs0, fs', rfl, e, hp⟩ | ⟨cs, fb, fb', rfl, e, _⟩ | ⟨h3, _, e⟩
    · cases e
      obtain ⟨f0, hf0, e1, e2, e3⟩ := flf_mem hp f hf
      rcases e3 with ⟨e3, _, e4⟩ | ⟨_, e3 | ⟨d', e3, w, _⟩⟩
      · exact absurd (by rw [← e3]; exact hd) (e4 d)
      · rw [hd] at e3; cases e3
      · rw [hd] at e3
        cases e3
        rw [e2]
        exact h.wr w
    · cases e
    · exact absurd e.symm (h3 fs)
  · obtain ⟨df, h1, h2⟩ := h.of hl
    rcases h2 with ⟨fs0, fs', rfl, e, hp⟩ | ⟨cs0, fb, fb', rfl, e, e2⟩ | ⟨_, h3, e⟩
    · cases e
    · cases e
      rcases e2 with ⟨_, e2⟩ | ⟨_, e2 | ⟨d', e2, w, _⟩⟩
      · cases e2
      · cases e2
      · cases e2
        exact h.wr w
    · exact absurd e.symm (h3 _ _)
theorem Flld.gd (h : Flld F F') : ∀ e ∈ F', gdD e.2 := fun e he => by
  obtain ⟨df, h1, h2⟩ := h.df e he
  obtain ⟨nm, df'⟩ := e
  rcases h2 with ⟨fs0, fs', rfl, e, hp⟩ | ⟨cs0, fb, fb', rfl, e, e2⟩ | ⟨h3, h4, e⟩
  · have e : df' = .rcd fs' := e
    subst e
    intro f hf d hd
    obtain ⟨f0, hf0, e1, e2, e3⟩ := flf_mem hp f hf
    rcases e3 with ⟨e3, _, e4⟩ | ⟨_, e3 | ⟨d', e3, _, g, _⟩⟩
    · exact absurd (by rw [← e3]; exact hd) (e4 d)
    · rw [hd] at e3; cases e3
    · rw [hd] at e3
      cases e3
      exact g
  · have e : df' = .cho cs0 fb' := e
    subst e
    intro d hd
    rcases e2 with ⟨_, e2⟩ | ⟨_, e2 | ⟨d', e2, _, g, _⟩⟩
    · rw [hd] at e2; cases e2
    · rw [hd] at e2; cases e2
    · rw [hd] at e2
      cases e2
      exact g
  · have e : df' = df := e
    subst e
    cases df' with
    | rcd fs => exact absurd rfl (h3 fs)
    | cho cs fb => exact absurd rfl (h4 cs fb)
    | _ => trivial
theorem Flld.wf (h : Flld F F') (s : ShF F b) : WfR F' := by
  have s' := h.sh s
  refine ⟨fun nm fs hl => (s'.df _ (look_mem hl)).2.1, ⟨fun nm fs hl => ⟨(s'.df _ (look_mem hl)).1, fun f hf => ((s'.df _ (look_mem hl)).2.2 f hf).1⟩, fun nm fs f d hl hf hd => ?_, fun nm cs fb hl c hc => ((s'.df _ (look_mem hl)).2.2 c hc).1, fun nm cs d hl => ?_⟩, fun nm df hl => ?_⟩
  · obtain ⟨df, h1, h2⟩ := h.of hl
    rcases h2 with ⟨fs0, fs', rfl, e, hp⟩ | ⟨cs, fb, fb', rfl, e, _⟩ | ⟨h3, _, e⟩
    · cases e
      obtain ⟨f0, hf0, e1, e2, e3⟩ := flf_mem hp f hf
      rcases e3 with ⟨e3, _, e4⟩ | ⟨_, e3 | ⟨d', e3, _, g⟩⟩
      · exact absurd (by rw [← e3]; exact hd) (e4 d)
      · rw [hd] at e3; cases e3
      · rw [hd] at e3
        cases e3
        exact g
    · cases e
    · exact absurd e.symm (h3 fs)
  · obtain ⟨df, h1, h2⟩ := h.of hl
    rcases h2 with ⟨fs0, fs', rfl, e, hp⟩ | ⟨cs0, fb, fb', rfl, e, e2⟩ | ⟨_, h3, e⟩
    · cases e
    · cases e
      rcases e2 with ⟨_, e2⟩ | ⟨_, e2 | ⟨d', e2, _, g⟩⟩
      · cases e2
      · cases e2
      · cases e2
        exact g
    · exact absurd e.symm (h3 _ _)
  · have hs := (s'.df _ (look_mem hl)).tb
    obtain ⟨df0, h1, h2⟩ := h.of hl
    rcases h2 with ⟨fs0, fs', rfl, e, hp⟩ | ⟨cs0, fb, fb', rfl, e, e2⟩ | ⟨h3, h4, e⟩
    · subst e
      refine fun f hf => ⟨(hs.2.2 f hf).2, fun hm => ?_⟩
      obtain ⟨f0, hf0, e1, e2, e3⟩ := flf_mem hp f hf
      rcases e3 with ⟨e3, e4, _⟩ | ⟨_, e3 | ⟨d', e3, _⟩⟩
      · exact e4 (by rw [← e3]; exact hm)
      · rw [hm] at e3; cases e3
      · rw [hm] at e3; cases e3
    · subst e
      refine ⟨fun c hc => (hs.2.2 c hc).2, fun hm => ?_⟩
      rcases e2 with ⟨_, e2⟩ | ⟨_, e2 | ⟨d', e2, _⟩⟩
      · rw [hm] at e2; cases e2
      · rw [hm] at e2; cases e2
      · rw [hm] at e2; cases e2
    · subst e
      cases df with
      | rcd fs => exact absurd rfl (h3 fs)
      | cho cs fb => exact absurd rfl (h4 cs fb)
      | lst e lo hi => exact hs.1
      | _ => trivial
end
/-- the definitions of a format -/
structure GdF (F : Dfs) (b : Nat) : Prop where
  sh : ShF F b
  wf : WfR F
  fil : Fil F
  gd : ∀ e ∈ F, gdD e.2
theorem Flld.gdf {F F' : Dfs} {b : Nat} (h : Flld F F') (s : ShF F b) : GdF F' b := ⟨h.sh s, h.wf s, h.fil, h.gd⟩
end Ff
/-! The law, 13: definitions are filled in. -/
namespace Ff
open PySem L2 C8
def Kn (F : Dfs) (nm : Str) (G : Hp) (v : V) : Prop := ∃ d, Rep 3 G v d ∧ Wr F 3 nm d ∧ d.gd 1000 ∧ d.size ≤ 3
theorem Kn.same {F : Dfs} {nm : Str} {G G' : Hp} {v : V} (h : Kn F nm G v) (s : Same G G') : Kn F nm G' v := by
  obtain ⟨d, h1, h2⟩ := h
  exact ⟨d, h1.same s, h2⟩
theorem getT {F : Dfs} {M : List Addr} {H : Hp} {σ : L2.St} {tb : Addr} {kvs : List (List Key × V)} {nm : Str} {df : Df} {z : Int} {tk : TE} {Q : VK} (i : σ[2]? = some (some (.ref tb))) (htb : off M H tb = some (.dT kvs)) (te : TabE F 3 (off M H) kvs) (hl : look F nm = some df)
    (htk : ∀ Q : VK, Q (.str nm) H → tk σ H Q) (h : ∀ l H' xs, Same H H' → H' l = some (.lst xs) → xs.length ≤ 150 → (∀ v ∈ xs, Kn F nm (off M H') v) → Q (.ref l) H') :
    tDGet2 (tVar 2) (tTup (tCons tk (tCons (tC (.int z)) tNil))) (tLst tNil) σ H Q := by
  refine ⟨_, i, tb, rfl, .inr ⟨kvs, .inl (off_at htb)⟩, htk _ ⟨by show 2 ≤ sizeLine; decide, fun t nt => ⟨by show 0 ≤ sizeLine; decide, fun l0 nl => ?_⟩⟩⟩
  have e1 := same_new nt (.tup [.str nm, .int z])
  have e2 := same_new nl (.lst ([] : List V))
  have e12 := e1.trans e2
  refine ⟨valV kvs [Sum.inr nm, Sum.inl z], DGet.t (k := [Sum.inr nm, Sum.inl z]) (e12 _ _ (off_at htb)) (e2 _ _ upd_same), ?_⟩
  cases hv : valV kvs [Sum.inr nm, Sum.inl z] with
  | none => exact h l0 _ [] e12 upd_same (Nat.zero_le _) (by simp)
  | some x =>
    obtain ⟨df', m, h1, h2, h3, l, us, rfl, h5, h6, h7⟩ := te nm z x hv
    refine h l _ us e12 (e12 _ _ (off_at h5)) h6 fun v hv => ?_
    obtain ⟨d, d1, d2, d3, d4⟩ := (h7 v hv).wr h1
    exact ⟨d, (d1.mono (by omega)).same (offs_same e12), d2.mono (by omega), d3, by omega⟩
def PDl (F : Dfs) (ns : List Str) (G : Hp) (o : HO) : Prop := ∃ F', PDx F' G o ∧ F'.map (·.1) = ns ∧ ∀ e ∈ F', ∃ df, look F e.1 = some df ∧ FlD F e.1 df e.2
theorem PDl.mono {F : Dfs} {ns : List Str} : Mono (PDl F ns) := fun _ _ _ ⟨F', h1, h2⟩ s => ⟨F', PDx.mono _ _ _ h1 s, h2⟩
def PFl (F : Dfs) (fs : List Fd) (G : Hp) (o : HO) : Prop := ∃ us fs', o = .lst us ∧ Paired (RepFd G) us fs' ∧ Paired (FlF F) fs fs'
theorem PFl.mono {F : Dfs} {fs : List Fd} : Mono (PFl F fs) := fun _ _ _ ⟨us, fs', h1, h2, h3⟩ s => ⟨us, fs', h1, L2.Paired.mapP h2 fun _ _ z => z.same s, h3⟩
structure FS (b : Addr) (M : List Addr) (H1 : Hp) (p : Addr) (F : Dfs) (ys : List Str) (lp : Addr) (j : Nat) (H' : Hp) : Prop where
  acc : Acc [b] M H1 H' p (PDl F (ys.take j))
  bx : Box (p :: M) H' b
  lp : off (p :: M) H' lp = some (.lst (ys.map V.str))
theorem FS.step {b p lp : Addr} {M : List Addr} {H1 H' H'' : Hp} {F : Dfs} {ys : List Str} {j : Nat} (f : FS b M H1 p F ys lp j H') (s : Stp [b] H' H'') (bx : Box (p :: M) H'' b) : FS b M H1 p F ys lp j H'' := ⟨f.acc.step PDl.mono s, bx, (s.offb f.bx.mem) _ _ f.lp⟩
theorem FS.same {b p lp : Addr} {M : List Addr} {H1 H' H'' : Hp} {F : Dfs} {ys : List Str} {j : Nat} (f : FS b M H1 p F ys lp j H') (s : Same H' H'') : FS b M H1 p F ys lp j H'' := f.step (Stp.of_same s) (f.bx.same s)
/-- after the two tests -/
def FJ (b dd tb : Addr) (M : List Addr) (H1 : Hp) (p : Addr) (F : Dfs) (ys : List Str) (lp : Addr) (j : Nat) (nm : Str) (df : Df) : L2.St → Hp → Prop := fun σ' H' => FS b M H1 p F ys lp j H' ∧ ∃ (v1 : V) (df1 : Df) (x6 x7 x8 x9 : Option V), RepDf (off (p :: M) H') v1 df1 ∧ FlD F nm df df1 ∧
  σ' = [some (.ref b), some (.ref dd), some (.ref tb), some (.ref p), some (.str nm), some v1, x6, x7, x8, x9]
def FN (b dd tb : Addr) (M : List Addr) (H1 : Hp) (p : Addr) (F : Dfs) (ys : List Str) (lp : Addr) (j : Nat) : L2.St → Hp → Prop := fun σ' H' => FS b M H1 p F ys lp j H' ∧ ∃ (x4 x5 x6 x7 x8 x9 : Option V), σ' = [some (.ref b), some (.ref dd), some (.ref tb), some (.ref p), x4, x5, x6, x7, x8, x9]
theorem fil_fin {b dd tb : Addr} {M : List Addr} {H1 : Hp} {p : Addr} {F : Dfs} {ys : List Str} {lp : Addr} {j : Nat} {nm : Str} {df : Df} (hb : b ∈ M) (hl : look F nm = some df) (nd : ys.Nodup) (hy : ys[j]? = some nm) (hy4 : ys.length ≤ 4) {N : Ends}
    (hN : N.nx = FN b dd tb M H1 p F ys lp (j + 1)) {σ : L2.St} {H' : Hp} (h : FJ b dd tb M H1 p F ys lp j nm df σ H') : sDPut (tVar 3) (tVar 4) (tVar 5) N σ H' := by
  obtain ⟨⟨A1, bx, hlp⟩, v1, df1, x6, x7, x8, x9, hv, hf, rfl⟩ := h
  obtain ⟨o, hpo, hP⟩ := id A1.ex
  obtain ⟨F', hX, hn, hF⟩ := id hP
  obtain ⟨kt, rfl, h2⟩ := id hX
  have hkl := h2.length
  have h5 := congrArg List.length hn
  rw [List.length_map, List.length_take] at h5
  have nb : p ≠ b := fun e => A1.nm (e ▸ hb)
  refine ⟨_, rfl, _, rfl, _, rfl, p, _, rfl, DPut.k (k := Sum.inr nm) hpo (line_lt (by omega)), ?_⟩
  rw [hN]
  refine ⟨⟨?_, bx.put (by simp) nb, off_put _ _ hlp⟩, _, _, _, _, _, _, rfl⟩
  rw [take_get hy]
  refine A1.set ⟨F' ++ [(nm, df1)], hX.add (by rw [hn]; exact nodup_at nd hy) hv, by rw [List.map_append, hn]; rfl, fun e he => ?_⟩ PDl.mono
  rcases List.mem_append.mp he with he | he
  · exact hF e he
  · rw [List.mem_singleton.mp he]
    exact ⟨df, hl, hf⟩
theorem prS_dft {p : Pr} : prS p = "default" ↔ (p = .mark ∨ ∃ d, p = .dft d) := by
  cases p with
  | mark => exact ⟨fun _ => .inl rfl, fun _ => rfl⟩
  | dft d => exact ⟨fun _ => .inr ⟨d, rfl⟩, fun _ => rfl⟩
  | req => exact ⟨fun h => absurd h (by decide +kernel), fun h => by rcases h with h | ⟨d, h⟩ <;> cases h⟩
  | opt => exact ⟨fun h => absurd h (by decide +kernel), fun h => by rcases h with h | ⟨d, h⟩ <;> cases h⟩
section
variable {P : Program} {w : World} {K : PySem.W.Frag} {mg : Str → Option Value} {base : Heap} {C kA : Addr}
def spFilled : Sp := fun vs H Q _ => ∃ (b dd : Addr) (M : List Addr) (F : Dfs), vs = [.ref b, .ref dd] ∧ Box M H b ∧ RepDs (off M H) dd F ∧ ShF F 100 ∧ (∀ e ∈ F, PlD e.2) ∧
  ∀ p H' F', Stp [b] H H' → Box M H' b → H p = none → RepDs (off M H') p F' → Flld F F' → Q (.ref p) H'
theorem ok_filled (h : Has K mg "_law_filled" s_l_filled p_l_filled) (T : Txt K mg C kA) (c_l_draw : Cal P w K mg base 1 "_law_draw" spDraw []) (c_l_table : Cal P w K mg base 4 "_law_table" spTable []) : Cal P w K mg base 5 "_law_filled" spFilled [] := by
  refine h.cal sc_l_filled (fun vs H Q E h => ?_) (fun f cdv A outer s H vs Q E hr h => ?_)
  · obtain ⟨b, dd, M, F, rfl, _⟩ := h
    rfl
  obtain ⟨b, dd, M, F, rfl, bx0, hds, sh, hpl, q⟩ := h
  refine ⟨_, (pss_cons (ps_set (i := 2) sc_l_filled.nd rfl (Or.inl rfl) (pe_c c_l_table hr (by omega) rfl (pa_cons (pv 1) (pa_cons pe_int pa_nil))))
      (pss_cons (ps_set (i := 3) sc_l_filled.nd rfl (Or.inl rfl) pe_dnewK)
      (pss_cons (ps_for PassesOwn.never rfl (pi_list (pe_callB (call_sD rfl) rfl T.z_sorted (by decide +kernel) (pa_cons (pv 1) pa_nil))) (pg_name (i := 4) sc_l_filled.nd rfl (Or.inl rfl))
        (pss_cons (ps_set (i := 5) sc_l_filled.nd rfl (Or.inl rfl) (pe_dget (hu_of hr) (pv 1) (pv 4) (fun _ _ => rfl)))
        (C8.pss_cut (ps_if (pt_cmpR op_eq (pe_ix ix_tup (pv 5) pe_int (fun _ _ => rfl)) pe_str (nomark _)) (pss_cons (ps_set (i := 6) sc_l_filled.nd rfl (Or.inl rfl) (pe_lst pa_nil))
          (pss_cons (ps_for PassesOwn.never rfl (pi_tup (pe_ix ix_tup (pv 5) pe_int (fun _ _ => rfl))) (pg_name (i := 7) sc_l_filled.nd rfl (Or.inl rfl))
            (C8.pss_cut (ps_if (pt_cmpR op_eq (pe_ix ix_tup (pv 7) pe_int (fun _ _ => rfl)) pe_str (nomark _)) (pss_cons (ps_set (i := 8) sc_l_filled.nd rfl (Or.inl rfl) (pe_op op_cat (pe_op op_cat (pe_dget2 (hu_of hr) (pv 2) (pe_tup (pa_cons (pe_ix ix_tup (pv 7) pe_int (fun _ _ => rfl)) (pa_cons pe_int pa_nil))) (pe_lst pa_nil) ⟨rfl, rfl, rfl, rfl⟩) (pe_dget2 (hu_of hr) (pv 2) (pe_tup (pa_cons (pe_ix ix_tup (pv 7) pe_int (fun _ _ => rfl)) (pa_cons pe_int pa_nil))) (pe_lst pa_nil) ⟨rfl, rfl, rfl, rfl⟩)) (pe_dget2 (hu_of hr) (pv 2) (pe_tup (pa_cons (pe_ix ix_tup (pv 7) pe_int (fun _ _ => rfl)) (pa_cons pe_int pa_nil))) (pe_lst pa_nil) ⟨rfl, rfl, rfl, rfl⟩)))
              (pss_one (ps_if (pt_truth (pv 8) (by intro _; rfl)) (pss_one (ps_set (i := 7) sc_l_filled.nd rfl (Or.inl rfl) (pe_tup (pa_cons (pe_ix ix_tup (pv 7) pe_int (fun _ _ => rfl)) (pa_cons (pe_ix ix_tup (pv 7) pe_int (fun _ _ => rfl)) (pa_cons pe_str (pa_cons (pe_ix ix_list (pv 8) (pe_op op_modN (pe_callTy call_int1 rfl T.z_int (by decide +kernel) (pa_cons (pe_c c_l_draw hr (by omega) rfl (pa_cons (pv 0) (pa_cons pe_int pa_nil))) pa_nil)) (pe_callB call_len_seq rfl T.z_len (by decide +kernel) (pa_cons (pv 8) pa_nil))) (fun _ _ => rfl)) pa_nil))))))) (pss_one (ps_set (i := 7) sc_l_filled.nd rfl (Or.inl rfl) (pe_tup (pa_cons (pe_ix ix_tup (pv 7) pe_int (fun _ _ => rfl)) (pa_cons (pe_ix ix_tup (pv 7) pe_int (fun _ _ => rfl)) (pa_cons pe_str pa_nil))))))))) pss_nil)
            (pss_one (ps_expr (pe_bm PySem.F.plainAttrs_list PySem.F.slot_list_append PySem.F.type_list_append mt_append (pv 6) (pa_cons (pv 7) pa_nil))))))
          (pss_one (ps_set (i := 5) sc_l_filled.nd rfl (Or.inl rfl) (pe_tup (pa_cons pe_str (pa_cons (pe_callTy call_tuple_of rfl T.z_tuple (by decide +kernel) (pa_cons (pv 6) pa_nil)) pa_nil))))))) pss_nil)
        (C8.pss_cut (ps_if (PW.pt (pw_and (pt_cmpR op_eq (pe_ix ix_tup (pv 5) pe_int (fun _ _ => rfl)) pe_str (nomark _)) (pw_and1 (pt_cmpR op_notN (pe_ix ix_tup (pv 5) pe_int (fun _ _ => rfl)) pe_non (nomark _))))) (pss_cons (ps_set (i := 8) sc_l_filled.nd rfl (Or.inl rfl) (pe_op op_cat (pe_dget2 (hu_of hr) (pv 2) (pe_tup (pa_cons (pv 4) (pa_cons pe_int pa_nil))) (pe_lst pa_nil) ⟨rfl, rfl, rfl, rfl⟩) (pe_dget2 (hu_of hr) (pv 2) (pe_tup (pa_cons (pv 4) (pa_cons pe_int pa_nil))) (pe_lst pa_nil) ⟨rfl, rfl, rfl, rfl⟩)))
          (pss_cons (ps_set (i := 9) sc_l_filled.nd rfl (Or.inl rfl) pe_non)
          (C8.pss_cut (ps_if (pt_truth (pv 8) (by intro _; rfl)) (pss_one (ps_set (i := 9) sc_l_filled.nd rfl (Or.inl rfl) (pe_ix ix_list (pv 8) (pe_op op_modN (pe_callTy call_int1 rfl T.z_int (by decide +kernel) (pa_cons (pe_c c_l_draw hr (by omega) rfl (pa_cons (pv 0) (pa_cons pe_int pa_nil))) pa_nil)) (pe_callB call_len_seq rfl T.z_len (by decide +kernel) (pa_cons (pv 8) pa_nil))) (fun _ _ => rfl)))) pss_nil)
          (pss_one (ps_set (i := 5) sc_l_filled.nd rfl (Or.inl rfl) (pe_tup (pa_cons pe_str (pa_cons (pe_ix ix_tup (pv 5) pe_int (fun _ _ => rfl)) (pa_cons (pv 9) pa_nil))))))))) pss_nil)
        (pss_one (ps_dput (hu_of hr) (pv 3) (pv 4) (pv 5) rfl))))))
      (pss_one (ps_ret (pv 3)))))), ?_⟩
  refine ⟨_, rfl, dd, 3, F, M, rfl, by decide, bx0.al, hds, sh.tbf, fun tb H1 kt sm1 ntb htb hte => ?_⟩
  have bx1 := bx0.same sm1
  have htb1 : off M H1 tb = some (.dT kt) := off_in bx0.al ntb htb
  obtain ⟨kd, hkd, hpd⟩ := hds.same (offs_same sm1)
  have hkeys := keys_ofE hpd
  intro p np
  have hpb : p ≠ b := bx1.ne np
  have sub : ∀ a ∈ [b], a ∈ M := by
    intro a ha
    rw [List.mem_singleton.mp ha]
    exact bx0.mem
  have A0 : Acc [b] M H1 (upd H1 p (.dK [])) p (PDl F []) := Acc.new np bx1.al sub fun G => ⟨[], ⟨[], rfl, .nil⟩, rfl, by simp⟩
  refine ⟨_, rfl, dd, kd, F.map (·.1), rfl, .inl (off_at (A0.so _ _ hkd)), hkeys, by rw [List.length_map]; have := sh.len; omega, fun ys lp hperm _ nlp => ?_⟩
  have hys4 : ys.length ≤ 4 := by rw [hperm.length_eq, List.length_map]; exact sh.len
  have ysnd := hperm.nodup_iff.mpr sh.nd
  have e1 := same_new nlp (.lst (ys.map V.str))
  have FS0 : FS b M H1 p F ys lp 0 (upd (upd H1 p (.dK [])) lp (.lst (ys.map V.str))) := ⟨A0.step PDl.mono (Stp.of_same e1), (bx1.also np).same e1, off_in A0.alp nlp upd_same⟩
  refine ⟨lp, rfl, ⟨_, SqL.of upd_same⟩, ?_⟩
  refine for_list (K := K) (xs := ys.map V.str) (FN b dd tb M H1 p F ys lp) ⟨FS0, _, _, _, _, _, _, rfl⟩ (fun j σ H' _ h => SqL.of (off_at h.1.lp)) ?_ ?_
  · rintro j x σ H2 hx ⟨fs0, x4, x5, x6, x7, x8, x9, rfl⟩
    obtain ⟨nm, rfl, hnm⟩ := strs_get hx
    have hmem : nm ∈ F.map (·.1) := hperm.mem_iff.mp (List.mem_of_getElem? hnm)
    obtain ⟨df, hdf⟩ := look_some.mpr hmem
    rcases look_def nm hpd with ⟨e1, _⟩ | ⟨v, df', e1, e2, e3⟩
    · rw [e1] at hdf; cases hdf
    rw [e1] at hdf
    cases hdf
    have so := fs0.acc.so
    have e3 : RepDf (off (p :: M) H2) v df := e3.same so
    have htb2 := so _ _ htb1
    have hte2 := hte.same so
    have hpl1 := hpl _ (look_mem e1)
    have hsh1 := sh.df _ (look_mem e1)
    refine ⟨_, rfl, _, rfl, dd, v, rfl, e2 ▸ DGet.k (k := Sum.inr nm) (off_at (so _ _ hkd)), ?_⟩
    rcases tag_of e3 with ⟨a, tag, xs, rfl, ha, t1, t2, hb⟩ | ⟨fs, rfl⟩ | ⟨cs, fb, rfl⟩
    · refine ⟨fun σ' H' => H' = H2 ∧ σ' = [some (.ref b), some (.ref dd), some (.ref tb), some (.ref p), some (.str nm), some (.ref a), x6, x7, x8, x9], ?_, ?_⟩
      · exact ⟨_, rfl, a, _, _, .str tag, rfl, rfl, SqT.of (off_at ha), at_of (j := 0) rfl rfl, rfl, _, rfl, ifF (fun z => t1 (vstr.mp z)) ⟨rfl, rfl⟩⟩
      rintro σ' H3 ⟨rfl, rfl⟩
      refine ⟨FJ b dd tb M H1 p F ys lp j nm df, ?_, ?_⟩
      · dsimp only [tIfS]
        refine and2 (a := false) (b := false) ?_ ?_ ?_
        · exact fun Q q => ⟨_, rfl, a, _, _, .str tag, rfl, rfl, SqT.of (off_at ha), at_of (j := 0) rfl rfl, rfl, _, rfl, by rw [decide_eq_false (fun z => t2 (vstr.mp z))]; exact q⟩
        · exact fun h => by cases h
        · refine iteF ⟨fs0, _, df, _, _, _, _, e3, .inr (.inr ⟨?_, ?_, rfl⟩), rfl⟩
          · rintro fs rfl
            obtain ⟨a2, e, fa, us, h1, _⟩ := e3
            cases e
            rw [h1] at ha
            cases ha
            exact t1 rfl
          · rintro cs fb rfl
            obtain ⟨a2, e, fa, us, y, h1, _⟩ := e3
            cases e
            rw [h1] at ha
            cases ha
            exact t2 rfl
      · exact fun σ H' h => fil_fin bx0.mem e1 ysnd hnm hys4 rfl h
    · -- a record
      obtain ⟨a, rfl, fa, us, ha, hfa, hfs⟩ := id e3
      refine ⟨fun σ' H' => FS b M H1 p F ys lp j H' ∧ ∃ (a1 tp : Addr) (ws : List V) (fs' : List Fd) (x6 x7 x8 x9 : Option V), off (p :: M) H' a1 = some (.tup [.str "record", .ref tp]) ∧ off (p :: M) H' tp = some (.tup ws) ∧ Paired (RepFd (off (p :: M) H')) ws fs' ∧ Paired (FlF F) fs fs' ∧
        σ' = [some (.ref b), some (.ref dd), some (.ref tb), some (.ref p), some (.str nm), some (.ref a1), x6, x7, x8, x9], ?_, ?_⟩
      · refine ⟨_, rfl, a, _, _, .str "record", rfl, rfl, SqT.of (off_at ha), at_of (j := 0) rfl rfl, rfl, _, rfl, ifT rfl ?_⟩
        refine ⟨by show 0 ≤ sizeLine; decide, fun fo nfo => ?_⟩
        have B0 : Acc [b] (p :: M) H2 (upd H2 fo (.lst [])) fo (PFl F (fs.take 0)) := Acc.new nfo fs0.acc.alp (fun a ha => List.mem_cons_of_mem _ (sub a ha)) fun G => ⟨[], [], rfl, .nil, .nil⟩
        have hfb : fo ≠ b := fs0.bx.ne nfo
        refine ⟨_, rfl, a, _, _, .ref fa, rfl, rfl, SqT.of (off_at (B0.so _ _ ha)), at_of (j := 1) rfl rfl, fa, rfl, ⟨_, SqT.of (off_at (B0.so _ _ hfa))⟩, ?_⟩
        refine for_tup (K := K) (xs := us) (fun i σ H' => Acc [b] (p :: M) H2 H' fo (PFl F (fs.take i)) ∧ Box (fo :: p :: M) H' b ∧ ∃ (x7 x8 x9 : Option V), σ = [some (.ref b), some (.ref dd), some (.ref tb), some (.ref p), some (.str nm), some (.ref a), some (.ref fo), x7, x8, x9])
          ⟨B0, fs0.bx.also nfo, _, _, _, rfl⟩ (fun i σ H' _ h => SqT.of (off_at (h.1.so _ _ hfa))) ?_ ?_
        · rintro i x σ H3 hx ⟨B1, bx3, x7, x8, x9, rfl⟩
          obtain ⟨f, hf, rf⟩ := paired_get hfs hx
          have hfm := List.mem_of_getElem? hf
          have so3 := B1.so
          have rf3 := rf.same so3
          obtain ⟨xa, ws, rfl, hxa, w0, w1, w2⟩ := rf3.parts
          obtain ⟨dt, hdt⟩ := look_some.mpr (hsh1.2.2 f hfm).2
          refine ⟨fun σ' H' => Acc [b] (p :: M) H2 H' fo (PFl F (fs.take i)) ∧ Box (fo :: p :: M) H' b ∧ ∃ (v7 : V) (f' : Fd) (x8 x9 : Option V), RepFd (off (fo :: p :: M) H') v7 f' ∧ FlF F f f' ∧ σ' = [some (.ref b), some (.ref dd), some (.ref tb), some (.ref p), some (.str nm), some (.ref a), some (.ref fo), some v7, x8, x9], ?_, ?_⟩
          · refine ⟨_, rfl, xa, ws, _, _, rfl, rfl, SqT.of (off_at hxa), at_of (j := 2) rfl w2, rfl, _, rfl, ifS (fun c => ?_) (fun c => ?_)⟩
            · have hmk : f.pr = .mark := by
                rcases prS_dft.mp (vstr.mp c) with h | ⟨d, h⟩
                · exact h
                · exact absurd h (hpl1 f hfm d)
              have tk : ∀ {H' : Hp}, Same H3 H' → ∀ Q : VK, Q (.str f.ty) H' → tOp (rIxT K) (tVar 7) (tC (.int 1)) [some (.ref b), some (.ref dd), some (.ref tb), some (.ref p), some (.str nm), some (.ref a), some (.ref fo), some (.ref xa), x8, x9] H' Q :=
                fun {H'} s Q q => ⟨_, rfl, xa, ws, 1, .str f.ty, rfl, rfl, SqT.of (s _ _ (off_at hxa)), at_of (j := 1) rfl w1, q⟩
              dsimp only [tSeq, tAsg, tOp]
              refine getT (F := F) (M := fo :: p :: M) (nm := f.ty) rfl (so3 _ _ htb2) (hte2.same so3) hdt (tk (Same.refl _)) fun l1 H4 xs1 s1 h1 hl1 k1 => ?_
              refine getT (F := F) (M := fo :: p :: M) (nm := f.ty) rfl ((offs_same s1) _ _ (so3 _ _ htb2)) ((hte2.same so3).same (offs_same s1)) hdt (tk s1) fun l2 H5 xs2 s2 h2 hl2 k2 => ?_
              refine ⟨l1, l2, _, _, rfl, rfl, s2 _ _ h1, h2, line_small (by omega), fun l12 n12 => ?_⟩
              have e12 := same_new n12 (.lst (xs1 ++ xs2))
              have s3 := (s1.trans s2).trans e12
              refine getT (F := F) (M := fo :: p :: M) (nm := f.ty) rfl ((offs_same s3) _ _ (so3 _ _ htb2)) ((hte2.same so3).same (offs_same s3)) hdt (tk s3) fun l3 H6 xs3 s4 h3 hl3 k3 => ?_
              refine ⟨l12, l3, _, _, rfl, rfl, s4 _ _ upd_same, h3, line_small (by rw [List.length_append]; omega), fun l4 n4 => ?_⟩
              have e4 := same_new n4 (.lst (xs1 ++ xs2 ++ xs3))
              have s34 := s3.trans (s4.trans e4)
              have B2 := B1.step PFl.mono (Stp.of_same s34)
              have bx4 := bx3.same s34
              have hkn : ∀ v ∈ xs1 ++ xs2 ++ xs3, Kn F f.ty (off (fo :: p :: M) _) v := fun v hv => by
                rcases List.mem_append.mp hv with hv | hv
                · rcases List.mem_append.mp hv with hv | hv
                  · exact (k1 v hv).same (offs_same ((s2.trans e12).trans (s4.trans e4)))
                  · exact (k2 v hv).same (offs_same (e12.trans (s4.trans e4)))
                · exact (k3 v hv).same (offs_same e4)
              have hxa4 := (offs_same s34) _ _ hxa
              have hl4 : off (fo :: p :: M) (upd H6 l4 (.lst (xs1 ++ xs2 ++ xs3))) l4 = some (.lst (xs1 ++ xs2 ++ xs3)) := off_in (B1.alp.same (s3.trans s4)) n4 upd_same
              generalize xs1 ++ xs2 ++ xs3 = xs at *
              refine ⟨_, rfl, !xs.isEmpty, .inl ⟨xs, SqL.of (off_at hl4), rfl⟩, ?_⟩
              cases xs with
              | nil =>
                refine iteF ⟨_, rfl, xa, ws, _, _, rfl, rfl, SqT.of (off_at hxa4), at_of (j := 0) rfl w0, _, rfl, xa, ws, _, _, rfl, rfl, SqT.of (off_at hxa4), at_of (j := 1) rfl w1, by show 3 ≤ sizeLine; decide, fun t nt => ?_⟩
                have e5 := same_new nt (.tup [.str f.nm, .str f.ty, .str "required"])
                exact ⟨B2.step PFl.mono (Stp.of_same e5), bx4.same e5, _, ⟨f.nm, f.ty, .req⟩, _, _, ⟨t, rfl, off_in B2.alp nt upd_same⟩, ⟨rfl, rfl, .inr ⟨hmk, .inl rfl⟩⟩, rfl⟩
              | cons u xs =>
                refine iteT ⟨_, rfl, xa, ws, _, _, rfl, rfl, SqT.of (off_at hxa4), at_of (j := 0) rfl w0, _, rfl, xa, ws, _, _, rfl, rfl, SqT.of (off_at hxa4), at_of (j := 1) rfl w1, _, rfl, _, rfl, b, 900, fo :: p :: M, rfl, by decide, bx4, fun z H7 z0 z9 st7 bx7 => ?_⟩
                have B3 := B2.step PFl.mono st7
                have so7 := st7.offb bx4.mem
                have hl7 := off_at (so7 _ _ hl4)
                have hm := fmod_lt (x := z) (m := ((u :: xs).length : Int)) (by simp only [List.length_cons]; omega)
                have hlt : (z.fmod ((u :: xs).length : Int)).toNat < (u :: xs).length := by omega
                refine .inl ⟨_, rfl, _, rfl, l4, _, rfl, .inl (SqL.of hl7), _, _, rfl, rfl, by simp only [List.length_cons]; omega, l4, _, _, (u :: xs)[(z.fmod ((u :: xs).length : Int)).toNat]'hlt, rfl, rfl, SqL.of hl7, at_of (j := (z.fmod ((u :: xs).length : Int)).toNat) (by omega) (List.getElem?_eq_getElem hlt), by show 4 ≤ sizeLine; decide, fun t nt => ?_⟩
                obtain ⟨d, d1, d2, d3, d4⟩ := (hkn _ (List.getElem_mem hlt)).same so7
                have e5 := same_new nt (.tup [.str f.nm, .str f.ty, .str "default", (u :: xs)[(z.fmod ((u :: xs).length : Int)).toNat]'hlt])
                exact ⟨B3.step PFl.mono (Stp.of_same e5), bx7.same e5, _, ⟨f.nm, f.ty, .dft d⟩, _, _, ⟨t, rfl, _, off_in B3.alp nt upd_same, d1.same (offs_same e5)⟩, ⟨rfl, rfl, .inr ⟨hmk, .inr ⟨d, rfl, d2, d3, d4⟩⟩⟩, rfl⟩
            · refine ⟨B1, bx3, _, f, _, _, rf3, ⟨rfl, rfl, .inl ⟨rfl, fun h => c (by rw [h]; rfl), hpl1 f hfm⟩⟩, rfl⟩
          rintro σ' H4 ⟨B2, bx4, v7, f', x8, x9, hv7, hff, rfl⟩
          obtain ⟨_, hfo, us', fs', rfl, g1, g2⟩ := id B2.ex
          have hul : us'.length ≤ 3 := by
            have h1 := g1.length
            have h2 := g2.length
            rw [List.length_take] at h2
            have := hsh1.1
            omega
          refine ⟨_, rfl, .inl ⟨rfl, _, SqL.of hfo⟩, _, rfl, fo, _, _, rfl, rfl, hfo, line_lt (by omega), ?_⟩
          refine ⟨?_, bx4.put (by simp) hfb, _, _, _, rfl⟩
          rw [take_get hf]
          exact B2.set ⟨_, _, rfl, paired_append g1 (.cons hv7 .nil), paired_append g2 (.cons hff .nil)⟩ PFl.mono
        · rintro σ H3 ⟨B1, bx3, x7, x8, x9, rfl⟩
          obtain ⟨_, hfo, us', fs', rfl, g1, g2⟩ := id B1.ex
          have eall : fs.take us.length = fs := List.take_of_length_le (by rw [hfs.length]; exact Nat.le_refl _)
          rw [eall] at g2
          refine ⟨_, rfl, fo, us', rfl, .inl ⟨SqL.of hfo, fun tp ntp => ?_⟩⟩
          have e4 := same_new ntp (.tup us')
          refine ⟨by show 2 ≤ sizeLine; decide, fun a2 na2 => ?_⟩
          have e5 := same_new na2 (.tup [.str "record", .ref tp])
          have e45 := e4.trans e5
          have fs3 := (fs0.step B1.st (bx3.less fs0.bx.mem)).same e45
          have al3 := (bx3.less fs0.bx.mem).al
          exact ⟨fs3, a2, tp, us', fs', _, _, _, _, off_in (al3.same e4) na2 upd_same, off_in al3 ntp (e5 _ _ upd_same), L2.Paired.mapP g1 fun _ _ z => (z.same off_less).same (offs_same e45), g2, rfl⟩
      rintro σ' H3 ⟨fs1, a1, tp, ws, fs', x6, x7, x8, x9, ha1, htp, hws, hfl, rfl⟩
      refine ⟨FJ b dd tb M H1 p F ys lp j nm (.rcd fs), ?_, ?_⟩
      · dsimp only [tIfS]
        refine and2 (a := false) (b := false) ?_ ?_ ?_
        · exact fun Q q => ⟨_, rfl, a1, _, _, .str "record", rfl, rfl, SqT.of (off_at ha1), at_of (j := 0) rfl rfl, rfl, _, rfl, by rw [decide_eq_false (fun z => absurd (vstr.mp z) (by decide +kernel))]; exact q⟩
        · exact fun h => by cases h
        · exact iteF ⟨fs1, _, .rcd fs', _, _, _, _, ⟨a1, rfl, tp, ws, ha1, htp, hws⟩, .inl ⟨fs, fs', rfl, rfl, hfl⟩, rfl⟩
      · exact fun σ H' h => fil_fin bx0.mem e1 ysnd hnm hys4 rfl h
    · -- a choice
      obtain ⟨a, rfl, ca, us, y, ha, hca, hcs, hfb⟩ := id e3
      refine ⟨fun σ' H' => H' = H2 ∧ σ' = [some (.ref b), some (.ref dd), some (.ref tb), some (.ref p), some (.str nm), some (.ref a), x6, x7, x8, x9], ?_, ?_⟩
      · exact ⟨_, rfl, a, _, _, .str "choice", rfl, rfl, SqT.of (off_at ha), at_of (j := 0) rfl rfl, rfl, _, rfl, ifF (ne_str (by decide +kernel)) ⟨rfl, rfl⟩⟩
      rintro σ' H3 ⟨rfl, rfl⟩
      refine ⟨FJ b dd tb M H1 p F ys lp j nm (.cho cs fb), ?_, ?_⟩
      · dsimp only [tIfS]
        refine and2 (a := true) (b := !decide (y = .non)) ?_ ?_ ?_
        · exact fun Q q => ⟨_, rfl, a, _, _, .str "choice", rfl, rfl, SqT.of (off_at ha), at_of (j := 0) rfl rfl, rfl, _, rfl, by rw [decide_eq_true rfl]; exact q⟩
        · exact fun _ Q q => ⟨_, rfl, a, _, _, y, rfl, rfl, SqT.of (off_at ha), at_of (j := 2) rfl rfl, rfl, _, rfl, q⟩
        · rw [Bool.true_and]
          refine ifNS (fun hy => ?_) (fun hy => ?_)
          · have hmk : fb = .mark := by
              cases fb with
              | non => exact absurd hfb hy
              | mark => rfl
              | val d => exact absurd rfl (hpl1 d)
            subst hmk
            have tk : ∀ {H' : Hp}, ∀ Q : VK, Q (.str nm) H' → tVar 4 [some (.ref b), some (.ref dd), some (.ref tb), some (.ref p), some (.str nm), some (.ref a), x6, x7, x8, x9] H' Q := fun Q q => ⟨_, rfl, q⟩
            dsimp only [tSeq, tAsg, tOp]
            refine getT (F := F) (M := p :: M) (nm := nm) rfl htb2 hte2 e1 tk fun l1 H4 xs1 s1 h1 hl1 k1 => ?_
            refine getT (F := F) (M := p :: M) (nm := nm) rfl ((offs_same s1) _ _ htb2) (hte2.same (offs_same s1)) e1 tk fun l2 H5 xs2 s2 h2 hl2 k2 => ?_
            refine ⟨l1, l2, _, _, rfl, rfl, s2 _ _ h1, h2, line_small (by omega), fun l12 n12 => ?_⟩
            have e12 := same_new n12 (.lst (xs1 ++ xs2))
            have s3 := (s1.trans s2).trans e12
            have fs3 := fs0.same s3
            have hkn : ∀ v ∈ xs1 ++ xs2, Kn F nm (off (p :: M) _) v := fun v hv => by
              rcases List.mem_append.mp hv with hv | hv
              · exact (k1 v hv).same (offs_same (s2.trans e12))
              · exact (k2 v hv).same (offs_same e12)
            have hl4 : off (p :: M) (upd H5 l12 (.lst (xs1 ++ xs2))) l12 = some (.lst (xs1 ++ xs2)) := off_in (fs0.bx.al.same (s1.trans s2)) n12 upd_same
            have ha3 := (offs_same (M := p :: M) s3) _ _ ha
            have hca3 := (offs_same (M := p :: M) s3) _ _ hca
            have hcs3 : Paired (RepCs (off (p :: M) _)) us cs := L2.Paired.mapP hcs fun _ _ z => z.same (offs_same s3)
            generalize xs1 ++ xs2 = xs at *
            generalize upd H5 l12 (.lst xs) = H6 at *
            refine ⟨fun σ' H' => FS b M H1 p F ys lp j H' ∧ Same (off (p :: M) H6) (off (p :: M) H') ∧ ∃ (y' : V) (fb' : Fb) (x6 x7 x8 : Option V), RepFb (off (p :: M) H') y' fb' ∧ FlB F nm .mark fb' ∧ σ' = [some (.ref b), some (.ref dd), some (.ref tb), some (.ref p), some (.str nm), some (.ref a), x6, x7, x8, some y'], ?_, ?_⟩
            · refine ⟨_, rfl, !xs.isEmpty, .inl ⟨xs, SqL.of (off_at hl4), rfl⟩, ?_⟩
              cases xs with
              | nil => exact iteF ⟨fs3, Same.refl _, .non, .non, _, _, _, rfl, .inr ⟨rfl, .inl rfl⟩, rfl⟩
              | cons u xs =>
                refine iteT ⟨_, rfl, _, rfl, b, 900, p :: M, rfl, by decide, fs3.bx, fun z H7 z0 z9 st7 bx7 => ?_⟩
                have so7 := st7.offb fs3.bx.mem
                have hl7 := off_at (so7 _ _ hl4)
                have hm := fmod_lt (x := z) (m := ((u :: xs).length : Int)) (by simp only [List.length_cons]; omega)
                have hlt : (z.fmod ((u :: xs).length : Int)).toNat < (u :: xs).length := by omega
                refine .inl ⟨_, rfl, _, rfl, l12, _, rfl, .inl (SqL.of hl7), _, _, rfl, rfl, by simp only [List.length_cons]; omega, l12, _, _, (u :: xs)[(z.fmod ((u :: xs).length : Int)).toNat]'hlt, rfl, rfl, SqL.of hl7, at_of (j := (z.fmod ((u :: xs).length : Int)).toNat) (by omega) (List.getElem?_eq_getElem hlt), ?_⟩
                obtain ⟨d, d1, d2, d3, d4⟩ := (hkn _ (List.getElem_mem hlt)).same so7
                exact ⟨fs3.step st7 bx7, so7, _, .val d, _, _, _, d1, .inr ⟨rfl, .inr ⟨d, rfl, d2, d3, d4⟩⟩, rfl⟩
            rintro σ' H7 ⟨fs4, so7, y', fb', x6, x7, x8, hy', hfl, rfl⟩
            refine ⟨_, rfl, a, _, _, .ref ca, rfl, rfl, SqT.of (off_at (so7 _ _ ha3)), at_of (j := 1) rfl rfl, _, rfl, by show 3 ≤ sizeLine; decide, fun a2 na2 => ?_⟩
            have e5 := same_new na2 (.tup [.str "choice", .ref ca, y'])
            have so8 := so7.trans (offs_same e5)
            exact ⟨fs4.same e5, _, .cho cs fb', _, _, _, _, ⟨a2, rfl, ca, us, y', off_in fs4.bx.al na2 upd_same, so8 _ _ hca3, L2.Paired.mapP hcs3 fun _ _ z => z.same so8, hy'.same (offs_same e5)⟩, .inr (.inl ⟨cs, .mark, fb', rfl, rfl, hfl⟩), rfl⟩
          · have hmk : fb = .non := by
              subst hy
              cases fb with
              | non => rfl
              | mark => cases hfb
              | val d => exact absurd rfl (hpl1 d)
            subst hmk
            exact ⟨fs0, _, .cho cs .non, _, _, _, _, e3, .inr (.inl ⟨cs, .non, .non, rfl, rfl, .inl ⟨rfl, rfl⟩⟩), rfl⟩
      · exact fun σ H' h => fil_fin bx0.mem e1 ysnd hnm hys4 rfl h
  · rintro σ H2 ⟨⟨A1, bx2, hlp⟩, x4, x5, x6, x7, x8, x9, rfl⟩
    rw [List.length_map, List.take_length] at A1
    obtain ⟨_, hpo, F', ⟨kt2, rfl, h2⟩, hn, hF⟩ := id A1.ex
    exact ⟨_, rfl, q p H2 F' ((Stp.of_same sm1).trans A1.st) (bx2.less bx0.mem) (sm1.free np) ⟨kt2, off_in bx1.al np hpo, L2.Paired.mapP h2 fun _ _ z => ⟨z.1, z.2.same off_less⟩⟩ ⟨by rw [hn]; exact hperm, hF⟩⟩
end
end Ff
/-! The law, 14: formats that are drawn. -/
namespace Ff
open PySem L2 C8
section
variable {P : Program} {w : World} {K : PySem.W.Frag} {mg : Str → Option Value} {base : Heap} {C kA : Addr}
/-- a new format -/
def FormQ (C b : Addr) (M : List Addr) (H : Hp) (bd : Nat) (Q : VK) : Prop := ∀ o H' root F, Stp [b] H H' → Box M H' b → FormAt C (off M H') o root F → root ∈ F.map (·.1) → GdF F bd → Q (.ref o) H'
theorem form_new {C b dd x dx : Addr} {M : List Addr} {H0 H : Hp} {bd : Nat} {root : Str} {F : Dfs} {Q : VK} {E : XK} (q : FormQ C b M H0 bd Q) (st : Stp [b] H0 H) (bx : Box M H b) (hd : RepDs (off M H) dd F) (hr : root ∈ F.map (·.1)) (g : GdF F bd) (hx : H x = none) (hdx : H dx = none) (hne : dx ≠ x) :
    spInit C [.ref x, .str root, .ref dd] (upd (upd H dx (.own x)) x (.ins C dx [])) (fun v H2 => v = .non ∧ Q (.ref x) H2) E := by
  obtain ⟨kvs, h1, h2⟩ := hd
  have e1 := same_new hdx (.own x)
  have hx1 : upd H dx (.own x) x = none := by rw [upd_ne hne.symm]; exact hx
  have e2 := same_new hx1 (.ins C dx [])
  have e12 := e1.trans e2
  refine ⟨x, dd, dx, root, kvs, rfl, upd_same, e12 _ _ (off_at h1), fun H' p s hp hx' hp' => ⟨rfl, ?_⟩⟩
  have sm : Same H H' := fun a o ha => s.keep a o (by simpa using ne_of_none ha hx) (e12 _ _ ha)
  refine q x H' root F (st.trans (Stp.of_same sm)) (bx.same sm) ⟨dx, p, off_in bx.al hx hx', kvs, off_in bx.al (e12.free hp) hp', L2.Paired.mapP h2 fun _ _ z => ⟨z.1, z.2.same (offs_same sm)⟩⟩ hr g
def spFormat (C : Addr) : Sp := fun vs H Q _ => ∃ (b : Addr) (M : List Addr), vs = [.ref b] ∧ Box M H b ∧ FormQ C b M H 10 Q
theorem ok_format (h : Has K mg "_law_format" s_l_format p_l_format) (T : Txt K mg C kA) (c_l_draw : Cal P w K mg base 1 "_law_draw" spDraw []) (c_l_plain : Cal P w K mg base 3 "_law_plain" spPlain []) (c_l_filled : Cal P w K mg base 5 "_law_filled" spFilled []) (C_Format : Mak P w K mg base 1 "Format" C (spInit C) []) : Cal P w K mg base 6 "_law_format" (spFormat C) [] := by
  refine h.cal sc_l_format (fun vs H Q E h => ?_) (fun f cdv A outer s H vs Q E hr h => ?_)
  · obtain ⟨b, M, rfl, _⟩ := h
    rfl
  obtain ⟨b, M, rfl, bx0, q⟩ := h
  refine ⟨_, (pss_cons (ps_set (i := 1) sc_l_format.nd rfl (Or.inl rfl) (pe_c c_l_filled hr (by omega) rfl (pa_cons (pv 0) (pa_cons (pe_c c_l_plain hr (by omega) rfl (pa_cons (pv 0) pa_nil)) pa_nil))))
      (pss_one (ps_ret (pe_mk C_Format hr (by omega) rfl (pa_cons (pe_ix ix_list (pe_callB (call_sD rfl) rfl T.z_sorted (by decide +kernel) (pa_cons (pv 1) pa_nil)) (pe_op op_modN (pe_callTy call_int1 rfl T.z_int (by decide +kernel) (pa_cons (pe_c c_l_draw hr (by omega) rfl (pa_cons (pv 0) (pa_cons pe_int pa_nil))) pa_nil)) (pe_callB call_lenD rfl T.z_len (by decide +kernel) (pa_cons (pv 1) pa_nil))) (fun _ _ => rfl)) (pa_cons (pv 1) pa_nil)))))), ?_⟩
  refine ⟨_, rfl, _, rfl, b, M, rfl, bx0, fun p1 H1 F st1 bx1 np1 hds1 sh hpl => ?_⟩
  refine ⟨b, p1, M, F, rfl, bx1, hds1, sh.mono (by omega), hpl, fun p H2 F' st2 bx2 np hds fl => ?_⟩
  have sh' := fl.sh sh
  obtain ⟨kd, hkd, hpd⟩ := id hds
  refine ⟨_, rfl, p, kd, F'.map (·.1), rfl, .inl (off_at hkd), keys_ofE hpd, by rw [List.length_map]; have := sh'.len; omega, fun ys lp hperm _ nlp => ?_⟩
  have e1 := same_new nlp (.lst (ys.map V.str))
  have nlb : lp ≠ b := bx2.ne nlp
  refine ⟨_, rfl, b, 900, M, rfl, by decide, bx2.same e1, fun z H3 z0 z9 st3 bx3 => ?_⟩
  have so : Same (off M H2) (off M H3) := (offs_same e1).trans (st3.offb bx0.mem)
  have hlp3 : H3 lp = some (.lst (ys.map V.str)) := st3.keep _ _ (by simpa using nlb) upd_same
  have hlen : kd.length = ys.length := by rw [hpd.length, hperm.length_eq, List.length_map]
  have hne := sh'.ne
  have hle : 0 < ys.length := by rw [← hlen, hpd.length]; exact hne
  have hm := fmod_lt (x := z) (m := (kd.length : Int)) (by omega)
  have hlt : (z.fmod (kd.length : Int)).toNat < ys.length := by omega
  refine .inl ⟨_, rfl, _, rfl, p, kd, rfl, off_at (so _ _ hkd), _, _, rfl, rfl, by omega, lp, _, _, .str (ys[(z.fmod (kd.length : Int)).toNat]'hlt), rfl, rfl, SqL.of hlp3, at_of (j := (z.fmod (kd.length : Int)).toNat) (by omega) (get_strs (List.getElem?_eq_getElem hlt)), _, rfl, ?_⟩
  refine fun x dx hx hdx hne => ?_
  refine form_new q ((st1.trans st2).trans ((Stp.of_same e1).trans st3)) bx3 (hds.same so) (hperm.mem_iff.mp (List.getElem_mem hlt)) (fl.gdf sh) hx hdx hne
end
end Ff
/-! The law, 15: formats that are changed. -/
namespace Ff
open PySem L2 C8
/-- another definition of a name that is there -/
theorem PDs.put {ns : List Str} {Ok : Str × Df → Prop} {G : Hp} {kvs : List (Key × V)} {nm : Str} {v : V} {df : Df} (h : PDs ns Ok G (.dK kvs)) (hn : nm ∈ ns) (hv : RepDf G v df) (ok : Ok (nm, df)) : PDs ns Ok G (.dK (putK kvs (Sum.inr nm) v)) := by
  obtain ⟨_, F, h1, h2, h3, h4⟩ := h
  cases h1
  have hk : (Sum.inr nm : Key) ∈ kvs.map (·.1) := by
    rw [keys_ofE h2, h3]
    exact List.mem_map_of_mem hn
  refine ⟨_, F.map fun e => if e.1 = nm then (e.1, df) else e, by rw [putK_old hk], ?_, ?_, fun e he => ?_⟩
  · clear h3 h4 hk
    induction h2 with
    | nil => exact .nil
    | @cons a b _ _ r t ih =>
      refine .cons ?_ ih
      dsimp only
      by_cases c : b.1 = nm
      · rw [if_pos c, if_pos (by rw [r.1, c])]
        exact ⟨r.1, hv⟩
      · rw [if_neg c, if_neg (by rw [r.1]; intro z; exact c (Sum.inr.inj z))]
        exact r
  · rw [← h3, List.map_map]
    refine List.map_congr_left fun e _ => ?_
    show (if e.1 = nm then (e.1, df) else e).1 = e.1
    split <;> rfl
  · obtain ⟨e0, he0, rfl⟩ := List.mem_map.mp he
    split
    · rename_i c
      rw [c]
      exact ok
    · exact h4 e0 he0
theorem Box.over {M : List Addr} {H H' : Hp} {b p : Addr} {u : HO} (bx : Box M H b) (s : Same H H') (np : H p = none) (hp : H' p = some u) : Box (p :: M) H' b := by
  obtain ⟨r, row, k, h1, h2, h3⟩ := id bx.ex
  obtain ⟨h4, h5⟩ := off_some.mp h3
  refine ⟨List.mem_cons_of_mem _ bx.mem, (bx.al.same s).cons hp, r, row, k, s _ _ h1, h2, off_some.mpr ⟨fun hm => ?_, s _ _ h5⟩⟩
  rcases List.mem_cons.mp hm with e | hm
  · rw [e, np] at h5; cases h5
  · exact h4 hm
abbrev OkC (ns : List Str) (k : Nat) : Str × Df → Prop := fun e => ShD ns (10 + k) e.2 ∧ PlD e.2
theorem PDs.as {ns : List Str} {Ok Ok' : Str × Df → Prop} (h : ∀ e, Ok e → Ok' e) {G : Hp} {o : HO} (p : PDs ns Ok G o) : PDs ns Ok' G o := by
  obtain ⟨kvs, F, h1, h2, h3, h4⟩ := p
  exact ⟨kvs, F, h1, h2, h3, fun e he => h e (h4 e he)⟩
structure CS (b : Addr) (M : List Addr) (H : Hp) (p : Addr) (ns ys : List Str) (lp : Addr) (k : Nat) (H' : Hp) : Prop where
  acc : Acc [b] M H H' p (PDs ns (OkC ns k))
  bx : Box (p :: M) H' b
  lp : off (p :: M) H' lp = some (.lst (ys.map V.str))
theorem CS.step {b p lp : Addr} {M : List Addr} {H H' H'' : Hp} {ns ys : List Str} {k : Nat} (f : CS b M H p ns ys lp k H') (s : Stp [b] H' H'') (bx : Box (p :: M) H'' b) : CS b M H p ns ys lp k H'' := ⟨f.acc.step PDs.mono s, bx, (s.offb f.bx.mem) _ _ f.lp⟩
theorem CS.same {b p lp : Addr} {M : List Addr} {H H' H'' : Hp} {ns ys : List Str} {k : Nat} (f : CS b M H p ns ys lp k H') (s : Same H' H'') : CS b M H p ns ys lp k H'' := f.step (Stp.of_same s) (f.bx.same s)
theorem CS.next {b p lp : Addr} {M : List Addr} {H H' : Hp} {ns ys : List Str} {k : Nat} (f : CS b M H p ns ys lp k H') : CS b M H p ns ys lp (k + 1) H' := ⟨f.acc.as fun G o h => h.as fun e he => ⟨he.1.mono (by omega), he.2⟩, f.bx, f.lp⟩
def CN (b o : Addr) (M : List Addr) (H : Hp) (p : Addr) (ns ys : List Str) (lp : Addr) (k : Nat) : L2.St → Hp → Prop := fun σ H' => CS b M H p ns ys lp k H' ∧ ∃ (x4 x5 x6 x7 x8 x9 x10 x11 x12 : Option V), σ = [some (.ref b), some (.ref o), some (.ref p), some (.ref lp), x4, x5, x6, x7, x8, x9, x10, x11, x12]
theorem chg_fin {b o p lp : Addr} {M : List Addr} {H H' : Hp} {ns ys : List Str} {k : Nat} {nm : Str} {v : V} {df : Df} {x4 x6 x7 x8 x9 x10 x11 x12 : Option V} (hb : b ∈ M) (hn : nm ∈ ns) (hns : ns.length ≤ 4) (f : CS b M H p ns ys lp k H') (hv : RepDf (off (p :: M) H') v df) (hs : ShD ns (10 + (k + 1)) df) (hp : PlD df) {N : Ends} (hN : N.nx = CN b o M H p ns ys lp (k + 1)) :
    (tVar 2) [some (.ref b), some (.ref o), some (.ref p), some (.ref lp), x4, some (.str nm), x6, x7, x8, x9, x10, x11, x12] H' fun x H2 => (tVar 5) [some (.ref b), some (.ref o), some (.ref p), some (.ref lp), x4, some (.str nm), x6, x7, x8, x9, x10, x11, x12] H2 fun y H3 => ∃ a H4, x = .ref a ∧ DPut H3 a y v H4 ∧ N.nx [some (.ref b), some (.ref o), some (.ref p), some (.ref lp), x4, some (.str nm), x6, x7, x8, x9, x10, x11, x12] H4 := by
  obtain ⟨A1, bx, hlp⟩ := f.next
  obtain ⟨u, hpo, hP⟩ := id A1.ex
  obtain ⟨kt, F, rfl, h2, h3, h4⟩ := id hP
  have hkl := h2.length
  have h5 := congrArg List.length h3
  rw [List.length_map] at h5
  have nb : p ≠ b := fun e => A1.nm (e ▸ hb)
  refine ⟨_, rfl, _, rfl, p, _, rfl, DPut.k (k := Sum.inr nm) hpo (line_lt (by omega)), ?_⟩
  rw [hN]
  exact ⟨⟨A1.set (hP.put hn hv ⟨hs, hp⟩) PDs.mono, bx.put (by simp) nb, off_put _ _ hlp⟩, _, _, _, _, _, _, _, _, _, rfl⟩
def PFc (ns : List Str) (fs : List Fd) (G : Hp) (o : HO) : Prop := ∃ us gs, o = .lst us ∧ Paired (RepFd G) us gs ∧ (gs.map (·.nm)).Sublist (fs.map (·.nm)) ∧ ∀ f ∈ gs, nm1 f.nm ∧ f.ty ∈ ns ∧ ∀ d, f.pr ≠ .dft d
theorem PFc.mono {ns : List Str} {fs : List Fd} : Mono (PFc ns fs) := fun _ _ _ ⟨us, gs, h1, h2, h3⟩ s => ⟨us, gs, h1, L2.Paired.mapP h2 fun _ _ z => z.same s, h3⟩
def PCc (cs : List (Str × Str)) (G : Hp) (o : HO) : Prop := ∃ us gs, o = .lst us ∧ Paired (RepCs G) us gs ∧ gs.Sublist cs
theorem PCc.mono {cs : List (Str × Str)} : Mono (PCc cs) := fun _ _ _ ⟨us, gs, h1, h2, h3⟩ s => ⟨us, gs, h1, L2.Paired.mapP h2 fun _ _ z => z.same s, h3⟩
section
variable {P : Program} {w : World} {K : PySem.W.Frag} {mg : Str → Option Value} {base : Heap} {C kA : Addr}
def spChanged (C : Addr) : Sp := fun vs H Q _ => ∃ (b o : Addr) (M : List Addr) (root : Str) (F : Dfs), vs = [.ref b, .ref o] ∧ Box M H b ∧ FormAt C (off M H) o root F ∧ root ∈ F.map (·.1) ∧ GdF F 10 ∧ FormQ C b M H 20 Q
theorem ok_changed (h : Has K mg "_law_changed" s_l_changed p_l_changed) (T : Txt K mg C kA) (c_l_draw : Cal P w K mg base 1 "_law_draw" spDraw []) (c_l_definition : Cal P w K mg base 2 "_law_definition" spDef []) (c_l_bare : Cal P w K mg base 1 "_law_bare" spBare []) (c_l_filled : Cal P w K mg base 5 "_law_filled" spFilled []) (C_Format : Mak P w K mg base 1 "Format" C (spInit C) []) : Cal P w K mg base 6 "_law_changed" (spChanged C) [] := by
  refine h.cal sc_l_changed (fun vs H Q E h => ?_) (fun f cdv A outer s H vs Q E hr h => ?_)
  · obtain ⟨b, o, M, root, F, rfl, _⟩ := h
    rfl
  obtain ⟨b, o, M, root, F, rfl, bx0, ⟨dx, dd, ho, hds⟩, hroot, g, q⟩ := h
  refine ⟨_, (pss_cons (ps_set (i := 2) sc_l_changed.nd rfl (Or.inl rfl) (pe_c c_l_bare hr (by omega) rfl (pa_cons (pe_fld (pv 1) rfl) pa_nil)))
      (pss_cons (ps_set (i := 3) sc_l_changed.nd rfl (Or.inl rfl) (pe_callB (call_sD rfl) rfl T.z_sorted (by decide +kernel) (pa_cons (pv 2) pa_nil)))
      (pss_cons (ps_for PassesOwn.never rfl (pi_range1 rfl T.z_range (pa_cons (pe_c c_l_draw hr (by omega) rfl (pa_cons (pv 0) (pa_cons pe_int pa_nil))) pa_nil)) (pg_name (i := 4) sc_l_changed.nd rfl (Or.inl rfl))
        (pss_cons (ps_set (i := 5) sc_l_changed.nd rfl (Or.inl rfl) (pe_ix ix_list (pv 3) (pe_op op_modN (pe_callTy call_int1 rfl T.z_int (by decide +kernel) (pa_cons (pe_c c_l_draw hr (by omega) rfl (pa_cons (pv 0) (pa_cons pe_int pa_nil))) pa_nil)) (pe_callB call_len_seq rfl T.z_len (by decide +kernel) (pa_cons (pv 3) pa_nil))) (fun _ _ => rfl)))
        (pss_cons (ps_set (i := 6) sc_l_changed.nd rfl (Or.inl rfl) (pe_dget (hu_of hr) (pv 2) (pv 5) (fun _ _ => rfl)))
        (pss_cons (ps_set (i := 7) sc_l_changed.nd rfl (Or.inl rfl) (pe_c c_l_draw hr (by omega) rfl (pa_cons (pv 0) (pa_cons pe_int pa_nil))))
        (pss_one (ps_if (pt_cmpR op_eq (pv 7) pe_int (nomark _)) (pss_one (ps_dput (hu_of hr) (pv 2) (pv 5) (pe_c c_l_definition hr (by omega) rfl (pa_cons (pv 0) (pa_cons (pv 3) pa_nil))) rfl)) (pss_one (ps_if (pt_cmpR op_eq (pe_ix ix_tup (pv 6) pe_int (fun _ _ => rfl)) pe_str (nomark _)) (pss_one (ps_dput (hu_of hr) (pv 2) (pv 5) (pe_tup (pa_cons pe_str (pa_cons (pe_op op_sub (pe_ix ix_tup (pv 6) pe_int (fun _ _ => rfl)) (pe_c c_l_draw hr (by omega) rfl (pa_cons (pv 0) (pa_cons pe_int pa_nil)))) (pa_cons (pe_op op_add (pe_ix ix_tup (pv 6) pe_int (fun _ _ => rfl)) (pe_c c_l_draw hr (by omega) rfl (pa_cons (pv 0) (pa_cons pe_int pa_nil)))) pa_nil)))) rfl)) (pss_one (ps_if (pt_cmpR op_eq (pe_ix ix_tup (pv 6) pe_int (fun _ _ => rfl)) pe_str (nomark _)) (pss_one (ps_dput (hu_of hr) (pv 2) (pv 5) (pe_tup (pa_cons pe_str (pa_cons (pe_callB (cr_min rfl) rfl T.z_min (by decide +kernel) (pa_cons (pe_lst (pa_cons pe_int (pa_cons (pe_op op_add (pe_ix ix_tup (pv 6) pe_int (fun _ _ => rfl)) (pe_c c_l_draw hr (by omega) rfl (pa_cons (pv 0) (pa_cons pe_int pa_nil)))) pa_nil))) pa_nil)) pa_nil))) rfl)) (pss_one (ps_if (pt_cmpR op_eq (pe_ix ix_tup (pv 6) pe_int (fun _ _ => rfl)) pe_str (nomark _)) (pss_one (ps_dput (hu_of hr) (pv 2) (pv 5) (pe_tup (pa_cons pe_str (pa_cons (pe_ix ix_tup (pv 6) pe_int (fun _ _ => rfl)) (pa_cons (pe_callB (cr_max rfl) rfl T.z_max (by decide +kernel) (pa_cons (pe_lst (pa_cons pe_int (pa_cons (pe_op op_sub (pe_ix ix_tup (pv 6) pe_int (fun _ _ => rfl)) (pe_c c_l_draw hr (by omega) rfl (pa_cons (pv 0) (pa_cons pe_int pa_nil)))) pa_nil))) pa_nil)) (pa_cons (pe_op op_add (pe_ix ix_tup (pv 6) pe_int (fun _ _ => rfl)) (pe_c c_l_draw hr (by omega) rfl (pa_cons (pv 0) (pa_cons pe_int pa_nil)))) pa_nil))))) rfl)) (pss_one (ps_if (pt_cmpR op_eq (pe_ix ix_tup (pv 6) pe_int (fun _ _ => rfl)) pe_str (nomark _)) (pss_cons (ps_set (i := 8) sc_l_changed.nd rfl (Or.inl rfl) (pe_lst pa_nil))
                  (pss_cons (ps_for PassesOwn.never rfl (pi_tup (pe_ix ix_tup (pv 6) pe_int (fun _ _ => rfl))) (pg_name (i := 9) sc_l_changed.nd rfl (Or.inl rfl))
                    (pss_cons (ps_set (i := 10) sc_l_changed.nd rfl (Or.inl rfl) (pe_ix ix_list (pe_lst (pa_cons pe_str (pa_cons pe_str (pa_cons pe_str (pa_cons (pe_ix ix_tup (pv 9) pe_int (fun _ _ => rfl)) pa_nil))))) (pe_c c_l_draw hr (by omega) rfl (pa_cons (pv 0) (pa_cons pe_int pa_nil))) (fun _ _ => rfl)))
                    (pss_one (ps_if (pt_cmpR op_gt (pe_c c_l_draw hr (by omega) rfl (pa_cons (pv 0) (pa_cons pe_int pa_nil))) pe_int (nomark _)) (pss_one (ps_expr (pe_bm PySem.F.plainAttrs_list PySem.F.slot_list_append PySem.F.type_list_append mt_append (pv 8) (pa_cons (pe_tup (pa_cons (pe_ix ix_tup (pv 9) pe_int (fun _ _ => rfl)) (pa_cons (pe_ix ix_tup (pv 9) pe_int (fun _ _ => rfl)) (pa_cons (pv 10) pa_nil)))) pa_nil)))) pss_nil))))
                  (pss_one (ps_dput (hu_of hr) (pv 2) (pv 5) (pe_tup (pa_cons pe_str (pa_cons (pe_callTy call_tuple_of rfl T.z_tuple (by decide +kernel) (pa_cons (pv 8) pa_nil)) pa_nil))) rfl)))) (pss_one (ps_if (pt_cmpR op_eq (pe_ix ix_tup (pv 6) pe_int (fun _ _ => rfl)) pe_str (nomark _)) (pss_cons (ps_setLc (i := 11) (own := [("_law_case", 12)]) (g := gName 12) rfl sc_l_changed.nd rfl rfl (sw_true rfl rfl rfl (by decide +kernel)) (pi_tup (pe_ix ix_tup (pv 6) pe_int (fun _ _ => rfl))) (blkOk_by (own := [("_law_case", 12)]) (N := n_l_changed) (sc := fnScope s_l_changed) (by decide +kernel)) (fun _ _ _ _ _ => pg_name (i := 12) sc_l_changed.nd rfl (Or.inl rfl)) (fun _ _ _ _ _ => (pts_one (pt_cmpR op_gt (pe_c c_l_draw hr (by omega) rfl (pa_cons (pv 0) (pa_cons pe_int pa_nil))) pe_int (nomark _)))) (fun _ _ _ _ _ => (pv 12)))
                    (pss_one (ps_dput (hu_of hr) (pv 2) (pv 5) (pe_tup (pa_cons pe_str (pa_cons (pe_callTy call_tuple_of rfl T.z_tuple (by decide +kernel) (pa_cons (pe_op op_cat (pv 11) (pe_op op_rep (pe_lst (pa_cons (pe_tup (pa_cons pe_str (pa_cons (pv 5) pa_nil))) pa_nil)) (pe_callTy call_int1 rfl T.z_int (by decide +kernel) (pa_cons (pe_notT (pv 11)) pa_nil)))) pa_nil)) (pa_cons (pe_ix ix_list (pe_lst (pa_cons (pe_ix ix_tup (pv 6) pe_int (fun _ _ => rfl)) (pa_cons pe_str pa_nil))) (pe_c c_l_draw hr (by omega) rfl (pa_cons (pv 0) (pa_cons pe_int pa_nil))) (fun _ _ => rfl)) pa_nil)))) rfl))) pss_nil))))))))))))))))
      (pss_one (ps_ret (pe_mk C_Format hr (by omega) rfl (pa_cons (pe_fld (pv 1) rfl) (pa_cons (pe_c c_l_filled hr (by omega) rfl (pa_cons (pv 0) (pa_cons (pv 2) pa_nil))) pa_nil)))))))), ?_⟩
  refine ⟨_, rfl, o, C, dx, _, _, rfl, off_at ho, T.cl, T.nDefs, flF_defs _ _, dd, M, F, 10, rfl, bx0.al, hds, g.sh, g.gd, fun p H1 sm1 np hdp => ?_⟩
  have sub : ∀ a ∈ [b], a ∈ M := by
    intro a ha
    rw [List.mem_singleton.mp ha]
    exact bx0.mem
  have hpb : p ≠ b := bx0.ne np
  obtain ⟨kd, hkd, hpd⟩ := hdp
  have ens : (F.map bareE).map (·.1) = F.map (·.1) := by rw [List.map_map]; rfl
  have hns4 : (F.map (·.1)).length ≤ 4 := by rw [List.length_map]; exact g.sh.len
  have A0 : Acc [b] M H H1 p (PDs (F.map (·.1)) (OkC (F.map (·.1)) 0)) := ⟨np, bx0.al, sub, Stp.of_same sm1, _, hkd, kd, F.map bareE, rfl, hpd, ens, fun e he => by
    obtain ⟨e0, h0, rfl⟩ := List.mem_map.mp he
    exact ⟨bareD_sh (g.sh.df _ h0), bareD_pl⟩⟩
  have bx1 : Box (p :: M) H1 b := bx0.over sm1 np hkd
  refine ⟨_, rfl, p, kd, F.map (·.1), rfl, .inl hkd, by rw [keys_ofE hpd, ens], by omega, fun ys lp hperm _ nlp => ?_⟩
  have e1 := same_new nlp (.lst (ys.map V.str))
  have CS0 : CS b M H p (F.map (·.1)) ys lp 0 (upd H1 lp (.lst (ys.map V.str))) := ⟨A0.step PDs.mono (Stp.of_same e1), bx1.same e1, off_in A0.alp nlp upd_same⟩
  have hyl : 0 < ys.length := by
    rw [hperm.length_eq, List.length_map]
    exact g.sh.ne
  refine ⟨_, rfl, b, 4, p :: M, rfl, by decide, CS0.bx, fun tn H2 tn0 tn9 st2 bx2 => ?_⟩
  refine ⟨tn, rfl, by omega, by omega, ?_⟩
  refine for_range (lo := 0) (CN b o M H p (F.map (·.1)) ys lp) ⟨CS0.step st2 bx2, _, _, _, _, _, _, _, _, _, rfl⟩ ?_ ?_
  · rintro k σ H3 hk ⟨cs3, x4, x5, x6, x7, x8, x9, x10, x11, x12, rfl⟩
    refine ⟨_, rfl, _, rfl, b, 900, p :: M, rfl, by decide, cs3.bx, fun z H4 z0 z9 st4 bx4 => ?_⟩
    have cs4 := cs3.step st4 bx4
    have hl4 := off_at cs4.lp
    have hm := fmod_lt (x := z) (m := ((ys.map V.str).length : Int)) (by rw [List.length_map]; omega)
    have hlt : (z.fmod ((ys.map V.str).length : Int)).toNat < ys.length := by rw [List.length_map] at hm ⊢; omega
    refine .inl ⟨_, rfl, _, rfl, lp, _, rfl, .inl (SqL.of hl4), _, _, rfl, rfl, by rw [List.length_map]; omega, lp, _, _, .str (ys[(z.fmod ((ys.map V.str).length : Int)).toNat]'hlt), rfl, rfl, SqL.of hl4, at_of (j := (z.fmod ((ys.map V.str).length : Int)).toNat) (by omega) (get_strs (List.getElem?_eq_getElem hlt)), ?_⟩
    have hn : ys[(z.fmod ((ys.map V.str).length : Int)).toNat]'hlt ∈ F.map (·.1) := hperm.mem_iff.mp (List.getElem_mem hlt)
    generalize ys[(z.fmod ((ys.map V.str).length : Int)).toNat]'hlt = nm at hn ⊢
    clear hm hlt
    obtain ⟨u, hpo, kt, F4, rfl, h2, h3, h4⟩ := id cs4.acc.ex
    have hn4 : nm ∈ F4.map (·.1) := by rw [h3]; exact hn
    obtain ⟨df, hdf⟩ := look_some.mpr hn4
    rcases look_def nm h2 with ⟨e1, _⟩ | ⟨v, df', e1, e2, e3⟩
    · rw [e1] at hdf; cases hdf
    rw [e1] at hdf
    cases hdf
    obtain ⟨hsh, hpl⟩ := h4 _ (look_mem e1)
    replace hsh : ShD (F.map (·.1)) (10 + k) df := hsh
    refine ⟨_, rfl, _, rfl, p, v, rfl, e2 ▸ DGet.k (k := Sum.inr nm) hpo, ?_⟩
    refine ⟨_, rfl, b, 4, p :: M, rfl, by decide, bx4, fun kn H5 kn0 kn9 st5 bx5 => ?_⟩
    have cs5 := cs4.step st5 bx5
    have e5 : RepDf (off (p :: M) H5) v df := e3.same (st5.offb bx4.mem)
    clear e1 e2 e3 h2 h3 h4 hpo hn4
    refine ⟨_, rfl, rfl, _, rfl, ifS (fun _ => ?_) (fun _ => ?_)⟩
    · refine ⟨_, rfl, _, rfl, b, lp, p :: M, ys, rfl, bx5, cs5.lp, hyl, fun v' H6 df' st6 bx6 hv hs hp => ?_⟩
      exact chg_fin bx0.mem hn hns4 (cs5.step st6 bx6) hv ((hs.to fun x hx => hperm.mem_iff.mp hx).mono (by omega)) hp rfl
    have so5 : ∀ {H6 : Hp}, Stp [b] H5 H6 → Same (off (p :: M) H5) (off (p :: M) H6) := fun s => s.offb bx5.mem
    obtain ⟨a, rfl, ha7⟩ := id e5
    cases df with
    | any =>
        refine ⟨_, rfl, a, _, _, .str "any", rfl, rfl, SqT.of (off_at ha7), at_of (j := 0) rfl rfl, rfl, _, rfl, ifF (ne_str (by decide +kernel)) ?_⟩
        refine ⟨_, rfl, a, _, _, .str "any", rfl, rfl, SqT.of (off_at ha7), at_of (j := 0) rfl rfl, rfl, _, rfl, ifF (ne_str (by decide +kernel)) ?_⟩
        refine ⟨_, rfl, a, _, _, .str "any", rfl, rfl, SqT.of (off_at ha7), at_of (j := 0) rfl rfl, rfl, _, rfl, ifF (ne_str (by decide +kernel)) ?_⟩
        refine ⟨_, rfl, a, _, _, .str "any", rfl, rfl, SqT.of (off_at ha7), at_of (j := 0) rfl rfl, rfl, _, rfl, ifF (ne_str (by decide +kernel)) ?_⟩
        refine ⟨_, rfl, a, _, _, .str "any", rfl, rfl, SqT.of (off_at ha7), at_of (j := 0) rfl rfl, rfl, _, rfl, ifF (ne_str (by decide +kernel)) ?_⟩
        exact ⟨cs5.next, _, _, _, _, _, _, _, _, _, rfl⟩
    | int lo hi =>
        refine ⟨_, rfl, a, _, _, .str "integer", rfl, rfl, SqT.of (off_at ha7), at_of (j := 0) rfl rfl, rfl, _, rfl, ifT rfl ?_⟩
        refine ⟨_, rfl, a, _, _, .int lo, rfl, rfl, SqT.of (off_at ha7), at_of (j := 1) rfl rfl, _, rfl, b, 2, p :: M, rfl, by decide, bx5, fun y H6 y0 y9 st6 bx6 => ?_⟩
        refine ⟨_, _, rfl, rfl, _, rfl, a, _, _, .int hi, rfl, rfl, SqT.of (off_at (so5 st6 _ _ ha7)), at_of (j := 2) rfl rfl, _, rfl, b, 2, p :: M, rfl, by decide, bx6, fun y2 H7 y20 y29 st7 bx7 => ?_⟩
        refine ⟨_, _, rfl, rfl, by show 3 ≤ sizeLine; decide, fun t nt => ?_⟩
        have e6 := same_new nt (.tup [.str "integer", .int (lo - y), .int (hi + y2)])
        refine chg_fin (df := .int (lo - y) (hi + y2)) bx0.mem hn hns4 ((cs5.step (st6.trans st7) bx7).same e6) ⟨t, rfl, off_in bx7.al nt upd_same⟩ ?_ trivial rfl
        obtain ⟨b1, b2⟩ := hsh
        exact ⟨by omega, by omega⟩
    | txt m =>
        refine ⟨_, rfl, a, _, _, .str "text", rfl, rfl, SqT.of (off_at ha7), at_of (j := 0) rfl rfl, rfl, _, rfl, ifF (ne_str (by decide +kernel)) ?_⟩
        refine ⟨_, rfl, a, _, _, .str "text", rfl, rfl, SqT.of (off_at ha7), at_of (j := 0) rfl rfl, rfl, _, rfl, ifT rfl ?_⟩
        refine ⟨_, rfl, a, _, _, .int m, rfl, rfl, SqT.of (off_at ha7), at_of (j := 1) rfl rfl, _, rfl, b, 2, p :: M, rfl, by decide, bx5, fun y H6 y0 y9 st6 bx6 => ?_⟩
        refine ⟨_, _, rfl, rfl, by show 2 ≤ sizeLine; decide, fun l nl => ?_⟩
        have e6 := same_new nl (.lst [.int 2, .int (m + y)])
        refine ⟨l, [2, m + y], rfl, SqL.of upd_same, by show 0 < 2; decide, fun mn hmn hmn2 => ⟨by show 2 ≤ sizeLine; decide, fun t nt => ?_⟩⟩
        have e7 := same_new nt (.tup [.str "text", .int mn])
        refine chg_fin (df := .txt mn) bx0.mem hn hns4 (((cs5.step st6 bx6).same e6).same e7) ⟨t, rfl, off_in (bx6.al.same e6) nt upd_same⟩ ?_ trivial rfl
        obtain ⟨b1, b2⟩ := hsh
        have := hmn2 2 (by simp)
        refine ⟨?_, by omega⟩
        simp only [List.mem_cons, List.not_mem_nil, or_false] at hmn
        omega
    | lst e lo hi =>
        refine ⟨_, rfl, a, _, _, .str "list", rfl, rfl, SqT.of (off_at ha7), at_of (j := 0) rfl rfl, rfl, _, rfl, ifF (ne_str (by decide +kernel)) ?_⟩
        refine ⟨_, rfl, a, _, _, .str "list", rfl, rfl, SqT.of (off_at ha7), at_of (j := 0) rfl rfl, rfl, _, rfl, ifF (ne_str (by decide +kernel)) ?_⟩
        refine ⟨_, rfl, a, _, _, .str "list", rfl, rfl, SqT.of (off_at ha7), at_of (j := 0) rfl rfl, rfl, _, rfl, ifT rfl ?_⟩
        refine ⟨_, rfl, a, _, _, .str e, rfl, rfl, SqT.of (off_at ha7), at_of (j := 1) rfl rfl, ?_⟩
        refine ⟨_, rfl, a, _, _, .int lo, rfl, rfl, SqT.of (off_at ha7), at_of (j := 2) rfl rfl, _, rfl, b, 2, p :: M, rfl, by decide, bx5, fun y H6 y0 y9 st6 bx6 => ?_⟩
        refine ⟨_, _, rfl, rfl, by show 2 ≤ sizeLine; decide, fun l nl => ?_⟩
        have e6 := same_new nl (.lst [.int 0, .int (lo - y)])
        refine ⟨l, [0, lo - y], rfl, SqL.of upd_same, by show 0 < 2; decide, fun mn hmn hmn2 => ?_⟩
        have cs6 := (cs5.step st6 bx6).same e6
        refine ⟨_, rfl, a, _, _, .int hi, rfl, rfl, SqT.of (off_at ((offs_same e6) _ _ (so5 st6 _ _ ha7))), at_of (j := 3) rfl rfl, _, rfl, b, 2, p :: M, rfl, by decide, cs6.bx, fun y2 H7 y20 y29 st7 bx7 => ?_⟩
        refine ⟨_, _, rfl, rfl, by show 4 ≤ sizeLine; decide, fun t nt => ?_⟩
        have e7 := same_new nt (.tup [.str "list", .str e, .int mn, .int (hi + y2)])
        refine chg_fin (df := .lst e mn (hi + y2)) bx0.mem hn hns4 ((cs6.step st7 bx7).same e7) ⟨t, rfl, off_in bx7.al nt upd_same⟩ ?_ trivial rfl
        obtain ⟨b1, b2, b3⟩ := hsh
        have := hmn2 0 (by simp)
        refine ⟨b1, ?_, by omega⟩
        simp only [List.mem_cons, List.not_mem_nil, or_false] at hmn
        omega
    | rcd fs =>
      obtain ⟨fa, us, ha7, hfa, hfs⟩ := ha7
      refine ⟨_, rfl, a, _, _, .str "record", rfl, rfl, SqT.of (off_at ha7), at_of (j := 0) rfl rfl, rfl, _, rfl, ifF (ne_str (by decide +kernel)) ?_⟩
      refine ⟨_, rfl, a, _, _, .str "record", rfl, rfl, SqT.of (off_at ha7), at_of (j := 0) rfl rfl, rfl, _, rfl, ifF (ne_str (by decide +kernel)) ?_⟩
      refine ⟨_, rfl, a, _, _, .str "record", rfl, rfl, SqT.of (off_at ha7), at_of (j := 0) rfl rfl, rfl, _, rfl, ifF (ne_str (by decide +kernel)) ?_⟩
      refine ⟨_, rfl, a, _, _, .str "record", rfl, rfl, SqT.of (off_at ha7), at_of (j := 0) rfl rfl, rfl, _, rfl, ifT rfl ?_⟩
      refine ⟨by show 0 ≤ sizeLine; decide, fun fo nfo => ?_⟩
      have B0 : Acc [b] (p :: M) H5 (upd H5 fo (.lst [])) fo (PFc (F.map (·.1)) (fs.take 0)) := Acc.new nfo bx5.al (fun a ha => List.mem_cons_of_mem _ (sub a ha)) fun G => ⟨[], [], rfl, .nil, List.Sublist.refl _, by simp⟩
      have hfb : fo ≠ b := bx5.ne nfo
      refine ⟨_, rfl, a, _, _, .ref fa, rfl, rfl, SqT.of (off_at (B0.so _ _ ha7)), at_of (j := 1) rfl rfl, fa, rfl, ⟨_, SqT.of (off_at (B0.so _ _ hfa))⟩, ?_⟩
      refine for_tup (K := K) (xs := us) (fun i σ H' => Acc [b] (p :: M) H5 H' fo (PFc (F.map (·.1)) (fs.take i)) ∧ Box (fo :: p :: M) H' b ∧ ∃ (x9 x10 : Option V), σ = [some (.ref b), some (.ref o), some (.ref p), some (.ref lp), some (.int (0 + (k : Int))), some (.str nm), some (.ref a), some (.int kn), some (.ref fo), x9, x10, x11, x12])
        ⟨B0, bx5.also nfo, _, _, rfl⟩ (fun i σ H' _ h => SqT.of (off_at (h.1.so _ _ hfa))) ?_ ?_
      · rintro i x σ H6 hx ⟨B1, bx6, x9, x10, rfl⟩
        obtain ⟨f, hf, rf⟩ := paired_get hfs hx
        have hfm := List.mem_of_getElem? hf
        have rf6 := rf.same B1.so
        obtain ⟨xa, ws, rfl, hxa, w0, w1, w2⟩ := rf6.parts
        refine ⟨_, rfl, xa, ws, _, _, rfl, rfl, SqT.of (off_at hxa), at_of (j := 2) rfl w2, by show 4 ≤ sizeLine; decide, fun pl npl => ?_⟩
        have e6 := same_new npl (.lst [.str "required", .str "optional", .str "default", .str (prS f.pr)])
        have plb : pl ≠ b := bx6.ne npl
        refine ⟨_, rfl, b, 4, fo :: p :: M, rfl, by decide, bx6.same e6, fun y H7 y0 y9 st7 bx7 => ?_⟩
        have hpl7 : H7 pl = some (.lst [.str "required", .str "optional", .str "default", .str (prS f.pr)]) := st7.keep _ _ (by simpa using plb) upd_same
        obtain ⟨pr, hpr, hprd⟩ : ∃ pr : Pr, ([.str "required", .str "optional", .str "default", .str (prS f.pr)] : List V)[y.toNat]? = some (.str (prS pr)) ∧ ∀ d, pr ≠ .dft d := by
          have : y.toNat = 0 ∨ y.toNat = 1 ∨ y.toNat = 2 ∨ y.toNat = 3 := by omega
          rcases this with h | h | h | h <;> rw [h]
          · exact ⟨.req, rfl, fun d h => by cases h⟩
          · exact ⟨.opt, rfl, fun d h => by cases h⟩
          · exact ⟨.mark, rfl, fun d h => by cases h⟩
          · exact ⟨f.pr, rfl, hpl f hfm⟩
        refine ⟨pl, _, _, _, rfl, rfl, SqL.of hpl7, at_of (j := y.toNat) (by omega) hpr, ?_⟩
        refine ⟨_, rfl, b, 4, fo :: p :: M, rfl, by decide, bx7, fun y2 H8 y20 y29 st8 bx8 => ?_⟩
        have B2 := B1.step PFc.mono ((Stp.of_same e6).trans (st7.trans st8))
        have hxa8 := (st8.offb bx7.mem) _ _ ((st7.offb (bx6.same e6).mem) _ _ ((offs_same e6) _ _ hxa))
        rw [take_get hf]
        refine ⟨_, _, rfl, rfl, _, rfl, ifS (fun _ => ?_) (fun _ => ⟨B2.as fun G o ⟨us, gs, h1, h2, h3, h4⟩ => ⟨us, gs, h1, h2, h3.trans (by rw [List.map_append]; exact List.sublist_append_left _ _), h4⟩, bx8, _, _, rfl⟩)⟩
        obtain ⟨_, hfo, us', fs', rfl, g1, g2, g3⟩ := id B2.ex
        have hul : us'.length ≤ 3 := by
          have h1 := g1.length
          have h2 := g2.length_le
          rw [List.length_map, List.length_map, List.length_take] at h2
          have := hsh.1
          omega
        refine ⟨_, rfl, .inl ⟨rfl, _, SqL.of hfo⟩, _, rfl, xa, ws, _, _, rfl, rfl, SqT.of (off_at hxa8), at_of (j := 0) rfl w0, _, rfl, xa, ws, _, _, rfl, rfl, SqT.of (off_at hxa8), at_of (j := 1) rfl w1, _, rfl, by show 3 ≤ sizeLine; decide, fun t nt => ?_⟩
        have e8 := same_new nt (.tup [.str f.nm, .str f.ty, .str (prS pr)])
        have B3 := B2.step PFc.mono (Stp.of_same e8)
        refine ⟨fo, _, _, rfl, rfl, e8 _ _ hfo, line_lt (by omega), ?_⟩
        refine ⟨B3.set ⟨us' ++ [.ref t], fs' ++ [⟨f.nm, f.ty, pr⟩], rfl, paired_append (L2.Paired.mapP g1 fun _ _ z => z.same (offs_same e8)) (.cons (fd_rep hprd (off_in B2.alp nt upd_same)) .nil), ?_, fun f' hf' => ?_⟩ PFc.mono, (bx8.same e8).put (by simp) hfb, _, _, rfl⟩
        · rw [List.map_append, List.map_append]
          exact g2.append (List.Sublist.refl _)
        · rcases List.mem_append.mp hf' with hf' | hf'
          · exact g3 f' hf'
          · rw [List.mem_singleton.mp hf']
            exact ⟨(hsh.2.2 f hfm).1, (hsh.2.2 f hfm).2, hprd⟩
      · rintro σ H6 ⟨B1, bx6, x9, x10, rfl⟩
        obtain ⟨_, hfo, us', fs', rfl, g1, g2, g3⟩ := id B1.ex
        have g2' := g2.trans ((List.take_sublist _ _).map _)
        refine ⟨_, rfl, fo, us', rfl, .inl ⟨SqL.of hfo, fun tp ntp => ?_⟩⟩
        have e4 := same_new ntp (.tup us')
        refine ⟨by show 2 ≤ sizeLine; decide, fun a2 na2 => ?_⟩
        have e5 := same_new na2 (.tup [.str "record", .ref tp])
        have e45 := e4.trans e5
        have bx6' := bx6.less bx5.mem
        have cs6 := (cs5.step B1.st bx6').same e45
        refine chg_fin (df := .rcd fs') bx0.mem hn hns4 cs6 ⟨a2, rfl, tp, us', off_in (bx6'.al.same e4) na2 upd_same, off_in bx6'.al ntp (e5 _ _ upd_same), L2.Paired.mapP g1 fun _ _ z => (z.same off_less).same (offs_same e45)⟩ ⟨?_, g2'.nodup hsh.2.1, fun f' hf' => ⟨(g3 f' hf').1, (g3 f' hf').2.1⟩⟩ (fun f' hf' => (g3 f' hf').2.2) rfl
        have h2 := g2'.length_le
        rw [List.length_map, List.length_map] at h2
        exact Nat.le_trans h2 hsh.1
    | cho cs fb =>
      obtain ⟨ca, us, y, ha7, hca, hcs, hfb⟩ := ha7
      refine ⟨_, rfl, a, _, _, .str "choice", rfl, rfl, SqT.of (off_at ha7), at_of (j := 0) rfl rfl, rfl, _, rfl, ifF (ne_str (by decide +kernel)) ?_⟩
      refine ⟨_, rfl, a, _, _, .str "choice", rfl, rfl, SqT.of (off_at ha7), at_of (j := 0) rfl rfl, rfl, _, rfl, ifF (ne_str (by decide +kernel)) ?_⟩
      refine ⟨_, rfl, a, _, _, .str "choice", rfl, rfl, SqT.of (off_at ha7), at_of (j := 0) rfl rfl, rfl, _, rfl, ifF (ne_str (by decide +kernel)) ?_⟩
      refine ⟨_, rfl, a, _, _, .str "choice", rfl, rfl, SqT.of (off_at ha7), at_of (j := 0) rfl rfl, rfl, _, rfl, ifF (ne_str (by decide +kernel)) ?_⟩
      refine ⟨_, rfl, a, _, _, .str "choice", rfl, rfl, SqT.of (off_at ha7), at_of (j := 0) rfl rfl, rfl, _, rfl, ifT rfl ?_⟩
      refine ⟨_, rfl, a, _, _, .ref ca, rfl, rfl, SqT.of (off_at ha7), at_of (j := 1) rfl rfl, ca, rfl, ⟨_, SqT.of (off_at hca)⟩, fun L nL => ?_⟩
      have B0 : Acc [b] (p :: M) H5 (upd H5 L (.lst [])) L (PCc (cs.take 0)) := Acc.new nL bx5.al (fun a ha => List.mem_cons_of_mem _ (sub a ha)) fun G => ⟨[], [], rfl, .nil, List.Sublist.refl _⟩
      have hLb : L ≠ b := bx5.ne nL
      refine lc_tup (K := K) (xs := us) (fun i H' => Acc [b] (p :: M) H5 H' L (PCc (cs.take i)) ∧ Box (L :: p :: M) H' b) ⟨B0, bx5.also nL⟩ (fun i H' _ h => SqT.of (off_at (h.1.so _ _ hca))) ?_ ?_
      · rintro i x H6 hx ⟨B1, bx6⟩
        obtain ⟨c, hc, rc⟩ := paired_get hcs hx
        refine ⟨rfl, _, rfl, b, 4, L :: p :: M, rfl, by decide, bx6, fun y2 H7 y20 y29 st7 bx7 => ?_⟩
        have B2 := B1.step PCc.mono st7
        rw [take_get hc]
        refine ⟨_, _, rfl, rfl, _, rfl, ifS (fun _ => ?_) (fun _ => ⟨B2.as fun G o ⟨us, gs, h1, h2, h3⟩ => ⟨us, gs, h1, h2, h3.trans (List.sublist_append_left _ _)⟩, bx7⟩)⟩
        obtain ⟨_, hL, us', cs', rfl, g1, g2⟩ := id B2.ex
        have hul : us'.length ≤ 4 := by
          have h1 := g1.length
          have h2 := g2.length_le
          rw [List.length_take] at h2
          have := hsh.1
          omega
        exact ⟨_, rfl, _, hL, line_lt (by omega), B2.set ⟨_, cs' ++ [c], rfl, paired_append g1 (.cons (rc.same B2.so) .nil), g2.append (List.Sublist.refl _)⟩ PCc.mono, bx7.put (by simp) hLb⟩
      · rintro H6 ⟨B1, bx6⟩
        obtain ⟨_, hL, us', cs', rfl, g1, g2⟩ := id B1.ex
        have g2' := g2.trans (List.take_sublist _ _)
        have hul : us'.length ≤ 4 := by
          have h1 := g1.length
          have h2 := g2'.length_le
          have := hsh.1
          omega
        have bx6' := bx6.less bx5.mem
        refine ⟨_, rfl, _, rfl, by show 2 ≤ sizeLine; decide, fun t1 n1 => ⟨by show 1 ≤ sizeLine; decide, fun l1 n2 => ?_⟩⟩
        have e1 := same_new n1 (.tup [.str "s", .str nm])
        have e2 := same_new n2 (.lst [.ref t1])
        have e12 := e1.trans e2
        refine ⟨_, rfl, !us'.isEmpty, .inl ⟨us', SqL.of (e12 _ _ hL), rfl⟩, .inr ⟨_, rfl, ?_⟩⟩
        rw [Bool.not_not]
        refine ⟨l1, _, [.ref t1], rfl, rfl, upd_same, by cases us'.isEmpty <;> decide, by cases us'.isEmpty <;> decide, line_small (by show 1 * _ ≤ _; cases us'.isEmpty <;> decide), fun l2 n3 => ?_⟩
        have e3 := same_new n3 (.lst (List.replicate (if us'.isEmpty = true then (1 : Int) else 0).toNat [V.ref t1]).flatten)
        have e23 := e12.trans e3
        refine ⟨L, l2, _, _, rfl, rfl, e23 _ _ hL, upd_same, line_small (by cases us'.isEmpty <;> simp <;> omega), fun l3 n4 => ?_⟩
        have e4 := same_new n4 (.lst (us' ++ (List.replicate (if us'.isEmpty = true then (1 : Int) else 0).toNat [V.ref t1]).flatten))
        refine ⟨l3, _, rfl, .inl ⟨SqL.of upd_same, fun tp n5 => ?_⟩⟩
        have e5 := same_new n5 (.tup (us' ++ (List.replicate (if us'.isEmpty = true then (1 : Int) else 0).toNat [V.ref t1]).flatten))
        have e45 := (e23.trans e4).trans e5
        have ha8 : off (p :: M) _ a = some _ := (offs_same e45) _ _ (so5 B1.st _ _ ha7)
        refine ⟨_, rfl, a, _, _, y, rfl, rfl, SqT.of (off_at ha8), at_of (j := 2) rfl rfl, by show 2 ≤ sizeLine; decide, fun l4 n6 => ?_⟩
        have e6 := same_new n6 (.lst [y, .str "fallback"])
        have cs7 := (cs5.step B1.st bx6').same (e45.trans e6)
        have l4b : l4 ≠ b := (bx6'.same e45).ne n6
        refine ⟨_, rfl, b, 2, p :: M, rfl, by decide, cs7.bx, fun y2 H8 y20 y29 st8 bx8 => ?_⟩
        have hl48 : H8 l4 = some (.lst [y, .str "fallback"]) := st8.keep _ _ (by simpa using l4b) upd_same
        have so8 : Same (off (p :: M) H6) (off (p :: M) H8) := (offs_same (e45.trans e6)).trans (st8.offb cs7.bx.mem)
        obtain ⟨y', fb', hy, hfb1, hfb2⟩ : ∃ (y' : V) (fb' : Fb), ([y, .str "fallback"] : List V)[y2.toNat]? = some y' ∧ RepFb (off (p :: M) H8) y' fb' ∧ ∀ d, fb' ≠ .val d := by
          have : y2.toNat = 0 ∨ y2.toNat = 1 := by omega
          rcases this with h | h <;> rw [h]
          · exact ⟨y, fb, rfl, (hfb.same (so5 B1.st)).same so8, hpl⟩
          · exact ⟨.str "fallback", .mark, rfl, rfl, fun d h => by cases h⟩
        refine ⟨l4, _, _, y', rfl, rfl, SqL.of hl48, at_of (j := y2.toNat) (by omega) hy, by show 3 ≤ sizeLine; decide, fun t2 n7 => ?_⟩
        have e7 := same_new n7 (.tup [.str "choice", .ref tp, y'])
        have so9 := so8.trans (offs_same e7)
        have htp : off (p :: M) (upd H8 t2 (.tup [.str "choice", .ref tp, y'])) tp = some (.tup (us' ++ (List.replicate (if us'.isEmpty = true then (1 : Int) else 0).toNat [V.ref t1]).flatten)) := (offs_same e7) _ _ ((st8.offb cs7.bx.mem) _ _ ((offs_same e6) _ _ (off_in (bx6'.al.same (e23.trans e4)) n5 upd_same)))
        have ht1 : off (p :: M) (upd H8 t2 (.tup [.str "choice", .ref tp, y'])) t1 = some (.tup [.str "s", .str nm]) := (offs_same e7) _ _ ((st8.offb cs7.bx.mem) _ _ ((offs_same ((((e2.trans e3).trans e4).trans e5).trans e6)) _ _ (off_in bx6'.al n1 upd_same)))
        have g1' : Paired (RepCs (off (p :: M) (upd H8 t2 (.tup [.str "choice", .ref tp, y'])))) us' cs' := L2.Paired.mapP g1 fun _ _ z => (z.same off_less).same so9
        have fin : ∀ cs2, Paired (RepCs (off (p :: M) (upd H8 t2 (.tup [.str "choice", .ref tp, y'])))) (us' ++ (List.replicate (if us'.isEmpty = true then (1 : Int) else 0).toNat [V.ref t1]).flatten) cs2 → RepDf (off (p :: M) (upd H8 t2 (.tup [.str "choice", .ref tp, y']))) (.ref t2) (.cho cs2 fb') := fun cs2 h =>
          ⟨t2, rfl, tp, _, y', off_in bx8.al n7 upd_same, htp, h, hfb1.same (offs_same e7)⟩
        have cs9 := (cs7.step st8 bx8).same e7
        cases hus : us' with
        | nil =>
          rw [hus] at g1' fin
          cases g1'
          refine chg_fin (df := .cho [("s", nm)] fb') bx0.mem hn hns4 cs9 (fin _ (.cons ⟨t1, rfl, ht1⟩ .nil)) ⟨by show 1 ≤ 4; decide, by simp, fun c hc => ?_⟩ hfb2 rfl
          rw [List.mem_singleton.mp hc]
          exact ⟨nm1_of (show ("s" : Str) ∈ names8 by decide +kernel), hn⟩
        | cons u0 ur =>
          rw [hus] at g1' fin
          refine chg_fin (df := .cho cs' fb') bx0.mem hn hns4 cs9 (fin _ (by simpa using g1')) ⟨Nat.le_trans g2'.length_le hsh.1, (g2'.map _).nodup hsh.2.1, fun c hc => hsh.2.2 c (g2'.subset hc)⟩ hfb2 rfl
  · rintro σ H3 ⟨cs3, x4, x5, x6, x7, x8, x9, x10, x11, x12, rfl⟩
    obtain ⟨u, hpo, kt, F4, rfl, h2, h3, h4⟩ := id cs3.acc.ex
    have so : Same (off M H) (off M H3) := cs3.acc.so.trans off_less
    have sh4 : ShF F4 13 := ⟨by rw [h3]; exact g.sh.nd, by rw [h3]; exact g.sh.sub, by
      have h5 := congrArg List.length h3
      rw [List.length_map, List.length_map] at h5
      rw [h5]
      exact g.sh.ne, fun e he => by rw [h3]; exact (h4 e he).1.mono (by omega)⟩
    have st3 : Stp [b] H H3 := cs3.acc.st
    have bx3 := cs3.bx.less bx0.mem
    refine ⟨_, rfl, o, C, dx, _, _, rfl, off_at (so _ _ ho), T.cl, T.nRoot, flF_root _ _, _, rfl, _, rfl, b, p, M, F4, rfl, bx3, ⟨kt, off_in bx0.al np hpo, L2.Paired.mapP h2 fun _ _ z => ⟨z.1, z.2.same off_less⟩⟩, sh4.mono (by omega), fun e he => (h4 e he).2, fun p2 H4 F' st4 bx4 np2 hds2 fl => ?_⟩
    refine fun x dx hx hdx hne => form_new q (st3.trans st4) bx4 hds2 (fl.names.mem_iff.mpr (by rw [h3]; exact hroot)) ?_ hx hdx hne
    exact fl.gdf (sh4.mono (by omega))
end
end Ff
/-! Data that are compared place by place, as far as the first place that tells them apart. -/
namespace Ff
open PySem PySem.W PySem.SeqAt
open PyProof.Rows (lexLt lex_diff lex_self lex_irrefl itemOrd itemLt)
mutual
def cm : PyData → PyData → Bool
  | .int _, .int _ => true
  | .str _, .str _ => true
  | .tuple xs, .tuple ys => cmL xs ys
  | _, _ => false
def cmL : List PyData → List PyData → Bool
  | x :: xs, y :: ys => cm x y && (!(PyData.eqv x y) || cmL xs ys)
  | [], _ => true
  | _ :: _, [] => true
end
theorem cmL_cons {x y : PyData} {xs ys : List PyData} (h : cmL (x :: xs) (y :: ys) = true) : cm x y = true ∧ (PyData.eqv x y = true → cmL xs ys = true) := by
  rw [cmL, Bool.and_eq_true, Bool.or_eq_true] at h
  refine ⟨h.1, fun e => ?_⟩
  rcases h.2 with h2 | h2
  · rw [e] at h2; cases h2
  · exact h2
abbrev tkLt (a b : List (Int ⊕ List Nat)) : Bool := lexLt itemOrd a b
theorem tk_head {p q : Int ⊕ List Nat} (h : p ≠ q) (l m l' m' : List (Int ⊕ List Nat)) : tkLt (p :: l) (q :: m) = tkLt (p :: l') (q :: m') := by
  unfold tkLt
  rw [lex_diff h, lex_diff h]
mutual
theorem tk_cm : ∀ (x y : PyData), cm x y = true → (PyData.eqv x y = true → keyToks x = keyToks y) ∧ (PyData.eqv x y = false → ∀ l m, tkLt (keyToks x ++ l) (keyToks y ++ m) = tkLt (keyToks x) (keyToks y))
  | .int a, y, h => by
    cases y with
    | int b => exact toks_eqv _ _ rfl
    | _ => exact absurd h (by simp [cm])
  | .str a, y, h => by
    cases y with
    | str b => exact toks_eqv _ _ rfl
    | _ => exact absurd h (by simp [cm])
  | .tuple xs, y, h => by
    cases y with
    | tuple ys =>
      have := tkL_cm xs ys (by simpa [cm] using h)
      simp only [keyToks, PyData.eqv]
      exact this
    | _ => exact absurd h (by simp [cm])
  | .none, y, h => absurd h (by cases y <;> simp [cm])
  | .bool _, y, h => absurd h (by cases y <;> simp [cm])
  | .list _, y, h => absurd h (by cases y <;> simp [cm])
  | .dict _, y, h => absurd h (by cases y <;> simp [cm])
theorem tkL_cm : ∀ (xs ys : List PyData), cmL xs ys = true → (PyData.eqvAll xs ys = true → keyToksAll xs = keyToksAll ys) ∧ (PyData.eqvAll xs ys = false → ∀ l m, tkLt (keyToksAll xs ++ l) (keyToksAll ys ++ m) = tkLt (keyToksAll xs) (keyToksAll ys))
  | [], [], _ => ⟨fun _ => rfl, fun e => absurd e (by simp [PyData.eqvAll])⟩
  | [], y :: ys, _ => ⟨fun e => absurd e (by simp [PyData.eqvAll]), fun _ l m => by
      simp only [keyToksAll, List.cons_append, List.nil_append]
      exact tk_head (by simp) _ _ _ _⟩
  | x :: xs, [], _ => ⟨fun e => absurd e (by simp [PyData.eqvAll]), fun _ l m => by
      simp only [keyToksAll, List.cons_append, List.nil_append]
      exact tk_head (by simp) _ _ _ _⟩
  | x :: xs, y :: ys, h => by
    obtain ⟨h1, h2⟩ := cmL_cons h
    have a := tk_cm x y h1
    have ev : PyData.eqvAll (x :: xs) (y :: ys) = (PyData.eqv x y && PyData.eqvAll xs ys) := eqv_all_cons x y xs ys
    rw [ev, toks_all_cons x xs, toks_all_cons y ys]
    cases hx : PyData.eqv x y with
    | false =>
      refine ⟨fun e => by simp at e, fun _ l m => ?_⟩
      simp only [List.cons_append, List.append_assoc, tkLt]
      rw [lex_self, lex_self]
      exact (a.2 hx _ _).trans (a.2 hx _ _).symm
    | true =>
      have b := tkL_cm xs ys (h2 hx)
      rw [a.1 hx, Bool.true_and]
      refine ⟨fun e => by rw [b.1 e], fun e l m => ?_⟩
      simp only [List.cons_append, List.append_assoc, tkLt]
      rw [lex_self, lex_self, lex_pre, lex_pre]
      exact b.2 e l m
end
theorem lt_yes {x y : PyData} {xs ys : List PyData} (h : cm x y = true) (e : PyData.eqv x y = true) : tkLt (keyToksAll (x :: xs)) (keyToksAll (y :: ys)) = tkLt (keyToksAll xs) (keyToksAll ys) := by
  rw [toks_all_cons x xs, toks_all_cons y ys, (tk_cm x y h).1 e]
  unfold tkLt
  rw [lex_self, lex_pre]
theorem lt_no {x y : PyData} {xs ys : List PyData} (h : cm x y = true) (e : PyData.eqv x y = false) : tkLt (keyToksAll (x :: xs)) (keyToksAll (y :: ys)) = dataLt x y := by
  rw [toks_all_cons x xs, toks_all_cons y ys]
  unfold tkLt
  rw [lex_self]
  exact (tk_cm x y h).2 e _ _
/-- the place that decides -/
theorem first_cm : ∀ (xs ys : List PyData), cmL xs ys = true →
    firstLt (pairEq xs ys) (fun j => dataLt (xs.getD j .none) (ys.getD j .none)) (decide (xs.length < ys.length)) (List.range (min xs.length ys.length)) = tkLt (keyToksAll xs) (keyToksAll ys)
  | [], [], _ => by simp [firstLt, keyToksAll, lex_irrefl]
  | [], y :: ys, _ => by
    rw [toks_all_cons y ys]
    simp only [keyToksAll, tkLt]
    rw [lex_diff (by simp)]
    simp [firstLt, itemLt]
  | x :: xs, [], _ => by
    rw [toks_all_cons x xs]
    simp only [keyToksAll, tkLt]
    rw [lex_diff (by simp)]
    simp [firstLt, itemLt]
  | x :: xs, y :: ys, h => by
    obtain ⟨h1, h2⟩ := cmL_cons h
    have e1 : min (x :: xs).length (y :: ys).length = min xs.length ys.length + 1 := by simp only [List.length_cons]; omega
    have e2 : decide ((x :: xs).length < (y :: ys).length) = decide (xs.length < ys.length) := decide_eq_decide.mpr (by simp only [List.length_cons]; omega)
    rw [e1, e2, List.range_succ_eq_map]
    cases hx : PyData.eqv x y with
    | false =>
      rw [firstLt_no (show pairEq (x :: xs) (y :: ys) 0 = false from hx), lt_no h1 hx]
      rfl
    | true =>
      rw [firstLt_yes (show pairEq (x :: xs) (y :: ys) 0 = true from hx), firstLt_map, lt_yes h1 hx, ← first_cm xs ys (h2 hx)]
      rfl
/-- up to a place nothing differs: what stands there can be compared -/
theorem cmL_at : ∀ (xs ys : List PyData), cmL xs ys = true → ∀ j, j < xs.length → j < ys.length → (∀ i, i < j → pairEq xs ys i = true) → cm (xs.getD j .none) (ys.getD j .none) = true
  | x :: xs, y :: ys, h, 0, _, _, _ => (cmL_cons h).1
  | x :: xs, y :: ys, h, j + 1, h1, h2, h3 => by
    have e0 : PyData.eqv x y = true := h3 0 (by omega)
    exact cmL_at xs ys ((cmL_cons h).2 e0) j (by simpa using h1) (by simpa using h2) fun i hi => h3 (i + 1) (by omega)
/-! ### the order is a strict weak one -/
theorem swo_data (k : Value → PyData) : SrtO.Swo fun v u => dataLt (k v) (k u) := by
  refine ⟨fun x y h => ?_, fun x y z h1 h2 => ?_⟩
  · cases h2 : dataLt (k y) (k x) with
    | false => rfl
    | true =>
      have := PyProof.Rows.lex_trans (O := itemOrd) _ _ _ h h2
      rw [lex_irrefl] at this
      cases this
  · cases h3 : dataLt (k z) (k x) with
    | false => rfl
    | true =>
      rcases PyProof.Rows.lex_negTrans (O := itemOrd) _ (keyToks (k y)) _ h3 with h | h
      · have h : dataLt (k z) (k y) = true := h
        rw [h2] at h; cases h
      · have h : dataLt (k y) (k x) = true := h
        rw [h1] at h; cases h
/-! ### < of tuples, as far as the first difference -/
open AutoSeq1 (wpAny_loadPart')
open MeetsSeq MeetsSeq2 MeetsSeq3 SeqRoads2
theorem tup_lt (p q : Addr) (xs ys : Array Value) (n k : Nat) (d1 d2 : Option Addr) (sl sl2 : Array (Option Value)) (e r : Nat → Bool) :
    Meets (Builtin.«tuple.__lt__» ⟨[.ref p, .ref q], []⟩)
      (fun A R s => s.heap.get? p = some { cls := .type "tuple", dict := d1, data := .seq xs n, slots := sl } ∧ s.heap.get? q = some { cls := .type "tuple", dict := d2, data := .seq ys k, slots := sl2 } ∧
        (∀ j (h1 : j < xs.size) (h2 : j < ys.size), EqAt A.in1 s xs[j] ys[j] (e j)) ∧ (∀ j (h1 : j < xs.size) (h2 : j < ys.size), (∀ i, i < j → e i = true) → e j = false → RcLt A.in1 s xs[j] ys[j] (r j)) ∧
        R (.ok (.ret (.bool (firstLt e r (decide (xs.size < ys.size)) (List.range (min xs.size ys.size)))))) s) :=
  .of_wp fun prog w A R s h => by
    obtain ⟨hp, g, d, tk, os⟩ := s
    obtain ⟨hl, hb, he, hr, h⟩ := h
    have f2 := AutoSeq1.sub_tuple_tuple
    have hZ : (xs.toList.zip ys.toList).length = min xs.size ys.size := by simp
    wp_walk using wpAny_loadPart' hl, wpAny_loadPart' hb, wpAny_forIn_list _ (fun rest b s' => b.1 = none ∧ s' = ⟨hp, g, d, tk, os⟩ ∧ ∃ i, rest = (xs.toList.zip ys.toList).drop i ∧ (∀ i', i' < i → e i' = true) ∧
      R (.ok (.ret (.bool (firstLt e r (decide (xs.size < ys.size)) ((List.range (min xs.size ys.size)).drop i))))) ⟨hp, g, d, tk, os⟩) _
    case turn =>
      rintro ⟨y, x⟩ rest b s' ⟨hb', rfl, i, hz, hall, hR⟩
      have hm : i < min xs.size ys.size := by
        rcases Nat.lt_or_ge i (min xs.size ys.size) with h' | h'
        · exact h'
        · rw [List.drop_of_length_le (by omega)] at hz; cases hz
      have hlt : i < (xs.toList.zip ys.toList).length := by omega
      have h1 : i < xs.size := by omega
      have h2 : i < ys.size := by omega
      rw [List.drop_eq_getElem_cons hlt] at hz
      injection hz with hyx hrest
      obtain rfl : y = xs[i] := by simpa using congrArg Prod.fst hyx
      obtain rfl : x = ys[i] := by simpa using congrArg Prod.snd hyx
      have hd : (List.range (min xs.size ys.size)).drop i = i :: (List.range (min xs.size ys.size)).drop (i + 1) := by simp [List.drop_eq_getElem_cons, hm]
      rw [hd] at hR
      refine wpAny_bind (he i h1 h2 prog w _ _ ?_)
      cases hy : e i with
      | false =>
        rw [firstLt_no hy] at hR
        have h3 := hr i h1 h2 hall hy prog w
        unfold RcLt at h3
        generalize richCompare CmpOp.Lt xs[i] ys[i] = rc at h3 ⊢
        wp_walk
        refine h3 _ _ ?_
        wp_walk
        exact ⟨_, rfl, hR⟩
      | true =>
        rw [firstLt_yes hy] at hR
        wp_walk
        refine ⟨rfl, rfl, i + 1, hrest, fun i' hi' => ?_, hR⟩
        rcases Nat.lt_or_ge i' i with h' | h'
        · exact hall i' h'
        · rw [show i' = i by omega]; exact hy
    case fin =>
      rintro ⟨b1, b2⟩ s' ⟨hb', rfl, i, hz, _, hR⟩
      simp only at hb'
      subst hb'
      have hge : min xs.size ys.size ≤ i := by
        rcases Nat.lt_or_ge i (min xs.size ys.size) with h' | h'
        · rw [List.drop_eq_getElem_cons (by omega)] at hz; cases hz
        · exact h'
      rw [List.drop_of_length_le (by simpa using hge)] at hR
      wp_walk
      exact ⟨_, rfl, by simpa [Builtin.Tuple.tupleCompareSizes, firstLt] using hR⟩
    case h =>
      exact ⟨rfl, rfl, 0, rfl, by simp, by simpa using h⟩
theorem rc_tup {A : Around} {s : Shared} {p q : Addr} {xs ys : Array Value} {e r : Nat → Bool} (hp : s.heap.IsTuple p xs) (hq : s.heap.IsTuple q ys) (hu : A.units < cLine)
    (he : ∀ j (h1 : j < xs.size) (h2 : j < ys.size), EqAt A.in1 s xs[j] ys[j] (e j)) (hr : ∀ j (h1 : j < xs.size) (h2 : j < ys.size), (∀ i, i < j → e i = true) → e j = false → RcLt A.in1 s xs[j] ys[j] (r j)) :
    RcLt A s (.ref p) (.ref q) (firstLt e r (decide (xs.size < ys.size)) (List.range (min xs.size ys.size))) := fun prog w E Q h => by
  obtain ⟨⟨c1, d1, t1, sl⟩, ho, hc, n, hd⟩ := id hp
  obtain ⟨⟨c2, d2, t2, sl2⟩, ho2, hc2, n2, hd2⟩ := id hq
  obtain rfl : c1 = _ := hc
  obtain rfl : t1 = _ := hd
  obtain rfl : c2 = _ := hc2
  obtain rfl : t2 = _ := hd2
  refine richCompare_meets_room (op := .Lt) ⟨_, ho, rfl⟩ ⟨_, ho2, rfl⟩ F.slot_tuple_lt F.entry_tuple_lt (F.args_tuple_lt_2 _ _) (tup_lt p q xs ys n n2 d1 d2 sl sl2 e r) ⟨ho, ho2, he, hr, ?_⟩ hu
  exact (show _ ≠ Value.notImplemented ∧ _ from ⟨(fun x => nomatch x), h⟩)
end Ff
/-! Ranks: data that any two of them can be compared. -/
namespace Ff
open PySem PySem.W PySem.SeqAt
open PyProof.Rows (lexLt lex_diff lex_self lex_irrefl itemOrd itemLt oneLt' keyLt' tuples' SortKind)
theorem cmL_all : ∀ {xs ys : List PyData}, (∀ x ∈ xs, ∀ y ∈ ys, cm x y = true) → cmL xs ys = true
  | [], _, _ => by simp [cmL]
  | _ :: _, [], _ => by simp [cmL]
  | x :: xs, y :: ys, h => by
    rw [cmL, h x List.mem_cons_self y List.mem_cons_self, cmL_all fun a ha b hb => h a (List.mem_cons_of_mem _ ha) b (List.mem_cons_of_mem _ hb)]
    simp
inductive RkS : PyData → Prop
  | int (n a b : Int) : RkS (.tuple [.int n, .int 0, .int a, .int b])
  | str (n : Int) (x : Str) : RkS (.tuple [.int n, .int 1, .str x])
  | lst (n : Int) (rs : List PyData) : (∀ r ∈ rs, RkS r) → RkS (.tuple [.int n, .int 2, .tuple rs])
  | rcd (n : Int) (ps : List (Str × PyData)) : (∀ p ∈ ps, RkS p.2) → RkS (.tuple [.int n, .int 3, .tuple (ps.map fun p => .tuple [.str p.1, p.2])])
  | cho (n : Int) (t : Str) (r : PyData) : RkS r → RkS (.tuple [.int n, .int 4, .str t, r])
theorem cmL_mk {x y : PyData} {xs ys : List PyData} (h1 : cm x y = true) (h2 : PyData.eqv x y = true → cmL xs ys = true) : cmL (x :: xs) (y :: ys) = true := by
  rw [cmL, h1, Bool.true_and]
  cases h : PyData.eqv x y with
  | false => rfl
  | true => rw [h2 h]; rfl
theorem cm_tup {xs ys : List PyData} (h : cmL xs ys = true) : cm (.tuple xs) (.tuple ys) = true := by rw [cm]; exact h
theorem eqv_int {a b : Int} (h : PyData.eqv (.int a) (.int b) = true) : a = b := by
  rw [PyData.eqv] at h
  exact eq_of_beq h
theorem cm_int {a b : Int} : cm (.int a) (.int b) = true := by rw [cm]
theorem cm_str {a b : Str} : cm (.str a) (.str b) = true := by rw [cm]
theorem cm_rank {n n' k k' : Int} {xs ys : List PyData} (h : k = k' → cmL xs ys = true) : cm (.tuple (.int n :: .int k :: xs)) (.tuple (.int n' :: .int k' :: ys)) = true :=
  cm_tup (cmL_mk cm_int fun _ => cmL_mk cm_int fun e => h (eqv_int e))
theorem cmL_one {x y : PyData} (h : cm x y = true) : cmL [x] [y] = true := cmL_mk h fun _ => by rw [cmL]
theorem rks_cm {d : PyData} (h : RkS d) : ∀ {d' : PyData}, RkS d' → cm d d' = true := by
  induction h with
  | int n a b =>
    intro d' h'
    cases h' with
    | int n' a' b' => exact cm_rank fun _ => cmL_mk cm_int fun _ => cmL_one cm_int
    | _ => exact cm_rank fun e => absurd e (by decide)
  | str n x =>
    intro d' h'
    cases h' with
    | str n' x' => exact cm_rank fun _ => cmL_one cm_str
    | _ => exact cm_rank fun e => absurd e (by decide)
  | lst n rs _ ih =>
    intro d' h'
    cases h' with
    | lst n' rs' h' => exact cm_rank fun _ => cmL_one (cm_tup (cmL_all fun x hx y hy => ih x hx (h' y hy)))
    | _ => exact cm_rank fun e => absurd e (by decide)
  | rcd n ps _ ih =>
    intro d' h'
    cases h' with
    | rcd n' ps' h' =>
      refine cm_rank fun _ => cmL_one (cm_tup (cmL_all fun x hx y hy => ?_))
      obtain ⟨p, hp, rfl⟩ := List.mem_map.mp hx
      obtain ⟨p', hp', rfl⟩ := List.mem_map.mp hy
      exact cm_tup (cmL_mk cm_str fun _ => cmL_one (ih p hp (h' p' hp')))
    | _ => exact cm_rank fun e => absurd e (by decide)
  | cho n t r _ ih =>
    intro d' h'
    cases h' with
    | cho n' t' r' h' => exact cm_rank fun _ => cmL_mk cm_str fun _ => cmL_one (ih h')
    | _ => exact cm_rank fun e => absurd e (by decide)
theorem plainAll_of : ∀ {xs : List PyData}, (∀ x ∈ xs, x.plain = true) → PyData.plainAll xs = true
  | [], _ => rfl
  | x :: xs, h => by
    simp only [PyData.plainAll, Bool.and_eq_true]
    exact ⟨h x List.mem_cons_self, plainAll_of fun y hy => h y (List.mem_cons_of_mem _ hy)⟩
theorem rks_plain {d : PyData} (h : RkS d) : d.plain = true := by
  induction h with
  | int n a b => rfl
  | str n x => rfl
  | lst n rs _ ih => simp [PyData.plain, PyData.plainAll, plainAll_of ih]
  | rcd n ps _ ih =>
    have : PyData.plainAll (ps.map fun p => PyData.tuple [.str p.1, p.2]) = true := plainAll_of fun x hx => by
      obtain ⟨p, hp, rfl⟩ := List.mem_map.mp hx
      simp [PyData.plain, PyData.plainAll, ih p hp]
    simp [PyData.plain, PyData.plainAll, this]
  | cho n t r _ ih => simp [PyData.plain, PyData.plainAll, ih]
/-! ### a < b -/
mutual
theorem rc_cm : ∀ (da db : PyData) (A : Around) (s : Shared) (a b : Value) (as bs : List Addr), Reads s.heap a da as → Reads s.heap b db bs → cm da db = true → da.plain = true → db.plain = true → A.units + min da.depth db.depth < cLine → RcLt A s a b (dataLt da db)
  | .int x, db, A, s, a, b, as, bs, ra, rb, h, _, _, hu => by
    cases db with
    | int y => exact rcLt_alike _ _ A s a b as bs ra rb rfl (by simp) hu
    | _ => exact absurd h (by simp [cm])
  | .str x, db, A, s, a, b, as, bs, ra, rb, h, _, _, hu => by
    cases db with
    | str y => exact rcLt_alike _ _ A s a b as bs ra rb rfl (by simp) hu
    | _ => exact absurd h (by simp [cm])
  | .tuple xs, db, A, s, a, b, as, bs, ra, rb, h, p1, p2, hu => by
    cases db with
    | tuple ys =>
      have hc : cmL xs ys = true := by simpa [cm] using h
      have q1 : PyData.plainAll xs = true := by simpa [PyData.plain] using p1
      have q2 : PyData.plainAll ys = true := by simpa [PyData.plain] using p2
      cases ra with
      | @tuple l o vs n _ as₁ h1 h2 h3 h4 =>
        cases rb with
        | @tuple l' o' ws n' _ bs₁ k1 k2 k3 k4 =>
          have n1 : vs.size = xs.length := by simpa using ReadsAll.length _ _ _ h4
          have n2 : ws.size = ys.length := by simpa using ReadsAll.length _ _ _ k4
          have e := first_cm xs ys hc
          rw [← n1, ← n2] at e
          have e2 : dataLt (.tuple xs) (.tuple ys) = tkLt (keyToksAll xs) (keyToksAll ys) := dataLt_tuple xs ys
          rw [e2, ← e]
          refine rc_tup ⟨_, h1, h2, _, h3⟩ ⟨_, k1, k2, _, k3⟩ (room_here hu) (fun j j1 j2 => ?_) fun j j1 j2 hall _ => ?_
          · have := eqAt_plainAll xs ys A.in1 s vs.toList ws.toList _ _ h4 k4 q1 q2 (room_in hu) j (by simpa using j1) (by simpa using j2)
            simpa using this
          · have := rc_cmL xs ys A.in1 s vs.toList ws.toList _ _ h4 k4 q1 q2 (room_in hu) j (by simpa using j1) (by simpa using j2) (cmL_at xs ys hc j (by omega) (by omega) hall)
            simpa using this
    | _ => exact absurd h (by simp [cm])
  | .none, db, _, _, _, _, _, _, _, _, h, _, _, _ => absurd h (by cases db <;> simp [cm])
  | .bool _, db, _, _, _, _, _, _, _, _, h, _, _, _ => absurd h (by cases db <;> simp [cm])
  | .list _, db, _, _, _, _, _, _, _, _, h, _, _, _ => absurd h (by cases db <;> simp [cm])
  | .dict _, db, _, _, _, _, _, _, _, _, h, _, _, _ => absurd h (by cases db <;> simp [cm])
theorem rc_cmL : ∀ (xs ys : List PyData) (A : Around) (s : Shared) (vs ws : List Value) (as bs : List Addr), ReadsAll s.heap vs xs as → ReadsAll s.heap ws ys bs → PyData.plainAll xs = true → PyData.plainAll ys = true →
    A.units + min (PyData.depthAll xs) (PyData.depthAll ys) < cLine → ∀ j (h1 : j < vs.length) (h2 : j < ws.length), cm (xs.getD j .none) (ys.getD j .none) = true → RcLt A s vs[j] ws[j] (dataLt (xs.getD j .none) (ys.getD j .none))
  | [], _, _, _, _, _, _, _, ra, _, _, _, _, j, h1, _, _ => by cases ra; exact absurd h1 (Nat.not_lt_zero _)
  | _ :: _, [], _, _, _, _, _, _, _, rb, _, _, _, j, _, h2, _ => by cases rb; exact absurd h2 (Nat.not_lt_zero _)
  | x :: xs, y :: ys, A, s, _, _, _, _, ra, rb, p1, p2, hu, j, h1, h2, hj => by
    have q1 : x.plain = true ∧ PyData.plainAll xs = true := by simpa [PyData.plainAll] using p1
    have q2 : y.plain = true ∧ PyData.plainAll ys = true := by simpa [PyData.plainAll] using p2
    cases ra with
    | cons r rs =>
      cases rb with
      | cons r' rs' =>
        cases j with
        | zero => exact rc_cm x y A s _ _ _ _ r r' hj q1.1 q2.1 (room_head hu)
        | succ j => exact rc_cmL xs ys A s _ _ _ _ rs rs' q1.2 q2.2 (room_tail hu) j (Nat.lt_of_succ_lt_succ h1) (Nat.lt_of_succ_lt_succ h2) hj
end
section
variable {prog : Program} {w : World} {A : Around} {s : Shared}
theorem one_cm {da db : PyData} {a b : Value} {as bs : List Addr} {Q : Bool → Shared → Prop} (ra : Reads s.heap a da as) (rb : Reads s.heap b db bs) (h : cm da db = true) (p1 : da.plain = true) (p2 : db.plain = true) (hu : A.units + min da.depth db.depth < cLine) (hq : Q (dataLt da db) s) :
    wpAny (model prog w) A (oneLt' false a b) Q (fun _ _ => False) s :=
  kat_one a b (rc_cm da db A s a b as bs ra rb h p1 p2 hu prog w _ _ hq)
/-- the places behind the first -/
theorem kat_cm {Q : Bool → Shared → Prop} : ∀ (xs ys : List PyData) (i : Nat) (vs ws : List Value) (as bs : List Addr), ReadsAll s.heap vs xs as → ReadsAll s.heap ws ys bs → cmL xs ys = true → PyData.plainAll xs = true → PyData.plainAll ys = true →
    A.units + min (PyData.depthAll xs) (PyData.depthAll ys) < cLine → Q (tkLt (keyToksAll xs) (keyToksAll ys)) s → KatLex prog w A true (decide (xs.length < ys.length)) Q (vs.zip ws) (i + 1) s
  | [], [], i, _, _, _, _, ra, rb, _, _, _, _, hq => by
    cases ra
    cases rb
    unfold tkLt at hq
    rw [lex_irrefl] at hq
    exact kat_nil hq
  | [], y :: ys, i, _, ws, _, _, ra, rb, _, _, _, _, hq => by
    cases ra
    have e : decide (([] : List PyData).length < (y :: ys).length) = true := decide_eq_true (by simp)
    rw [toks_all_cons y ys] at hq
    simp only [keyToksAll, tkLt] at hq
    rw [lex_diff (O := itemOrd) (by simp)] at hq
    rw [List.zip_nil_left, e]
    exact kat_nil (by simpa [itemLt] using hq)
  | x :: xs, [], i, _, _, _, _, ra, rb, _, _, _, _, hq => by
    cases rb
    have e : decide ((x :: xs).length < ([] : List PyData).length) = false := decide_eq_false (by simp)
    rw [toks_all_cons x xs] at hq
    simp only [keyToksAll, tkLt] at hq
    rw [lex_diff (O := itemOrd) (by simp)] at hq
    rw [List.zip_nil_right, e]
    exact kat_nil (by simpa [itemLt] using hq)
  | x :: xs, y :: ys, i, _, _, _, _, ra, rb, h, p1, p2, hu, hq => by
    obtain ⟨h1, h2⟩ := cmL_cons h
    have q1 : x.plain = true ∧ PyData.plainAll xs = true := by simpa [PyData.plainAll] using p1
    have q2 : y.plain = true ∧ PyData.plainAll ys = true := by simpa [PyData.plainAll] using p2
    have e : decide ((x :: xs).length < (y :: ys).length) = decide (xs.length < ys.length) := decide_eq_decide.mpr (by simp)
    rw [e]
    cases ra with
    | cons r rs =>
      cases rb with
      | cons r' rs' =>
        rw [List.zip_cons_cons]
        refine kat_cons (eqAt_plain x y A s _ _ _ _ r r' q1.1 q2.1 (room_head hu) prog w _ _ ?_)
        cases hx : PyData.eqv x y with
        | true =>
          rw [lt_yes h1 hx] at hq
          exact kat_yes (kat_cm xs ys (i + 1) _ _ _ _ rs rs' (h2 hx) q1.2 q2.2 (room_tail hu) hq)
        | false =>
          rw [lt_no h1 hx] at hq
          refine kat_no ?_
          have eb : (true && i + 1 == 0) = false := by simp
          rw [eb]
          exact one_cm r r' h1 q1.1 q2.1 (room_head hu) hq
/-- two tuples that begin with an int -/
theorem tups_cm {n m : Int} {xs ys : List PyData} {a b : Value} {as bs : List Addr} {Q : Bool → Shared → Prop} {E : Value → Shared → Prop} (ra : Reads s.heap a (.tuple (.int n :: xs)) as) (rb : Reads s.heap b (.tuple (.int m :: ys)) bs) (h : PyData.eqv (.int n) (.int m) = true → cmL xs ys = true) (p1 : PyData.plainAll xs = true) (p2 : PyData.plainAll ys = true)
    (hu : A.units + min (PyData.tuple (.int n :: xs)).depth (PyData.tuple (.int m :: ys)).depth < cLine) (hq : Q (dataLt (.tuple (.int n :: xs)) (.tuple (.int m :: ys))) s) : wpAny (model prog w) A (keyLt' (tuples' true) a b) Q E s := by
  rw [show dataLt (.tuple (.int n :: xs)) (.tuple (.int m :: ys)) = tkLt (keyToksAll (.int n :: xs)) (keyToksAll (.int m :: ys)) from dataLt_tuple _ _] at hq
  have hu2 : A.units + min (PyData.depthAll (.int n :: xs)) (PyData.depthAll (.int m :: ys)) < cLine := by
    have := room_in hu
    omega
  cases ra with
  | @tuple l o vs k _ as₁ h1 h2 h3 h4 =>
    cases rb with
    | @tuple l' o' ws k' _ bs₁ g1 g2 g3 g4 =>
      have n1 : vs.size = xs.length + 1 := by simpa using ReadsAll.length _ _ _ h4
      have n2 : ws.size = ys.length + 1 := by simpa using ReadsAll.length _ _ _ g4
      refine kat_lt h1 h3 g1 g3 ?_
      have e : decide (vs.size < ws.size) = decide (xs.length < ys.length) := decide_eq_decide.mpr (by omega)
      rw [e]
      generalize vs.toList = vl at h4
      generalize ws.toList = wl at g4
      cases h4 with
      | cons r rs =>
        cases g4 with
        | cons r' rs' =>
          rw [List.zip_cons_cons]
          refine kat_cons (eqAt_plain (.int n) (.int m) A s _ _ _ _ r r' rfl rfl (room_head hu2) prog w _ _ ?_)
          cases hx : PyData.eqv (.int n) (.int m) with
          | true =>
            rw [lt_yes rfl hx] at hq
            exact kat_yes (kat_cm xs ys 0 _ _ _ _ rs rs' (h hx) p1 p2 (room_tail hu2) hq)
          | false =>
            rw [lt_no rfl hx] at hq
            exact kat_no (oneLt_alike (fun _ _ => by simp) r r' rfl (by simp) (room_head hu2) hq)
end
end Ff
/-! sorted(rows, key=f): f a def that hands back ranks. -/
namespace Ff
open PySem PySem.W PyProof.Rows L2 C8 SeqAt
/-! ### a rank in the heap -/
def prStep (H : Hp) (R : V → PyData → Prop) (v : V) : PyData → Prop
  | .int i => v = .int i
  | .str s => v = .str s
  | .tuple xs => ∃ a vs, v = .ref a ∧ H a = some (.tup vs) ∧ Paired R vs xs
  | _ => False
def PRep : Nat → Hp → V → PyData → Prop
  | 0, H => prStep H fun _ _ => False
  | n + 1, H => prStep H (PRep n H)
theorem prStep_mono {H H' : Hp} {R R' : V → PyData → Prop} (s : ∀ a xs, H a = some (.tup xs) → H' a = some (.tup xs)) (h : ∀ v d, R v d → R' v d) {v : V} {d : PyData} (r : prStep H R v d) : prStep H' R' v d := by
  cases d with
  | tuple xs =>
    obtain ⟨a, vs, e, h1, h2⟩ := r
    exact ⟨a, vs, e, s _ _ h1, L2.Paired.mapP h2 h⟩
  | int i => exact r
  | str i => exact r
  | _ => exact r.elim
theorem PRep.same {H H' : Hp} (s : ∀ a xs, H a = some (.tup xs) → H' a = some (.tup xs)) : ∀ {n : Nat} {v : V} {d : PyData}, PRep n H v d → PRep n H' v d
  | 0, _, _, r => prStep_mono s (fun _ _ z => z) r
  | n + 1, _, _, r => prStep_mono s (fun _ _ z => PRep.same s z) r
theorem PRep.succ {H : Hp} : ∀ {n : Nat} {v : V} {d : PyData}, PRep n H v d → PRep (n + 1) H v d
  | 0, _, _, r => prStep_mono (fun _ _ z => z) (fun _ _ z => z.elim) r
  | n + 1, _, _, r => prStep_mono (fun _ _ z => z) (fun _ _ z => PRep.succ z) r
theorem PRep.mono {n m : Nat} (h : n ≤ m) {H : Hp} {v : V} {d : PyData} (r : PRep n H v d) : PRep m H v d := by
  induction h with
  | refl => exact r
  | step _ ih => exact ih.succ
theorem depthAll_le {n : Nat} : ∀ {xs : List PyData}, (∀ x ∈ xs, x.depth ≤ n) → PyData.depthAll xs ≤ n
  | [], _ => by simp [PyData.depthAll]
  | x :: xs, h => by
    have h1 := h x List.mem_cons_self
    have h2 := depthAll_le fun y hy => h y (List.mem_cons_of_mem _ hy)
    simp only [PyData.depthAll]
    omega
theorem paired_memR {α β : Type} {R : α → β → Prop} : ∀ {xs : List α} {ys : List β} {y : β}, Paired R xs ys → y ∈ ys → ∃ x, x ∈ xs ∧ R x y
  | _, _, _, .nil, h => by cases h
  | _, _, y, .cons r t, h => by
    rcases List.mem_cons.mp h with rfl | h
    · exact ⟨_, List.mem_cons_self, r⟩
    · obtain ⟨x, h1, h2⟩ := paired_memR t h
      exact ⟨x, List.mem_cons_of_mem _ h1, h2⟩
theorem prep_depth {H : Hp} : ∀ {n : Nat} {v : V} {d : PyData}, PRep n H v d → d.depth ≤ n + 1
  | 0, v, d, r => by
    cases d with
    | tuple xs =>
      obtain ⟨a, vs, _, _, h⟩ := r
      cases h with
      | nil => simp [PyData.depth, PyData.depthAll]
      | cons r _ => exact r.elim
    | int i => simp [PyData.depth]
    | str i => simp [PyData.depth]
    | _ => exact r.elim
  | n + 1, v, d, r => by
    cases d with
    | tuple xs =>
      obtain ⟨a, vs, _, _, h⟩ := r
      have := depthAll_le (n := n + 1) fun x hx => by
        obtain ⟨v, _, hv⟩ := paired_memR h hx
        exact prep_depth hv
      simp only [PyData.depth]
      omega
    | int i => simp [PyData.depth]
    | str i => simp [PyData.depth]
    | _ => exact r.elim
theorem readsAll_of {h : Heap} {R : V → PyData → Prop} (f : ∀ v d, R v d → ∀ u, RelV v u → ∃ as, Reads h u d as) : ∀ {vs : List V} {ds : List PyData} {us : List Value}, Paired R vs ds → Vals vs us → ∃ as, ReadsAll h us ds as
  | _, _, _, .nil, .nil => ⟨[], .nil⟩
  | _, _, _, .cons r t, .cons r' t' => by
    obtain ⟨as, h1⟩ := f _ _ r _ r'
    obtain ⟨bs, h2⟩ := readsAll_of f t t'
    exact ⟨as ++ bs, .cons h1 h2⟩
theorem prep_reads {P : Program} {w : World} {H : Hp} {h : Heap} (ok : HOk P w H h) : ∀ {n : Nat} {v : V} {d : PyData}, PRep n H v d → ∀ u, RelV v u → ∃ as, Reads h u d as
  | 0, v, d, r, u, ru => by
    cases d with
    | int i =>
      obtain rfl : v = .int i := r
      obtain ⟨t, rfl⟩ := ru
      exact ⟨_, .int i t⟩
    | str i =>
      obtain rfl : v = .str i := r
      obtain ⟨t, rfl⟩ := ru
      exact ⟨_, .str i t⟩
    | tuple xs =>
      obtain ⟨a, vs, rfl, ha, hp⟩ := r
      obtain rfl : u = .ref a := ru
      obtain ⟨_, its, rv, o, ho, hc, n, hd⟩ := ok a _ ha
      obtain ⟨as, hr⟩ := readsAll_of (fun v d z u _ => z.elim) hp rv
      exact ⟨as, .tuple ho hc hd (by simpa using hr)⟩
    | _ => exact r.elim
  | n + 1, v, d, r, u, ru => by
    cases d with
    | int i =>
      obtain rfl : v = .int i := r
      obtain ⟨t, rfl⟩ := ru
      exact ⟨_, .int i t⟩
    | str i =>
      obtain rfl : v = .str i := r
      obtain ⟨t, rfl⟩ := ru
      exact ⟨_, .str i t⟩
    | tuple xs =>
      obtain ⟨a, vs, rfl, ha, hp⟩ := r
      obtain rfl : u = .ref a := ru
      obtain ⟨_, its, rv, o, ho, hc, n, hd⟩ := ok a _ ha
      obtain ⟨as, hr⟩ := readsAll_of (fun v d z u zu => prep_reads ok z u zu) hp rv
      exact ⟨as, .tuple ho hc hd (by simpa using hr)⟩
    | _ => exact r.elim
/-- the same order on the other side -/
theorem paired_perm {α β : Type} {R : α → β → Prop} {ys zs : List β} (p : ys.Perm zs) : ∀ {xs : List α}, Paired R xs ys → ∃ ws, xs.Perm ws ∧ Paired R ws zs := by
  induction p with
  | nil => intro xs h; exact ⟨xs, .refl _, h⟩
  | cons y _ ih =>
    intro xs h
    cases h with
    | cons r t =>
      obtain ⟨ws, h1, h2⟩ := ih t
      exact ⟨_ :: ws, h1.cons _, .cons r h2⟩
  | swap y z l =>
    intro xs h
    cases h with
    | cons r t =>
      cases t with
      | cons r' t => exact ⟨_, .swap _ _ _, .cons r' (.cons r t)⟩
  | trans _ _ ih1 ih2 =>
    intro xs h
    obtain ⟨ws, h1, h2⟩ := ih1 h
    obtain ⟨ws2, h3, h4⟩ := ih2 h2
    exact ⟨ws2, h1.trans h3, h4⟩
/-! ### the keys compare -/
theorem rks_int {d : PyData} (h : RkS d) : ∃ n r, d = .tuple (.int n :: r) := by
  cases h <;> exact ⟨_, _, rfl⟩
noncomputable abbrev keyLtv (h : Heap) (v u : Value) : Bool := dataLt (readOf h v) (readOf h u)
theorem keys_cmp {prog : Program} {w : World} {A : Around} {s : Shared} {ks : List Value} (hk : ∀ k ∈ ks, ∃ d as, Reads s.heap k d as ∧ RkS d ∧ d.depth ≤ 60) (hu : A.units + 100 < cLine) : SrtO.Cmp prog w A s (tuples' true) (fun p => p.1 ∈ ks) (SrtO.lt2 (keyLtv s.heap)) := by
  intro p q hp hq
  obtain ⟨d, as, r1, k1, z1⟩ := hk _ hp
  obtain ⟨d', as', r2, k2, z2⟩ := hk _ hq
  have e1 := readOf_plain (rks_plain k1) r1
  have e2 := readOf_plain (rks_plain k2) r2
  have hc := rks_cm k1 k2
  have p1 := rks_plain k1
  have p2 := rks_plain k2
  show wpAny (model prog w) A (keyLt' (tuples' true) p.1 q.1) (fun r s' => s' = s ∧ r = dataLt (readOf s.heap p.1) (readOf s.heap q.1)) (fun _ _ => False) s
  rw [e1, e2]
  obtain ⟨n, r, rfl⟩ := rks_int k1
  obtain ⟨n', r', rfl⟩ := rks_int k2
  have hc' : cmL (.int n :: r) (.int n' :: r') = true := by rw [cm] at hc; exact hc
  have q1 : PyData.plainAll r = true := by simpa [PyData.plain, PyData.plainAll] using p1
  have q2 : PyData.plainAll r' = true := by simpa [PyData.plain, PyData.plainAll] using p2
  exact tups_cm r1 r2 (cmL_cons hc').2 q1 q2 (by omega) ⟨rfl, rfl⟩
theorem keys_kind {M : Model} {A : Around} {E : Value → Shared → Prop} {s : Shared} {ks : List Value} {Q : SortKind → Shared → Prop} (hk : ∀ k ∈ ks, ∃ d as, Reads s.heap k d as ∧ RkS d ∧ d.depth ≤ 60) (h0 : 0 < ks.length) (h : Q (tuples' true) s) : wpAny M A (keyKind' ks.toArray) Q E s := by
  have hf : ∀ ks : List Value, (∀ k ∈ ks, ∃ d as, Reads s.heap k d as ∧ RkS d ∧ d.depth ≤ 60) → ∃ fs, KatTups s.heap ks fs ∧ fs.length = ks.length ∧ ∀ f ∈ fs, ∃ x t, f = Value.int x t := by
    intro ks
    induction ks with
    | nil => exact fun _ => ⟨[], KatTups.nil, rfl, by simp⟩
    | cons k ks ih =>
      intro hk
      obtain ⟨fs, f1, f2, f3⟩ := ih fun x hx => hk x (List.mem_cons_of_mem _ hx)
      obtain ⟨d, as, r, k1, _⟩ := hk k List.mem_cons_self
      obtain ⟨n, rest, rfl⟩ := rks_int k1
      cases r with
      | @tuple a o vs m _ _ h1 h2 h3 h4 =>
        obtain ⟨vl⟩ := vs
        cases h4 with
        | cons r rs =>
          cases r with
          | int _ t =>
            refine ⟨.int n t :: fs, KatTups.cons h1 h2 h3 (by simp) f1, by simp [f2], fun f hf => ?_⟩
            rcases List.mem_cons.mp hf with rfl | hf
            · exact ⟨n, t, rfl⟩
            · exact f3 f hf
  obtain ⟨fs, f1, f2, f3⟩ := hf ks hk
  refine kat_kind (T := .type "int") f1 (by omega) (fun f hm => ?_) (by rfl) ?_
  · obtain ⟨x, t, rfl⟩ := f3 f hm
    exact Looks.now
  · rw [show (Value.type "int" != Value.type "tuple") = true by decide +kernel]
    exact h
theorem kept_mem {α β : Type} {R : α → β → Prop} {xs : List α} {ys : List β} (p : Paired R xs ys) {i : Nat} {y : β} (h : ys[i]? = some y) : ∃ x, x ∈ xs ∧ R x y := by
  obtain ⟨x, h1, h2⟩ := paired_memR p (List.mem_of_getElem? h)
  exact ⟨x, h1, h2⟩
theorem paired_at' {α β : Type} {R : α → β → Prop} : ∀ {xs : List α} {ys : List β} {i : Nat} {y : β}, Paired R xs ys → ys[i]? = some y → ∃ x, xs[i]? = some x ∧ R x y
  | _, _, _, _, .nil, e => by simp at e
  | _, _, 0, _, .cons r _, e => by simp at e; subst e; exact ⟨_, rfl, r⟩
  | _, _, i + 1, y, .cons _ t, e => by
    obtain ⟨x, h1, h2⟩ := paired_at' (i := i) (y := y) t (by simpa using e)
    exact ⟨x, by simpa using h1, h2⟩
theorem upd_none' {H : Hp} {a b : Addr} {o : HO} (h : upd H a o b = none) : b ≠ a ∧ H b = none := by
  by_cases e : b = a
  · rw [e, upd_same] at h; cases h
  · rw [upd_ne e] at h; exact ⟨e, h⟩
section
variable {X : Cx}
def rSortK (n : Nat) (sp : Sp) (f : Addr) : List V → List V → Hp → VK → Prop := fun vs zs H Q => ∃ (a : Addr) (xs : List V), vs = [.ref a] ∧ zs = [.ref f] ∧ H a = some (.lst xs) ∧
  (∀ x ∈ xs, ∀ (H' : Hp) (Q' : VK), Same H H' → (∀ v pd H'', Same H' H'' → PRep n H'' v pd → RkS pd → Q' v H'') → sp [x] H' Q' C8.E0) ∧
  ∀ p H' ys, ys.Perm xs → Same H H' → H p = none → H' p = some (.lst ys) → Q (.ref p) H'
/-- the key of one row -/
theorem key_call {k : Nat} {f : Addr} {fd : FuncData} {ps : List Str} {sp : Sp} (F : FnOk X.prog X.w X.K X.mg X.base C8.CX0 k f fd ps sp) (hb : Binds X.K fd ps []) (hr : Room (k + 2) X.A) {pins : List (Addr × Obj)} {σ : L2.St} {H : Hp} {s : Shared} {v : V} {u : Value} {Q : VK} (I : Inv X pins σ H s) (r : RelV v u) (h : sp [v] H Q C8.E0) :
    wpAny (model X.prog X.w) X.A.in1.in1 (call (.ref f) [u]) (EP X pins σ Q) (fun _ _ => False) s := by
  have r2 : Vals [v] [u] := .cons r .nil
  have hl : ([u] ++ []).length = ps.length := F.len _ _ _ _ h
  refine wpAny_call (codeAny_mono (F.run X.A.in1.in1 X.stack s H ⟨[u], []⟩ [u] [v] Q C8.E0 hr.in1.in1 I.env0.in1.in1 (hb s [u] I.kIn hl) r2 h) fun r s' hq => ?_)
  cases r with
  | error e => exact hq.elim
  | ok fl =>
    cases fl with
    | ret u => exact I.after hq
    | _ => exact hq.elim
theorem cr_sortK {k n : Nat} {f : Addr} {fd : FuncData} {ps : List Str} {sp : Sp} (F : FnOk X.prog X.w X.K X.mg X.base C8.CX0 k f fd ps sp) (hb : Binds X.K fd ps []) (hr : Room (k + 2) X.A) (hn : n ≤ 50) : CallRK X (.builtin "sorted") [Str.ofString "key"] (rSortK n sp f) := by
  intro pins s σ H vs zs us ws Q I rv rz h
  obtain ⟨a, xs, rfl, rfl, ha, hsp, q⟩ := h
  obtain rfl := Vals.ref1 rv
  obtain ⟨w1, rfl, e1⟩ := vals1 rz
  obtain rfl : w1 = Value.ref f := e1
  obtain ⟨hz, its, n0, rits, hlen, hob⟩ := I.lstM ha
  have hZ : its.length ≤ sizeLine := by rw [← hlen]; exact hz
  refine sorted_of_sort ⟨_, hob, rfl, _, rfl⟩ hZ (ksk_s1 _ _) (fun _ => ksk_l1 _ _) fun E' => ?_
  show wpAny (model X.prog X.w) X.A.in1.in1 (Builtin.«list.sort» ⟨[.ref (s.heap.objs.size + 1)], [(Str.ofString "key", .ref f)]⟩) _ E' _
  rw [ksk_t1]
  have ho := copyHeap_at s.heap its
  have keep0 : ∀ b o, s.heap.get? b = some o → (copyHeap s.heap its).get? b = some o := fun _ _ => copyHeap_old
  have na1 : H (s.heap.objs.size + 1) = none := I.hok.fresh (Nat.le_succ _)
  have I0 : Inv X pins σ (upd H (s.heap.objs.size + 1) (.lst xs)) { s with heap := copyHeap s.heap its } := I.laid (t' := s.toks) keep0 (Nat.le_succ _) ⟨hz, its, 0, rits, ho⟩
  generalize s.heap.objs.size + 1 = a1 at *
  generalize copyHeap s.heap its = g0 at *
  unfold ksk_tree
  refine wpAny_bind (listItems_at ho rfl ?_)
  refine wpAny_bind (listUpdate_at ho rfl ?_ (by rw [List.size_toArray]; exact hZ) (Nat.zero_le _))
  obtain ⟨e1, ho1⟩ : ∃ e1, (g0.update a1 (Obj.mapSeq fun _ => (#[] : Array Value))).get? a1 = some (seqObj "list" #[] e1) := ⟨_, get?_update_seq ho fun _ => #[]⟩
  have I1 : Inv X pins σ (upd (upd H a1 (.lst xs)) a1 (.lst [])) { s with heap := g0.update a1 (Obj.mapSeq fun _ => (#[] : Array Value)) } :=
    I0.write (x := a1) (e := a1) (t' := s.toks) (by rw [upd_same]; trivial) (.inl rfl) (fun b u hb e => (Heap.get?_update_ne _ _ _ _ hb).trans e) ⟨_, ho1⟩ ⟨Nat.zero_le _, [], e1, .nil, ho1⟩
  rw [upd_upd] at I1
  refine wpAny_bind (seqEpoch_at ho1 rfl ?_)
  refine wpAny_bind (wpAny_newTuple ?_ (by show its.length ≤ _; exact hZ))
  refine wpAny_bind (wpAny_newList ?_ (Nat.zero_le _))
  refine wpAny_holding ?_
  generalize g0.update a1 (Obj.mapSeq fun _ => (#[] : Array Value)) = g1 at *
  dsimp only
  have I2 : Inv X pins σ (upd H a1 (.lst [])) { s with heap := g1.push { cls := .type "tuple", data := .seq its.toArray } } := I1.kept (t' := s.toks) fun _ _ q => Heap.get?_push_of_some _ q
  have ho2 : (g1.push { cls := .type "tuple", data := .seq its.toArray }).get? a1 = some (seqObj "list" #[] e1) := Heap.get?_push_of_some _ ho1
  generalize g1.push { cls := .type "tuple", data := .seq its.toArray } = g2 at *
  have nkS : upd H a1 (.lst []) g2.objs.size = none := I2.fresh
  have I3 := I2.lnew (ys := []) (its := []) (t' := s.toks) .nil (Nat.zero_le _)
  have ho3 : (g2.push { cls := .type "list", data := .seq ([] : List Value).toArray }).get? a1 = some (seqObj "list" #[] e1) := Heap.get?_push_of_some _ ho2
  dsimp only at I3
  generalize g2.push { cls := .type "list", data := .seq ([] : List Value).toArray } = g3 at *
  generalize g2.objs.size = kS at *
  have hka : kS ≠ a1 := (upd_none' nkS).1
  have nkH : H kS = none := (upd_none' nkS).2
  have hnf := I3.nofrz (d := a1) (u := .lst []) (by rw [upd_ne hka.symm, upd_same]) trivial
  obtain ⟨od, I4⟩ := I3.lock (d := a1) (u := .lst []) (by rw [upd_ne hka.symm, upd_same]) trivial
  obtain rfl : od = seqObj "list" #[] e1 := by
    obtain ⟨h1, _⟩ := I4.hok a1 _ upd_same
    exact Option.some.inj (h1.symm.trans ho3)
  have ha1 : upd (upd (upd H a1 (.lst [])) kS (.lst [])) a1 (.frz (seqObj "list" #[] e1) (.lst [])) a1 = some (.frz (seqObj "list" #[] e1) (.lst [])) := upd_same
  have hkS : upd (upd (upd H a1 (.lst [])) kS (.lst [])) a1 (.frz (seqObj "list" #[] e1) (.lst [])) kS = some (.lst []) := by rw [upd_ne hka, upd_same]
  have sm : Same H (upd (upd (upd H a1 (.lst [])) kS (.lst [])) a1 (.frz (seqObj "list" #[] e1) (.lst []))) := fun b o e => by
    rw [upd_ne (ne_of_none e na1), upd_ne (ne_of_none e nkH), upd_ne (ne_of_none e na1)]
    exact e
  clear I0 I1 I2 I3 ho ho1 ho2 nkS keep0
  generalize upd (upd (upd H a1 (.lst [])) kS (.lst [])) a1 (.frz (seqObj "list" #[] e1) (.lst [])) = H4 at *
  unfold ksk_rest
  refine wpAny_bind (wpAny_rule ?_)
  rw [List.forIn_toArray]
  refine wpAny_bind (ksk_fold (fun i s' => ∃ H' ks, Inv X pins σ H' s' ∧ Same H H' ∧ H' a1 = some (.frz (seqObj "list" #[] e1) (.lst [])) ∧ H' kS = some (.lst ks) ∧ ks.length = i ∧ ∀ k ∈ ks, ∃ pd, PRep n H' k pd ∧ RkS pd) its 0 _
    ⟨H4, [], I4, sm, ha1, hkS, rfl, by simp⟩ ?step ?done)
  case step =>
    rintro j u s' hu ⟨H', ks, I', sm', ha', hk', hl', hks⟩
    simp only [Nat.zero_add] at hl' ⊢
    obtain ⟨v, hv, ruv⟩ := paired_at' rits hu
    have hj := (List.getElem?_eq_some_iff.mp hu).1
    refine wpAny_bind (wpAny_attempt (wpAny_mono (key_call F hb hr (Q := fun v' H'' => Same H' H'' ∧ ∃ pd, PRep n H'' v' pd ∧ RkS pd) I' ruv (hsp v (List.mem_of_getElem? hv) H' _ sm' fun v' pd H'' s1 s2 s3 => ⟨s1, pd, s2, s3⟩)) (fun k s'' he => ?_) fun _ _ hF => hF.elim))
    obtain ⟨v', H'', I'', rk, s1, pd, h1, h2⟩ := he
    dsimp only
    obtain ⟨_, kits, m, rks, hkob⟩ := I''.hok kS _ (s1 _ _ hk')
    have hkl := rks.length
    have hlt : ks.length < sizeLine := by omega
    refine wpAny_bind (listUpdate_at hkob rfl ?_ (by rw [List.size_toArray]; omega) (by rw [Array.size_push, List.size_toArray]; omega))
    have e3 : ∃ m2, (s''.heap.update kS (Obj.mapSeq (·.push k))).get? kS = some (seqObj "list" (kits ++ [k]).toArray m2) := by
      have := get?_update_seq (n := m) hkob (·.push k)
      exact ⟨_, by rw [this, List.push_toArray]⟩
    obtain ⟨m2, e3⟩ := e3
    have I6 := I''.write (x := kS) (e := kS) (o := .lst (ks ++ [v'])) (t' := s''.toks) (h' := s''.heap.update kS (Obj.mapSeq (·.push k))) (by rw [s1 _ _ hk']; trivial) (.inl rfl) (fun b u hb e => (Heap.get?_update_ne _ _ _ _ hb).trans e) ⟨_, e3⟩ ⟨by rw [List.length_append]; exact hlt, _, m2, rks.append (.cons rk .nil), e3⟩
    have tp : ∀ a xs, H'' a = some (.tup xs) → upd H'' kS (.lst (ks ++ [v'])) a = some (.tup xs) := fun a xs e => by
      rw [upd_ne (ne_of e (s1 _ _ hk') (by intro z; cases z))]
      exact e
    refine wpAny_pure ⟨rfl, _, ks ++ [v'], I6, fun b o e => ?_, by rw [upd_ne hka.symm]; exact s1 _ _ ha', upd_same, by rw [List.length_append, hl']; rfl, fun k hk => ?_⟩
    · rw [upd_ne (ne_of_none e nkH)]
      exact s1 _ _ (sm' _ _ e)
    · rcases List.mem_append.mp hk with hk | hk
      · obtain ⟨pd, g1, g2⟩ := hks k hk
        exact ⟨pd, (g1.same fun a xs e => s1 _ _ e).same tp, g2⟩
      · rw [List.mem_singleton.mp hk]
        exact ⟨pd, h1.same tp, h2⟩
  case done =>
    rintro s' ⟨H', ks, I', sm', ha', hk', hl', hks⟩
    rw [Nat.zero_add] at hl'
    obtain ⟨hksz, kits, m, rks, hkob⟩ := I'.hok kS _ hk'
    obtain ⟨haob, _⟩ := I'.hok a1 _ ha'
    have hkl := rks.length
    have hkeys : ∀ k ∈ kits, ∃ d as, Reads s'.heap k d as ∧ RkS d ∧ d.depth ≤ 60 := fun k hk => by
      obtain ⟨v, hv, rv⟩ := paired_memR rks hk
      obtain ⟨pd, g1, g2⟩ := hks v hv
      obtain ⟨as, hr2⟩ := prep_reads I'.hok g1 k rv
      have := prep_depth g1
      exact ⟨pd, as, hr2, g2, by omega⟩
    refine wpAny_bind (listItems_at hkob rfl ?_)
    -- how it ends
    have fin : ∀ st' : SortSt, ((arrOf st').map (·.2)).toList.Perm its → failedOf st' = none → wpAny (model X.prog X.w) X.A.in1.in1 (ksk_tail a1 false e1 (.ref kS) st') (fun f s' => f = Fin.done (Flow.ret Value.none) ∧ EP X pins σ Q (.ref a1) s') E' s' := by
      intro st' hp hf
      obtain ⟨ys, hys, ryy⟩ := paired_perm hp.symm rits
      have hyl : ys.length = xs.length := hys.length_eq.symm
      have hol : ((arrOf st').map (·.2)).size = its.length := by rw [← Array.length_toList, hp.length_eq]
      unfold ksk_tail
      refine wpAny_bind (listUpdate_at hkob rfl ?_ (by rw [List.size_toArray]; omega) (Nat.zero_le _))
      refine wpAny_bind (wpAny_letGo ?_)
      obtain ⟨m3, e3⟩ : ∃ m3, (s'.heap.update kS (Obj.mapSeq fun _ => (#[] : Array Value))).get? kS = some (seqObj "list" #[] m3) := ⟨_, get?_update_seq (n := m) hkob fun _ => #[]⟩
      have I6 := I'.write (x := kS) (e := kS) (o := .lst []) (t' := s'.toks) (h' := s'.heap.update kS (Obj.mapSeq fun _ => (#[] : Array Value))) (by rw [hk']; trivial) (.inl rfl) (fun b u hb e => (Heap.get?_update_ne _ _ _ _ hb).trans e) ⟨_, e3⟩ ⟨Nat.zero_le _, [], m3, .nil, e3⟩
      have e4 : (s'.heap.update kS (Obj.mapSeq fun _ => (#[] : Array Value))).get? a1 = some (seqObj "list" #[] e1) := (Heap.get?_update_ne _ _ _ _ hka.symm).trans haob
      have I7 := I6.unlock (d := a1) (u := .lst []) (by rw [upd_ne hka.symm]; exact ha') hnf
      generalize s'.heap.update kS (Obj.mapSeq fun _ => (#[] : Array Value)) = g5 at *
      refine wpAny_bind (seqEpoch_at e4 rfl ?_)
      refine wpAny_bind (listUpdate_at e4 rfl ?_ (Nat.zero_le _) (by simp only [Bool.false_eq_true, if_false]; rw [hol]; omega))
      rw [hf]
      simp only [bne_self_eq_false, Bool.false_eq_true, if_false]
      obtain ⟨m4, e5⟩ : ∃ m4, (g5.update a1 (Obj.mapSeq fun _ => (arrOf st').map (·.2))).get? a1 = some (seqObj "list" ((arrOf st').map (·.2)) m4) := ⟨_, get?_update_seq e4 fun _ => (arrOf st').map (·.2)⟩
      have I8 := I7.write (x := a1) (e := a1) (o := .lst ys) (t' := s'.toks) (h' := g5.update a1 (Obj.mapSeq fun _ => (arrOf st').map (·.2))) (by rw [upd_same]; trivial) (.inl rfl) (fun b u hb e => (Heap.get?_update_ne _ _ _ _ hb).trans e) ⟨_, e5⟩ ⟨by rw [hyl]; exact hz, _, m4, ryy, by rw [Array.toArray_toList]; exact e5⟩
      refine wpAny_pure ⟨rfl, .ref a1, _, I8, rfl, q a1 _ ys hys.symm (fun b o e => ?_) na1 upd_same⟩
      rw [upd_ne (ne_of_none e na1), upd_ne (ne_of_none e na1), upd_ne (ne_of_none e nkH)]
      exact sm' _ _ e
    have hzip : ∀ arr : Array Keyed, arr.toList.Perm (kits.toArray.zip its.toArray).toList → (arr.map (·.2)).toList.Perm its := fun arr hp => by
      have h1 := hp.map (·.2)
      rw [ksk_zip] at h1
      have h2 : (kits.zip its).map (·.2) = its := List.map_snd_zip (by omega)
      rw [Array.toList_map]
      have h3 : List.map (·.2) (kits.toArray.toList.zip its) = its := h2
      rw [h3] at h1
      exact h1
    unfold ksk_end
    simp only [Bool.false_eq_true, if_false]
    by_cases h2 : its.toArray.size < 2
    · rw [if_pos h2, if_pos h2]
      refine wpAny_bind (wpAny_pure ?_)
      rw [StateT.run_pure]
      refine wpAny_bind (wpAny_pure ?_)
      refine fin (SortSt.mk' general' (kits.toArray.zip its.toArray) #[] 7 none) ?_ rfl
      exact hzip (kits.toArray.zip its.toArray) (List.Perm.refl _)
    · rw [if_neg h2, if_neg h2]
      rw [List.size_toArray] at h2
      refine wpAny_bind (keys_kind hkeys (by omega) ?_)
      refine wpAny_bind (wpAny_mono (SrtO.wpS_sortO (st0 := SortSt.mk' (tuples' true) (kits.toArray.zip its.toArray) #[] 7 none)
        (Q := fun _ st' => (arrOf st').toList.Perm (kits.toArray.zip its.toArray).toList ∧ failedOf st' = none) (SrtO.swo2 (swo_data (readOf s'.heap))) (keys_cmp hkeys ?_) rfl ?_ rfl rfl fun st' _ a2 a3 => ⟨a2.perm, a3⟩) ?_ fun _ _ e => e)
      · have := hr.in1.in1.un
        omega
      · intro p hp
        have hp : p ∈ (kits.toArray.zip its.toArray).toList := hp
        rw [ksk_zip] at hp
        have hp : p ∈ kits.zip its := hp
        obtain ⟨x, y⟩ := p
        exact (List.of_mem_zip hp).1
      · rintro ⟨⟨⟩, st'⟩ s'' ⟨rfl, hp1, hf⟩
        exact fin st' (hzip _ hp1) hf
/-- sorted(e, key=y), y a def -/
def tSK (n : Nat) (sp : Sp) (te : TE) : TE := fun σ H Q => ∀ f, tCKw (rSortK n sp f) (tCons te tNil) (tCons (tC (.ref f)) tNil) σ H Q
theorem pe_sortedKey {k j n : Nat} {x y : Str} {sp : Sp} {e : Expr} {te : TE} {p pos p2 kp : Pos} (c : C8.Cal X.prog X.w X.K X.mg X.base k y sp []) (hr : Room j X.A) (hk : k + 2 ≤ j) (hn : n ≤ 50) (hx : x = "sorted") (hg : Gl X x) (hm : X.mg x = none) (hv : bootBuiltins x = some (.builtin "sorted")) (hy : Gl X y) (he : PE X e te)
    (hyd : (y == ("__debug__" : Str)) = false := by decide)
    (he1 : backTo pos (starEach [e] X.env) = (false, eval e X.env) :: backTo pos (starEach [] X.env) := by rfl) (hpl : (backTo pos (starEach [e] X.env)).any (·.1) = false := by rfl)
    (hs : starEach [e] X.env = (false, eval e X.env) :: starEach [] X.env := by rfl)
    (hall : (backToKw pos (keywordEach [⟨some (Str.ofString "key"), .Name y p2, kp⟩] X.env)).all (·.1.isSome) = true := by rfl) (hnone : (backToKw pos (keywordEach [⟨some (Str.ofString "key"), .Name y p2, kp⟩] X.env)).any (·.1.isNone) = false := by rfl) (hks : (backToKw pos (keywordEach [⟨some (Str.ofString "key"), .Name y p2, kp⟩] X.env)).filterMap (·.1) = [Str.ofString "key"] := by rfl) :
    PE X (.Call (.Name x p) [e] [⟨some (Str.ofString "key"), .Name y p2, kp⟩] pos) (tSK n sp te) := by
  obtain ⟨f, fd, ps, ds, F, hmf, _, hb, hd⟩ := c.ex
  cases hd
  subst hx
  have h1 := pe_callBK (cr_sortK (n := n) F hb (hr.mono hk) hn) (p := p) (pos := pos) hg hm hv (pa_cons he pa_nil hs) (pk_cons (kpos := kp) (nm := some (Str.ofString "key")) (pe_gc (v := .ref f) (pos := p2) hy ⟨.ref f, hmf, rfl⟩ hyd) pk_nil) (by decide) (by decide) he1 hpl hall hnone hks
  exact ⟨fun pins s σ H Q I h => h1.run pins s σ H Q I (h f)⟩
end
end Ff
/-! The law, 16: ranks. -/
namespace Ff
open PySem L2 C8
/-- v is the rank of d -/
def RkV (n : Nat) (G : Hp) (v : V) (d : D) : Prop := ∃ pd r, PRep n G v pd ∧ RkS pd ∧ pd = .tuple (.int (d.size : Int) :: r)
theorem RkV.same {n : Nat} {G G' : Hp} {v : V} {d : D} (h : RkV n G v d) (s : Same G G') : RkV n G' v d := by
  obtain ⟨pd, r, h1, h2⟩ := h
  exact ⟨pd, r, h1.same fun a xs e => s _ _ e, h2⟩
theorem RkV.tups {n : Nat} {G G' : Hp} {v : V} {d : D} (h : RkV n G v d) (s : ∀ a xs, G a = some (.tup xs) → G' a = some (.tup xs)) : RkV n G' v d := by
  obtain ⟨pd, r, h1, h2⟩ := h
  exact ⟨pd, r, h1.same s, h2⟩
theorem tups_off {H : Hp} {L : Addr} {xs : List V} (h : H L = some (.lst xs)) : ∀ a vs, H a = some (.tup vs) → off [L] H a = some (.tup vs) := fun a vs e => off_some.mpr ⟨by
  have := ne_of e h (by intro z; cases z)
  simpa using this, e⟩
theorem RkV.get {n : Nat} {G : Hp} {v : V} {d : D} (h : RkV n G v d) : ∃ a vs, v = .ref a ∧ G a = some (.tup vs) ∧ vs[0]? = some (.int (d.size : Int)) := by
  obtain ⟨pd, r, h1, _, rfl⟩ := h
  cases n with
  | zero =>
    obtain ⟨a, vs, e, ha, hp⟩ := h1
    cases hp with
    | cons z _ => exact z.elim
  | succ n =>
    obtain ⟨a, vs, e, ha, hp⟩ := h1
    refine ⟨a, vs, e, ha, ?_⟩
    cases hp with
    | cons z _ =>
      cases n with
      | zero => rw [show _ = V.int (d.size : Int) from z]; rfl
      | succ n => rw [show _ = V.int (d.size : Int) from z]; rfl
theorem prep_tup {n : Nat} {G : Hp} {a : Addr} {vs : List V} {ds : List PyData} (h : G a = some (.tup vs)) (p : Paired (PRep n G) vs ds) : PRep (n + 1) G (.ref a) (.tuple ds) := ⟨a, vs, rfl, h, p⟩
theorem prep_int {n : Nat} {G : Hp} {i : Int} : PRep n G (.int i) (.int i) := by cases n <;> exact rfl
theorem prep_str {n : Nat} {G : Hp} {i : Str} : PRep n G (.str i) (.str i) := by cases n <;> exact rfl
theorem rkv_all {n : Nat} {G : Hp} : ∀ {ps : List V} {ds : List D}, Paired (RkV n G) ps ds → ∃ pds, Paired (PRep n G) ps pds ∧ ∀ pd ∈ pds, RkS pd
  | _, _, .nil => ⟨[], .nil, by simp⟩
  | _, _, .cons r t => by
    obtain ⟨pds, h1, h2⟩ := rkv_all t
    obtain ⟨pd, _, h3, h4, _⟩ := r
    refine ⟨pd :: pds, .cons h3 h1, fun x hx => ?_⟩
    rcases List.mem_cons.mp hx with rfl | hx
    · exact h4
    · exact h2 x hx
def intsOf (ds : List D) : List Int := ds.map fun d => (d.size : Int)
theorem intsOf_sum : ∀ ds : List D, (intsOf ds).sum = (sizeL ds : Int)
  | [] => rfl
  | d :: ds => by
    have := intsOf_sum ds
    show (d.size : Int) + (intsOf ds).sum = ((sizeL (d :: ds) : Nat) : Int)
    rw [this]
    simp [sizeL]
/-- a field's rank -/
def RkF (n : Nat) (fs : List (Str × D)) (G : Hp) (v : V) (y : Str) : Prop := ∃ t u d, v = .ref t ∧ G t = some (.tup [.str y, u]) ∧ look fs y = some d ∧ RkV n G u d
theorem RkF.same {n : Nat} {fs : List (Str × D)} {G G' : Hp} {v : V} {y : Str} (h : RkF n fs G v y) (s : Same G G') : RkF n fs G' v y := by
  obtain ⟨t, u, d, h1, h2, h3, h4⟩ := h
  exact ⟨t, u, d, h1, s _ _ h2, h3, h4.same s⟩
theorem rkf_all {n : Nat} {fs : List (Str × D)} {G : Hp} : ∀ {ps : List V} {ys : List Str}, Paired (RkF n fs G) ps ys → ∃ pds : List (Str × PyData), Paired (PRep (n + 1) G) ps (pds.map fun p => .tuple [.str p.1, p.2]) ∧ ∀ p ∈ pds, RkS p.2
  | _, _, .nil => ⟨[], .nil, by simp⟩
  | _, _, .cons (b := y) r t => by
    obtain ⟨pds, h1, h2⟩ := rkf_all t
    obtain ⟨a, u, d, rfl, ha, _, pd, _, h3, h4, _⟩ := r
    refine ⟨(y, pd) :: pds, .cons (prep_tup ha (.cons prep_str (.cons h3 .nil))) h1, fun x hx => ?_⟩
    rcases List.mem_cons.mp hx with rfl | hx
    · exact h4
    · exact h2 x hx
def PRk (n : Nat) (ds : List D) (G : Hp) (o : HO) : Prop := ∃ ps, o = .lst ps ∧ Paired (RkV n G) ps ds
theorem PRk.mono {n : Nat} {ds : List D} : Mono (PRk n ds) := fun _ _ _ ⟨ps, h1, h2⟩ s => ⟨ps, h1, L2.Paired.mapP h2 fun _ _ z => z.same s⟩
def PRf (n : Nat) (fs : List (Str × D)) (ys : List Str) (G : Hp) (o : HO) : Prop := ∃ ps, o = .lst ps ∧ Paired (RkF n fs G) ps ys
theorem PRf.mono {n : Nat} {fs : List (Str × D)} {ys : List Str} : Mono (PRf n fs ys) := fun _ _ _ ⟨ps, h1, h2⟩ s => ⟨ps, h1, L2.Paired.mapP h2 fun _ _ z => z.same s⟩
theorem al_nil {H : Hp} : Al [] H := fun a h => by simp at h
theorem off_nil {H : Hp} : Same H (off [] H) := fun a o h => off_some.mpr ⟨by simp, h⟩
section
variable {P : Program} {w : World} {K : PySem.W.Frag} {mg : Str → Option Value} {base : Heap} {C kA : Addr}
def spRank (n : Nat) : Sp := fun vs H Q _ => ∃ (v : V) (d : D), vs = [v] ∧ Sub n H v d ∧ d.size ≤ 100000 ∧ ∀ v' H', Same H H' → RkV (3 * n) H' v' d → Q v' H'
theorem ok_rank_succ {n : Nat} (h : Has K mg "_law_rank" s_l_rank p_l_rank) (T : Txt K mg C kA) (c_l_rank : Cal P w K mg base n "_law_rank" (spRank n) []) : Cal P w K mg base (n + 1) "_law_rank" (spRank (n + 1)) [] := by
  refine h.cal sc_l_rank (fun vs H Q E h => ?_) (fun f cdv A outer s H vs Q E hr h => ?_)
  · obtain ⟨v, d, rfl, _⟩ := h
    rfl
  obtain ⟨v, d, rfl, hd, sz, q⟩ := h
  have hd : Rep n H v d := hd
  have e3 : 3 * (n + 1) = 3 * n + 2 + 1 := by omega
  refine ⟨_, (pss_cons (ps_if (pt_val (pe_callB call_isi rfl T.z_isinstance (by decide +kernel) (pa_cons (pv 0) (pa_cons (pe_bltn (v := .ty "str") (u := .type "str") rfl T.z_str (by decide +kernel) rfl) pa_nil)))) (pss_one (ps_ret (pe_tup (pa_cons (pe_op op_add (pe_callB call_len_str rfl T.z_len (by decide +kernel) (pa_cons (pv 0) pa_nil)) pe_int) (pa_cons pe_int (pa_cons (pv 0) pa_nil)))))) pss_nil)
      (pss_cons (ps_if (pt_val (pe_callB call_isi rfl T.z_isinstance (by decide +kernel) (pa_cons (pv 0) (pa_cons (pe_bltn (v := .ty "list") (u := .type "list") rfl T.z_list (by decide +kernel) rfl) pa_nil)))) (pss_cons (ps_setLc (i := 1) (own := [("_law_part", 3)]) (g := gName 3) (tt := tYes) rfl sc_l_rank.nd rfl rfl (sw_true rfl rfl rfl (by decide +kernel)) (pi_list (pv 0)) (blkOk_by (own := [("_law_part", 3)]) (N := n_l_rank) (sc := fnScope s_l_rank) (by decide +kernel)) (fun _ _ _ _ _ => pg_name (i := 3) sc_l_rank.nd rfl (Or.inl rfl)) (fun _ _ _ _ _ => pts_nil) (fun _ _ _ _ _ => (pe_c c_l_rank hr (by omega) rfl (pa_cons (pv 3) pa_nil))))
        (pss_one (ps_ret (pe_tup (pa_cons (pe_op op_add pe_int (pe_callB (cr_sum rfl) rfl T.z_sum (by decide +kernel) (pa_cons (pe_lc (own := [("_law_part", 3)]) (g := gName 3) (tt := tYes) rfl sc_l_rank.nd (pi_list (pv 1)) (blkOk_by (own := [("_law_part", 3)]) (N := n_l_rank) (sc := fnScope s_l_rank) (by decide +kernel)) (fun _ _ _ _ _ => pg_name (i := 3) sc_l_rank.nd rfl (Or.inl rfl)) (fun _ _ _ _ _ => pts_nil) (fun _ _ _ _ _ => (pe_ix (ix_tupK (K := K) rfl) (pv 3) pe_int (fun _ _ => rfl)))) pa_nil))) (pa_cons pe_int (pa_cons (pe_callTy call_tuple_of rfl T.z_tuple (by decide +kernel) (pa_cons (pv 1) pa_nil)) pa_nil))))))) pss_nil)
      (pss_cons (ps_if (pt_val (pe_callB call_isi rfl T.z_isinstance (by decide +kernel) (pa_cons (pv 0) (pa_cons (pe_bltn (v := .ty "dict") (u := .type "dict") rfl T.z_dict (by decide +kernel) rfl) pa_nil)))) (pss_cons (ps_setLc (i := 2) (own := [("_law_name", 4)]) (g := gName 4) (tt := tYes) rfl sc_l_rank.nd rfl rfl (sw_true rfl rfl rfl (by decide +kernel)) (pi_list (pe_callB (call_sD rfl) rfl T.z_sorted (by decide +kernel) (pa_cons (pv 0) pa_nil))) (blkOk_by (own := [("_law_name", 4)]) (N := n_l_rank) (sc := fnScope s_l_rank) (by decide +kernel)) (fun _ _ _ _ _ => pg_name (i := 4) sc_l_rank.nd rfl (Or.inl rfl)) (fun _ _ _ _ _ => pts_nil) (fun _ _ _ _ _ => (pe_tup (pa_cons (pv 4) (pa_cons (pe_c c_l_rank hr (by omega) rfl (pa_cons (pe_dget (hu_of hr) (pv 0) (pv 4) (fun _ _ => rfl)) pa_nil)) pa_nil)))))
        (pss_one (ps_ret (pe_tup (pa_cons (pe_op op_add pe_int (pe_callB (cr_sum rfl) rfl T.z_sum (by decide +kernel) (pa_cons (pe_lc (own := [("_law_field", 5)]) (g := gName 5) (tt := tYes) rfl sc_l_rank.nd (pi_list (pv 2)) (blkOk_by (own := [("_law_field", 5)]) (N := n_l_rank) (sc := fnScope s_l_rank) (by decide +kernel)) (fun _ _ _ _ _ => pg_name (i := 5) sc_l_rank.nd rfl (Or.inl rfl)) (fun _ _ _ _ _ => pts_nil) (fun _ _ _ _ _ => (pe_ix (ix_tupK (K := K) rfl) (pe_ix (ix_tupK (K := K) rfl) (pv 5) pe_int (fun _ _ => rfl)) pe_int (fun _ _ => rfl)))) pa_nil))) (pa_cons pe_int (pa_cons (pe_callTy call_tuple_of rfl T.z_tuple (by decide +kernel) (pa_cons (pv 2) pa_nil)) pa_nil))))))) pss_nil)
      (pss_cons (ps_if (pt_val (pe_callB call_isi rfl T.z_isinstance (by decide +kernel) (pa_cons (pv 0) (pa_cons (pe_bltn (v := .ty "tuple") (u := .type "tuple") rfl T.z_tuple (by decide +kernel) rfl) pa_nil)))) (pss_cons (ps_set (i := 3) sc_l_rank.nd rfl (Or.inl rfl) (pe_c c_l_rank hr (by omega) rfl (pa_cons (pe_ix ix_tup (pv 0) pe_int (fun _ _ => rfl)) pa_nil)))
        (pss_one (ps_ret (pe_tup (pa_cons (pe_op op_add pe_int (pe_ix ix_tup (pv 3) pe_int (fun _ _ => rfl))) (pa_cons pe_int (pa_cons (pe_ix ix_tup (pv 0) pe_int (fun _ _ => rfl)) (pa_cons (pv 3) pa_nil)))))))) pss_nil)
      (pss_one (ps_ret (pe_tup (pa_cons pe_int (pa_cons pe_int (pa_cons (pe_callB call_abs rfl T.z_abs (by decide +kernel) (pa_cons (pv 0) pa_nil)) (pa_cons (pe_callTy call_int1 rfl T.z_int (by decide +kernel) (pa_cons (pe_cmpR op_lt (pv 0) pe_int (nomark _)) pa_nil)) pa_nil))))))))))), ?_⟩
  have hd1 := hd
  rw [rep_eq] at hd1
  cases d with
  | int i =>
    obtain rfl : v = .int i := hd1
    refine isiB hd rfl (by decide) (ifF (by simp [tyN]) ?_)
    refine isiB hd rfl (by decide) (ifF (by simp [tyN]) ?_)
    refine isiB hd rfl (by decide) (ifF (by simp [tyN]) ?_)
    refine isiB hd rfl (by decide) (ifF (by simp [tyN]) ?_)
    refine ⟨_, rfl, i, rfl, _, rfl, _, _, rfl, rfl, .inr ⟨_, rfl, by show 4 ≤ sizeLine; decide, fun t nt => ?_⟩⟩
    refine q _ _ (same_new nt _) ⟨_, _, (prep_tup (n := 3 * n + 2) upd_same (.cons prep_int (.cons prep_int (.cons prep_int (.cons prep_int .nil))))), .int 1 _ _, rfl⟩
  | str x =>
    obtain rfl : v = .str x := hd1
    simp only [D.size] at sz q
    refine isiB hd rfl (by decide) (ifT (by simp [tyN]) ?_)
    refine ⟨_, rfl, x, rfl, line_small (by omega), _, _, rfl, rfl, _, rfl, by show 3 ≤ sizeLine; decide, fun t nt => ?_⟩
    have e1 : ((1 + x.length : Nat) : Int) = (x.length : Int) + 1 := by omega
    refine q _ _ (same_new nt _) ⟨.tuple [.int ((x.length : Int) + 1), .int 1, .str x], [.int 1, .str x], (prep_tup (n := 3 * n + 2) upd_same (.cons prep_int (.cons prep_int (.cons prep_str .nil)))), .str _ _, ?_⟩
    simp only [D.size]
    rw [e1]
  | lst ds =>
    obtain ⟨a, us, rfl, ha, hp⟩ := hd1
    simp only [D.size] at sz q
    have hdl := len_sizeL ds
    have hul := hp.length
    refine isiB hd rfl (by decide) (ifF (by simp [tyN]) ?_)
    refine isiB hd rfl (by decide) (ifT (by simp [tyN]) ?_)
    refine ⟨_, rfl, a, rfl, ⟨_, SqL.of ha⟩, fun L nL => ?_⟩
    have A0 : Acc [] [] H (upd H L (.lst [])) L (PRk (3 * n) (ds.take 0)) := Acc.new nL al_nil (by simp) fun G => ⟨[], rfl, .nil⟩
    refine lc_list (K := K) (xs := us) (fun j H' => Acc [] [] H H' L (PRk (3 * n) (ds.take j))) A0 (fun j H' _ h => SqL.of (h.same _ _ ha)) ?_ ?_
    · rintro j x H1 hx A1
      obtain ⟨d, hd2, hsb⟩ := paired_get hp hx
      have hm := sizeL_mem (List.mem_of_getElem? hd2)
      have hj := (List.getElem?_eq_some_iff.mp hx).1
      refine ⟨rfl, _, rfl, x, d, rfl, hsb.same A1.same, by omega, fun v' H2 s2 hv' => ?_⟩
      have A2 := A1.step PRk.mono (Stp.of_same s2)
      obtain ⟨_, hL, ps, rfl, hps⟩ := id A2.ex
      have hpl := hps.length
      rw [List.length_take] at hpl
      rw [take_get hd2]
      have hv2 : RkV (3 * n) (off [L] H2) v' d := hv'.tups (tups_off hL)
      exact ⟨ps, hL, line_lt (by omega), A2.set ⟨_, rfl, paired_append hps (.cons hv2 .nil)⟩ PRk.mono⟩
    rintro H1 A1
    have etk : ds.take us.length = ds := List.take_of_length_le (by omega)
    rw [etk] at A1
    obtain ⟨_, hL, ps, rfl, hps⟩ := id A1.ex
    have hps1 : Paired (RkV (3 * n) H1) ps ds := L2.Paired.mapP hps fun _ _ z => z.same off_full
    have hpl := hps.length
    have ips : ∀ j, j ≤ ds.length → (intsOf (ds.take j)).length = j := fun j hj => by
      unfold intsOf
      rw [List.length_map, List.length_take]
      omega
    refine ⟨_, rfl, L, rfl, ⟨_, SqL.of hL⟩, fun Lb nLb => ?_⟩
    have nLLb : L ≠ Lb := ne_of_none hL nLb
    refine lc_list (K := K) (xs := ps) (fun j H' => H' = upd H1 Lb (.lst ((intsOf (ds.take j)).map V.int))) rfl (fun j H' _ h => SqL.of (by rw [h, upd_ne nLLb]; exact hL)) ?_ ?_
    · rintro j x H2 hx rfl
      obtain ⟨d, hd2, hv⟩ := paired_get hps1 hx
      have hj := (List.getElem?_eq_some_iff.mp hx).1
      obtain ⟨b, vs, rfl, hb, hb0⟩ := hv.get
      refine ⟨rfl, _, rfl, b, _, _, _, rfl, rfl, SqT.of ((same_new nLb _) _ _ hb), at_of (j := 0) rfl hb0, _, upd_same, line_lt (by rw [List.length_map, ips j (by omega)]; omega), ?_⟩
      rw [upd_upd, take_get hd2]
      unfold intsOf
      rw [List.map_append, List.map_append]
      rfl
    rintro H2 rfl
    have e2 := same_new nLb (.lst ((intsOf (ds.take ps.length)).map V.int))
    have etk2 : ds.take ps.length = ds := List.take_of_length_le (by omega)
    rw [etk2] at e2 ⊢
    refine ⟨Lb, intsOf ds, rfl, SqL.of upd_same, _, _, rfl, rfl, _, rfl, L, ps, rfl, .inl ⟨SqL.of (e2 _ _ hL), fun tp ntp => ⟨by show 3 ≤ sizeLine; decide, fun t nt => ?_⟩⟩⟩
    have e3' := same_new ntp (.tup ps)
    have e4 := same_new nt (.tup [.int (1 + (intsOf ds).sum), .int 2, .ref tp])
    have e234 := (e2.trans e3').trans e4
    obtain ⟨pds, h1, h2⟩ := rkv_all hps1
    rw [intsOf_sum] at *
    refine q _ _ (A1.same.trans e234) ⟨.tuple [.int (1 + (sizeL ds : Int)), .int 2, .tuple pds], [.int 2, .tuple pds], ?_, .lst _ _ h2, ?_⟩
    · rw [e3]
      refine prep_tup upd_same (.cons prep_int (.cons prep_int (.cons (prep_tup (n := 3 * n + 1) (e4 _ _ upd_same) (L2.Paired.mapP h1 fun _ _ z => (z.same fun a xs e => e234 _ _ e).mono (by omega))) .nil)))
    · simp only [D.size]
      rw [show ((1 + sizeL ds : Nat) : Int) = 1 + (sizeL ds : Int) by omega]
  | rcd fs =>
    obtain ⟨a, kvs, rfl, ha, nd, hp⟩ := hd1
    simp only [D.size] at sz q
    have hkl := hp.length
    have hks := keys_of hp
    refine isiB hd rfl (by decide) (ifF (by simp [tyN]) ?_)
    refine isiB hd rfl (by decide) (ifF (by simp [tyN]) ?_)
    refine isiB hd rfl (by decide) (ifT (by simp [tyN]) ?_)
    refine ⟨_, rfl, a, kvs, fs.map (·.1), rfl, .inl ha, hks, by rw [List.length_map]; omega, fun ys lp hperm _ nlp => ?_⟩
    have e1 := same_new nlp (.lst (ys.map V.str))
    have hyl : ys.length ≤ 8 := by rw [hperm.length_eq, List.length_map]; exact nd.2
    refine ⟨lp, rfl, ⟨_, SqL.of upd_same⟩, fun L nL => ?_⟩
    have A0 : Acc [] [] (upd H lp (.lst (ys.map V.str))) (upd (upd H lp (.lst (ys.map V.str))) L (.lst [])) L (PRf (3 * n) fs (ys.take 0)) := Acc.new nL al_nil (by simp) fun G => ⟨[], rfl, .nil⟩
    refine lc_list (K := K) (xs := ys.map V.str) (fun j H' => Acc [] [] (upd H lp (.lst (ys.map V.str))) H' L (PRf (3 * n) fs (ys.take j))) A0 (fun j H' _ h => SqL.of (h.same _ _ upd_same)) ?_ ?_
    · rintro j x H1 hx A1
      obtain ⟨y, rfl, hy⟩ := strs_get hx
      have hj := (List.getElem?_eq_some_iff.mp hy).1
      obtain ⟨d, hdy⟩ := look_some.mpr (hperm.mem_iff.mp (List.mem_of_getElem? hy))
      rcases look_val y hp with ⟨g1, _⟩ | ⟨u, d', g1, g2, g3⟩
      · rw [g1] at hdy; cases hdy
      rw [g1] at hdy
      cases hdy
      have hm : d.size ≤ sizeF fs := sizeF_mem (look_mem g1)
      have sm1 := e1.trans A1.same
      refine ⟨rfl, _, rfl, _, rfl, _, rfl, a, u, rfl, g2 ▸ DGet.k (k := Sum.inr y) (sm1 _ _ ha), u, d, rfl, g3.same sm1, by omega, fun v' H2 s2 hv' => ⟨by show 2 ≤ sizeLine; decide, fun t nt => ?_⟩⟩
      have e2 := same_new nt (.tup [.str y, v'])
      have A2 := A1.step PRf.mono (Stp.of_same (s2.trans e2))
      obtain ⟨_, hL, ps, rfl, hps⟩ := id A2.ex
      have hpl := hps.length
      rw [List.length_take] at hpl
      rw [take_get hy]
      have hv2 : RkF (3 * n) fs (off [L] (upd H2 t (.tup [.str y, v']))) (.ref t) y := ⟨t, v', d, rfl, tups_off hL _ _ upd_same, g1, (hv'.same e2).tups (tups_off hL)⟩
      exact ⟨ps, hL, line_lt (by omega), A2.set ⟨_, rfl, paired_append hps (.cons hv2 .nil)⟩ PRf.mono⟩
    rintro H1 A1
    rw [List.length_map, List.take_length] at A1
    obtain ⟨_, hL, ps, rfl, hps⟩ := id A1.ex
    have hps1 : Paired (RkF (3 * n) fs H1) ps ys := L2.Paired.mapP hps fun _ _ z => z.same off_full
    have hpl := hps.length
    have hbn : ∀ j, (byN fs (ys.take j)).length = min j ys.length := fun j => by
      unfold byN
      rw [List.length_map, List.length_take]
    refine ⟨_, rfl, L, rfl, ⟨_, SqL.of hL⟩, fun Lb nLb => ?_⟩
    have nLLb : L ≠ Lb := ne_of_none hL nLb
    refine lc_list (K := K) (xs := ps) (fun j H' => H' = upd H1 Lb (.lst ((intsOf (byN fs (ys.take j))).map V.int))) rfl (fun j H' _ h => SqL.of (by rw [h, upd_ne nLLb]; exact hL)) ?_ ?_
    · rintro j x H2 hx rfl
      obtain ⟨y, hy, t, u, d, rfl, ht, hl, hv⟩ := paired_get hps1 hx
      have hj := (List.getElem?_eq_some_iff.mp hx).1
      obtain ⟨b, vs, rfl, hb, hb0⟩ := hv.get
      have e5 := same_new nLb (.lst ((intsOf (byN fs (ys.take j))).map V.int))
      refine ⟨rfl, _, rfl, t, _, _, _, rfl, rfl, SqT.of (e5 _ _ ht), at_of (j := 1) rfl rfl, b, _, _, _, rfl, rfl, SqT.of (e5 _ _ hb), at_of (j := 0) rfl hb0, _, upd_same, line_lt (by unfold intsOf; rw [List.length_map, List.length_map, hbn]; omega), ?_⟩
      rw [upd_upd, take_get hy]
      unfold intsOf byN
      rw [List.map_append, List.map_append, List.map_append]
      simp only [List.map_cons, List.map_nil, hl, Option.getD_some]
    rintro H2 rfl
    have e2 := same_new nLb (.lst ((intsOf (byN fs (ys.take ps.length))).map V.int))
    have etk2 : ys.take ps.length = ys := List.take_of_length_le (by omega)
    rw [etk2] at e2 ⊢
    refine ⟨Lb, intsOf (byN fs ys), rfl, SqL.of upd_same, _, _, rfl, rfl, _, rfl, L, ps, rfl, .inl ⟨SqL.of (e2 _ _ hL), fun tp ntp => ⟨by show 3 ≤ sizeLine; decide, fun t nt => ?_⟩⟩⟩
    have e3' := same_new ntp (.tup ps)
    have e4 := same_new nt (.tup [.int (1 + (intsOf (byN fs ys)).sum), .int 3, .ref tp])
    have e234 := (e2.trans e3').trans e4
    obtain ⟨pds, h1, h2⟩ := rkf_all hps1
    rw [intsOf_sum, byN_size nd.1 hperm] at *
    refine q _ _ ((e1.trans A1.same).trans e234) ⟨.tuple [.int (1 + (sizeF fs : Int)), .int 3, .tuple (pds.map fun p => .tuple [.str p.1, p.2])], [.int 3, .tuple (pds.map fun p => .tuple [.str p.1, p.2])], ?_, .rcd _ _ h2, ?_⟩
    · rw [e3]
      refine prep_tup upd_same (.cons prep_int (.cons prep_int (.cons (prep_tup (n := 3 * n + 1) (e4 _ _ upd_same) (L2.Paired.mapP h1 fun _ _ z => z.same fun a xs e => e234 _ _ e)) .nil)))
    · simp only [D.size]
      rw [show ((1 + sizeF fs : Nat) : Int) = 1 + (sizeF fs : Int) by omega]
  | cho t x =>
    obtain ⟨a, u, rfl, ha, hsb⟩ := hd1
    simp only [D.size] at sz q
    refine isiB hd rfl (by decide) (ifF (by simp [tyN]) ?_)
    refine isiB hd rfl (by decide) (ifF (by simp [tyN]) ?_)
    refine isiB hd rfl (by decide) (ifF (by simp [tyN]) ?_)
    refine isiB hd rfl (by decide) (ifT (by simp [tyN]) ?_)
    refine ⟨_, rfl, a, _, _, u, rfl, rfl, SqT.of ha, at_of (j := 1) rfl rfl, u, x, rfl, hsb, by omega, fun v' H1 s1 hv' => ?_⟩
    obtain ⟨b, vs, rfl, hb, hb0⟩ := hv'.get
    refine ⟨_, rfl, b, _, _, _, rfl, rfl, SqT.of hb, at_of (j := 0) rfl hb0, _, _, rfl, rfl, _, rfl, a, _, _, .str t, rfl, rfl, SqT.of (s1 _ _ ha), at_of (j := 0) rfl rfl, _, rfl, by show 4 ≤ sizeLine; decide, fun p np => ?_⟩
    have e1 := same_new np (.tup [.int (1 + (x.size : Int)), .int 4, .str t, .ref b])
    obtain ⟨pd, r, h1, h2, h3⟩ := hv'
    refine q _ _ (s1.trans e1) ⟨.tuple [.int (1 + (x.size : Int)), .int 4, .str t, pd], [.int 4, .str t, pd], ?_, .cho _ _ _ h2, ?_⟩
    · rw [e3]
      exact prep_tup upd_same (.cons prep_int (.cons prep_int (.cons prep_str (.cons ((h1.same fun a xs e => e1 _ _ e).mono (by omega)) .nil))))
    · simp only [D.size]
      rw [show ((1 + x.size : Nat) : Int) = 1 + (x.size : Int) by omega]
theorem ok_rank (h : Has K mg "_law_rank" s_l_rank p_l_rank) (T : Txt K mg C kA) : ∀ n, Cal P w K mg base n "_law_rank" (spRank n) []
  | 0 => by
    obtain ⟨f, fd, d, b⟩ := h.ex
    exact ⟨f, fd, p_l_rank, [], ⟨fun _ _ _ _ z => by obtain ⟨_, _, _, z, _⟩ := z; exact z.elim, fun _ _ _ _ _ _ _ _ _ _ _ _ _ z => by obtain ⟨_, _, _, z, _⟩ := z; exact z.elim⟩, d.mgf, d.kp, b, .nil⟩
  | n + 1 => ok_rank_succ h T (ok_rank h T n)
def spSize (n : Nat) : Sp := fun vs H Q _ => ∃ (v : V) (d : D), vs = [v] ∧ Sub n H v d ∧ d.size ≤ 100000 ∧ ∀ H', Same H H' → Q (.int (d.size : Int)) H'
theorem ok_size {n : Nat} (h : Has K mg "_law_size" s_l_size p_l_size) (T : Txt K mg C kA) (c_l_rank : Cal P w K mg base n "_law_rank" (spRank n) []) : Cal P w K mg base (n + 1) "_law_size" (spSize n) [] := by
  refine h.cal sc_l_size (fun vs H Q E h => ?_) (fun f cdv A outer s H vs Q E hr h => ?_)
  · obtain ⟨v, d, rfl, _⟩ := h
    rfl
  obtain ⟨v, d, rfl, hd, sz, q⟩ := h
  refine ⟨_, (pss_one (ps_ret (pe_ix ix_tup (pe_c c_l_rank hr (by omega) rfl (pa_cons (pv 0) pa_nil)) pe_int (fun _ _ => rfl)))), ?_⟩
  refine ⟨_, rfl, v, d, rfl, hd, sz, fun v' H1 s1 hv' => ?_⟩
  obtain ⟨b, vs, rfl, hb, hb0⟩ := hv'.get
  exact ⟨b, _, _, _, rfl, rfl, SqT.of hb, at_of (j := 0) rfl hb0, q _ s1⟩
end
end Ff
/-! The law, 17: the values that are known, some of them. -/
namespace Ff
open PySem L2 C8
/-! ### == with the empty list -/
def rEqE (K : PySem.W.Frag) : R2 := fun x y H Q => ∃ (a b : Addr) (xs : List V), x = .ref a ∧ y = .ref b ∧ a ≠ b ∧ SqL K H a xs ∧ H b = some (.lst []) ∧ Q (.bl xs.isEmpty) H
theorem op_eqE {X : Cx} (hu : X.A.units < cLine) : OpR X (compareOp .Eq) (rEqE X.K) := by
  intro pins s σ H x y v u Q I rx ry h
  obtain ⟨a, b, xs, rfl, rfl, hne, ha, hb, q⟩ := h
  obtain rfl : v = Value.ref a := rx
  obtain rfl : u = Value.ref b := ry
  obtain ⟨its, rv, hl, hz⟩ := I.list ha
  obtain ⟨_, its2, n2, rv2, hl2, hb2⟩ := I.lstM hb
  cases rv2
  have h2 : s.heap.IsList b #[] := ⟨_, hb2, rfl, _, rfl⟩
  show wpAny (model X.prog X.w) X.A (richCompare .Eq (.ref a) (.ref b)) (EP X pins σ Q) X.xe s
  cases rv with
  | nil =>
    refine PySem.SeqAt.RcAt.lists hl.isList h2 rfl hu (e := fun _ => true) (fun j h _ => absurd h (by simp)) _ _ _ _ ?_
    exact ⟨.bl true, H, I, rfl, q⟩
  | cons r t =>
    refine PySem.SeqAt.RcAt.lists_lengths hl.isList h2 (by simp) hu _ _ _ _ ?_
    exact ⟨.bl false, H, I, rfl, q⟩
theorem un_of {k : Nat} {A : Around} (r : Room k A) : A.units < cLine := r.units0
/-- a value that is known: of at most four parts -/
def Kv (G : Hp) (v : V) : Prop := ∃ d, Rep 4 G v d ∧ d.gd 1000 ∧ d.size ≤ 4
theorem Kv.same {G G' : Hp} {v : V} (h : Kv G v) (s : Same G G') : Kv G' v := by
  obtain ⟨d, h1, h2⟩ := h
  exact ⟨d, h1.same s, h2⟩
def KvL (G : Hp) (x : V) : Prop := ∃ l xs, x = .ref l ∧ G l = some (.lst xs) ∧ ∀ v ∈ xs, Kv G v
theorem KvL.same {G G' : Hp} {v : V} (h : KvL G v) (s : Same G G') : KvL G' v := by
  obtain ⟨l, xs, h1, h2, h3⟩ := h
  exact ⟨l, xs, h1, s _ _ h2, fun v hv => (h3 v hv).same s⟩
/-- the values that are known, by name -/
def PKn (ns : List Str) (G : Hp) (o : HO) : Prop := ∃ kvs : List (Key × V), o = .dK kvs ∧ kvs.length ≤ ns.length ∧ (∀ nm x, valV kvs (Sum.inr nm) = some x → KvL G x) ∧ ∀ nm ∈ ns, ∃ x, valV kvs (Sum.inr nm) = some x
theorem PKn.mono {ns : List Str} : Mono (PKn ns) := fun _ _ _ ⟨kvs, h1, h2, h3, h4⟩ s => ⟨kvs, h1, h2, fun nm x hx => (h3 nm x hx).same s, h4⟩
section
variable {P : Program} {w : World} {K : PySem.W.Frag} {mg : Str → Option Value} {base : Heap} {C kA : Addr}
def spListed (C : Addr) : Sp := fun vs H Q _ => ∃ (o : Addr) (M : List Addr) (root : Str) (F : Dfs), vs = [.ref o, .int 4] ∧ Al M H ∧ FormAt C (off M H) o root F ∧ ShF F 100 ∧
  ∀ l p H' ns last kn, Same H H' → ns.Perm (F.map (·.1)) → H' l = some (.lst [.ref p, .int last]) → off M H' p = some kn → PKn ns (off M H') kn → Q (.ref l) H'
theorem ok_listed (h : Has K mg "_law_listed" s_l_listed p_l_listed) (T : Txt K mg C kA) (c_l_table : Cal P w K mg base 4 "_law_table" spTable []) (c_l_rank : Cal P w K mg base 5 "_law_rank" (spRank 5) []) : Cal P w K mg base 8 "_law_listed" (spListed C) [] := by
  refine h.cal sc_l_listed (fun vs H Q E h => ?_) (fun f cdv A outer s H vs Q E hr h => ?_)
  · obtain ⟨o, M, root, F, rfl, _⟩ := h
    rfl
  obtain ⟨o, M, root, F, rfl, al, ⟨dx, dd, ho, hds⟩, sh, q⟩ := h
  refine ⟨_, (pss_cons (ps_set (i := 2) sc_l_listed.nd rfl (Or.inl rfl) (pe_c c_l_table hr (by omega) rfl (pa_cons (pe_fld (pv 0) rfl) (pa_cons (pv 1) pa_nil))))
      (pss_cons (ps_set (i := 3) sc_l_listed.nd rfl (Or.inl rfl) pe_dnewK)
      (pss_cons (ps_set (i := 4) sc_l_listed.nd rfl (Or.inl rfl) pe_int)
      (pss_cons (ps_for PassesOwn.never rfl (pi_list (pe_callB (call_sD rfl) rfl T.z_sorted (by decide +kernel) (pa_cons (pe_fld (pv 0) rfl) pa_nil))) (pg_name (i := 5) sc_l_listed.nd rfl (Or.inl rfl))
        (pss_cons (ps_set (i := 6) sc_l_listed.nd rfl (Or.inl rfl) (pe_lst pa_nil))
        (pss_cons (ps_for PassesOwn.never rfl (pi_range2 rfl T.z_range (pa_cons pe_int (pa_cons (pe_op op_add (pv 1) pe_int) pa_nil))) (pg_name (i := 7) sc_l_listed.nd rfl (Or.inl rfl))
          (pss_one (ps_if (pt_cmp (pc_din (hu_of hr) (pe_tup (pa_cons (pv 5) (pa_cons (pv 7) pa_nil))) (pv 2))) (pss_cons (ps_set (i := 4) sc_l_listed.nd rfl (Or.inl rfl) (pe_callB (call_max2 rfl) rfl T.z_max (by decide +kernel) (pa_cons (pv 4) (pa_cons (pv 7) pa_nil))))
            (pss_one (ps_set (i := 6) sc_l_listed.nd rfl (Or.inl rfl) (pe_op op_cat (pv 6) (pe_dget (hu_of hr) (pv 2) (pe_tup (pa_cons (pv 5) (pa_cons (pv 7) pa_nil))) (fun _ _ => rfl)))))) pss_nil)))
        (pss_one (ps_dput (hu_of hr) (pv 3) (pv 5) (pe_sortedKey (n := 20) c_l_rank hr (by omega) (by decide) rfl rfl T.z_sorted (by decide +kernel) rfl (pv 6)) rfl)))))
      (pss_one (ps_ret (pe_lst (pa_cons (pv 3) (pa_cons (pv 4) pa_nil))))))))), ?_⟩
  refine ⟨_, rfl, o, C, dx, _, _, rfl, off_at ho, T.cl, T.nDefs, flF_defs _ _, _, rfl, dd, 4, F, M, rfl, by decide, al, hds, sh.tbf, fun tb H1 kt sm1 ntb htb hte => ?_⟩
  have al1 := al.same sm1
  have htb1 : off M H1 tb = some (.dT kt) := off_in al ntb htb
  obtain ⟨kd, hkd, hpd⟩ := hds.same (offs_same sm1)
  have ho1 := (offs_same (M := M) sm1) _ _ ho
  intro p np
  have A0 : Acc [] M H1 (upd H1 p (.dK [])) p (PKn []) := Acc.new np al1 (by simp) fun G => ⟨[], rfl, Nat.le_refl _, fun _ _ h => (by cases h), by simp⟩
  refine ⟨_, rfl, o, C, dx, _, _, rfl, off_at (A0.so _ _ ho1), T.cl, T.nDefs, flF_defs _ _, dd, kd, F.map (·.1), rfl, .inl (A0.same _ _ (off_at hkd)), keys_ofE hpd, by rw [List.length_map]; have := sh.len; omega, fun ys lp hperm _ nlp => ?_⟩
  have hys4 : ys.length ≤ 4 := by rw [hperm.length_eq, List.length_map]; exact sh.len
  have e1 := same_new nlp (.lst (ys.map V.str))
  have A1 := A0.step PKn.mono (Stp.of_same e1)
  have hlp : off (p :: M) (upd (upd H1 p (.dK [])) lp (.lst (ys.map V.str))) lp = some (.lst (ys.map V.str)) := off_in A0.alp nlp upd_same
  refine ⟨lp, rfl, ⟨_, SqL.of upd_same⟩, ?_⟩
  refine for_list (K := K) (xs := ys.map V.str) (fun j σ H' => Acc [] M H1 H' p (PKn (ys.take j)) ∧ off (p :: M) H' lp = some (.lst (ys.map V.str)) ∧ ∃ (last : Int) (x5 x6 x7 : Option V), σ = [some (.ref o), some (.int 4), some (.ref tb), some (.ref p), some (.int last), x5, x6, x7])
    ⟨A1, hlp, 0, _, _, _, rfl⟩ (fun j σ H' _ h => SqL.of (off_at h.2.1)) ?_ ?_
  · rintro j x σ H2 hx ⟨A2, hlp2, last, x5, x6, x7, rfl⟩
    obtain ⟨nm, rfl, hnm⟩ := strs_get hx
    refine ⟨by show 0 ≤ sizeLine; decide, fun R0 nR => ?_⟩
    have e2 := same_new nR (.lst ([] : List V))
    refine ⟨_, rfl, _, _, rfl, rfl, 1, _, rfl, ⟨by decide, by decide, by decide, by decide⟩, ?_⟩
    refine for_range (lo := 1) (fun k σ H' => Same H2 H' ∧ ∃ (R : Addr) (rs : List V) (last : Int) (x7 : Option V), H' R = some (.lst rs) ∧ rs.length ≤ 150 * k ∧ (∀ v ∈ rs, Kv (off (p :: M) H') v) ∧ σ = [some (.ref o), some (.int 4), some (.ref tb), some (.ref p), some (.int last), some (.str nm), some (.ref R), x7])
      ⟨e2, R0, [], last, _, upd_same, Nat.zero_le _, by simp, rfl⟩ ?_ ?_
    · rintro k σ H3 hk ⟨sm3, R, rs, last, x7, hR, hRl, hrs, rfl⟩
      have htb3 : off (p :: M) H3 tb = some (.dT kt) := (offs_same sm3) _ _ (A2.so _ _ htb1)
      have hte3 := (hte.same A2.so).same (offs_same sm3)
      have alp3 := A2.alp.same sm3
      refine ⟨_, rfl, _, rfl, by show 2 ≤ sizeLine; decide, fun t1 n1 => ?_⟩
      have e3 := same_new n1 (.tup [.str nm, .int (1 + (k : Int))])
      refine ⟨_, rfl, tb, _, rfl, DGet.t (k := [Sum.inr nm, Sum.inl (1 + (k : Int))]) (e3 _ _ (off_at htb3)) upd_same, _, rfl, ?_⟩
      cases hv : valV kt [Sum.inr nm, Sum.inl (1 + (k : Int))] with
      | none => exact iteF ⟨sm3.trans e3, R, rs, last, _, e3 _ _ hR, by omega, fun v hv => (hrs v hv).same (offs_same e3), rfl⟩
      | some x =>
        obtain ⟨df, m, g1, g2, g3, l, us, rfl, g5, g6, g7⟩ := hte3 nm _ x hv
        refine iteT ⟨_, rfl, _, rfl, _, _, rfl, ?_⟩
        refine ⟨_, rfl, _, rfl, _, rfl, _, rfl, by show 2 ≤ sizeLine; decide, fun t2 n2 => ?_⟩
        have e4 := same_new n2 (.tup [.str nm, .int (1 + (k : Int))])
        have e34 := e3.trans e4
        refine ⟨tb, .ref l, rfl, hv ▸ DGet.t (k := [Sum.inr nm, Sum.inl (1 + (k : Int))]) (e34 _ _ (off_at htb3)) upd_same, R, l, _, _, rfl, rfl, e34 _ _ hR, e34 _ _ (off_at g5), line_small (by omega), fun R2 nR2 => ?_⟩
        have e5 := same_new nR2 (.lst (rs ++ us))
        have e345 := e34.trans e5
        refine ⟨sm3.trans e345, R2, rs ++ us, _, _, upd_same, by rw [List.length_append]; omega, fun v hv => ?_, rfl⟩
        rcases List.mem_append.mp hv with hv | hv
        · exact (hrs v hv).same (offs_same e345)
        · obtain ⟨d, d1, d2, d3, d4⟩ := g7 v hv
          exact ⟨d, (d1.mono (by omega)).same (offs_same e345), d3, by omega⟩
    · rintro σ H3 ⟨sm3, R, rs, last, x7, hR, hRl, hrs, rfl⟩
      have A3 := A2.step PKn.mono (Stp.of_same sm3)
      refine fun fr => ⟨_, rfl, R, rs, rfl, rfl, hR, fun x hx H' Q' s1 h' => ?_, fun R2 H4 zs hz sm4 nR2 hR2 => ?_⟩
      · obtain ⟨d, d1, d2, d3⟩ := hrs x hx
        refine ⟨x, d, rfl, (d1.same off_full).same s1, by omega, fun v' H'' s2 hv' => ?_⟩
        obtain ⟨pd, r, g1, g2, _⟩ := hv'
        exact h' v' pd H'' s2 (g1.mono (by decide)) g2
      · have A4 := A3.step PKn.mono (Stp.of_same sm4)
        obtain ⟨_, hpo, kf, rfl, k1, k2, k3⟩ := id A4.ex
        refine ⟨_, rfl, _, rfl, p, _, rfl, DPut.k (k := Sum.inr nm) hpo (line_lt (by rw [List.length_take] at k1; omega)), ?_⟩
        refine ⟨?_, off_put _ _ ((offs_same sm4) _ _ ((offs_same sm3) _ _ hlp2)), _, _, _, _, rfl⟩
        rw [take_get hnm]
        have hKv : KvL (off (p :: M) H4) (.ref R2) := ⟨R2, zs, rfl, off_in A3.alp nR2 hR2, fun v hv => (hrs v (hz.mem_iff.mp hv)).same (offs_same sm4)⟩
        refine A4.set ⟨_, rfl, ?_, fun nm' x hx => ?_, fun nm' hn' => ?_⟩ PKn.mono
        · rw [List.length_append]
          exact Nat.le_trans (putK_le kf (Sum.inr nm) (.ref R2)) (Nat.add_le_add_right k1 1)
        · rw [valV_put] at hx
          split at hx
          · obtain rfl := Option.some.inj hx
            exact hKv
          · exact k2 nm' x hx
        · by_cases c : (Sum.inr nm' : Key) = Sum.inr nm
          · exact ⟨_, by rw [valV_put, if_pos c]⟩
          · rcases List.mem_append.mp hn' with hn' | hn'
            · obtain ⟨x, hx⟩ := k3 nm' hn'
              exact ⟨x, by rw [valV_put, if_neg c]; exact hx⟩
            · exact absurd (by rw [List.mem_singleton.mp hn']) c
  · rintro σ H2 ⟨A2, hlp2, last, x5, x6, x7, rfl⟩
    rw [List.length_map, List.take_length] at A2
    obtain ⟨kn, hpo, hK⟩ := id A2.ex
    refine ⟨_, rfl, _, rfl, by show 2 ≤ sizeLine; decide, fun l nl => ?_⟩
    have e5 := same_new nl (.lst [.ref p, .int last])
    have npl : p ≠ l := ne_of_none hpo nl
    exact q l p _ ys last kn ((sm1.trans A2.same).trans e5) hperm upd_same ((offs_same e5) _ _ (off_in al1 np hpo)) (PKn.mono _ _ _ hK (off_less.trans (offs_same e5)))
end
end Ff
/-! The law, 18: some values. -/
namespace Ff
open PySem L2 C8
abbrev OkV (G : Hp) (v : V) : Prop := Vg 5 300 1100 G v
theorem okv_mono : MonoV OkV := fun _ _ _ h s => h.same s
section
variable {P : Program} {w : World} {K : PySem.W.Frag} {mg : Str → Option Value} {base : Heap} {C kA : Addr}
def spSome : Sp := fun vs H Q _ => ∃ (b l : Addr) (M : List Addr) (xs : List V), vs = [.ref b, .ref l, .int 4] ∧ Box M H b ∧ off M H l = some (.lst xs) ∧ (∀ v ∈ xs, Kv (off M H) v) ∧
  ∀ p H' ws, Stp [b] H H' → Box M H' b → H p = none → H' p = some (.lst ws) → ws.length ≤ 4 → (∀ v ∈ ws, OkV (off M H') v) → Q (.ref p) H'
theorem ok_some_values (h : Has K mg "_law_some_values" s_l_some_values p_l_some_values) (T : Txt K mg C kA) (c_l_draw : Cal P w K mg base 1 "_law_draw" spDraw []) (c_l_wild : Cal P w K mg base 6 "_law_wild" (spWild 3) []) (c_l_spoilt : Cal P w K mg base 10 "_law_spoilt" (spSp 5) []) : Cal P w K mg base 11 "_law_some_values" spSome [] := by
  refine h.cal sc_l_some_values (fun vs H Q E h => ?_) (fun f cdv A outer s H vs Q E hr h => ?_)
  · obtain ⟨b, l, M, xs, rfl, _⟩ := h
    rfl
  obtain ⟨b, l, M, xs, rfl, bx0, hl, hxs, q⟩ := h
  refine ⟨_, (pss_cons (ps_set (i := 3) sc_l_some_values.nd rfl (Or.inl rfl) (pe_lst pa_nil))
      (pss_cons (ps_for PassesOwn.never rfl (pi_range1 rfl T.z_range (pa_cons (pv 2) pa_nil)) (pg_name (i := 4) sc_l_some_values.nd rfl (Or.inl rfl))
        (pss_cons (ps_set (i := 5) sc_l_some_values.nd rfl (Or.inl rfl) (pe_c c_l_draw hr (by omega) rfl (pa_cons (pv 0) (pa_cons pe_int pa_nil))))
        (pss_one (ps_if (PW.pt (pw_or (pt_cmpR op_eq (pv 5) pe_int (nomark _)) (pw_or1 (pt_cmpR (op_eqE (un_of hr)) (pv 1) (pe_lst pa_nil) (nomark _))))) (pss_one (ps_expr (pe_bm PySem.F.plainAttrs_list PySem.F.slot_list_append PySem.F.type_list_append mt_append (pv 3) (pa_cons (pe_c c_l_wild hr (by omega) rfl (pa_cons (pv 0) (pa_cons pe_int pa_nil))) pa_nil)))) (pss_cons (ps_set (i := 6) sc_l_some_values.nd rfl (Or.inl rfl) (pe_ix ix_list (pv 1) (pe_op op_modN (pe_callTy call_int1 rfl T.z_int (by decide +kernel) (pa_cons (pe_op op_add (pe_op op_mul (pe_c c_l_draw hr (by omega) rfl (pa_cons (pv 0) (pa_cons pe_int pa_nil))) pe_int) (pv 4)) pa_nil)) (pe_callB call_len_seq rfl T.z_len (by decide +kernel) (pa_cons (pv 1) pa_nil))) (fun _ _ => rfl)))
          (C8.pss_cut (ps_if (pt_cmpR op_eq (pv 5) pe_int (nomark _)) (pss_one (ps_set (i := 6) sc_l_some_values.nd rfl (Or.inl rfl) (pe_c c_l_spoilt hr (by omega) rfl (pa_cons (pv 0) (pa_cons (pv 6) pa_nil))))) pss_nil)
          (pss_one (ps_expr (pe_bm PySem.F.plainAttrs_list PySem.F.slot_list_append PySem.F.type_list_append mt_append (pv 3) (pa_cons (pv 6) pa_nil))))))))))
      (pss_one (ps_ret (pv 3))))), ?_⟩
  refine ⟨by show 0 ≤ sizeLine; decide, fun fo nfo => ?_⟩
  have sub : ∀ a ∈ [b], a ∈ M := by
    intro a ha
    rw [List.mem_singleton.mp ha]
    exact bx0.mem
  have A0 : Acc [b] M H (upd H fo (.lst [])) fo (LP 0 OkV) := Acc.nil nfo bx0.al sub
  have hfb : fo ≠ b := bx0.ne nfo
  refine ⟨_, rfl, 4, rfl, by decide, by decide, ?_⟩
  refine for_range (lo := 0) (n := 4) (fun i σ H' => Acc [b] M H H' fo (LP i OkV) ∧ Box (fo :: M) H' b ∧ ∃ (x4 x5 x6 : Option V), σ = [some (.ref b), some (.ref l), some (.int 4), some (.ref fo), x4, x5, x6])
    ⟨A0, bx0.also nfo, _, _, _, rfl⟩ ?_ ?_
  · rintro i σ H1 hi ⟨A1, bx1, x4, x5, x6, rfl⟩
    refine ⟨_, rfl, b, 3, fo :: M, rfl, by decide, bx1, fun kd H2 kd0 kd3 st2 bx2 => ?_⟩
    have A2 := A1.step (LP.mono okv_mono) st2
    -- an end: a value that is put behind
    have fin : ∀ {H3 : Hp} {v : V} {ys : List V}, Acc [b] M H H3 fo (LP i OkV) → Box (fo :: M) H3 b → H3 fo = some (.lst ys) → OkV (off (fo :: M) H3) v → Acc [b] M H (upd H3 fo (.lst (ys ++ [v]))) fo (LP (i + 1) OkV) ∧ Box (fo :: M) (upd H3 fo (.lst (ys ++ [v]))) b :=
      fun A bx hy hv => ⟨A.add okv_mono hy hv (Nat.le_refl _), bx.put (by simp) hfb⟩
    have wild : ∀ {H3 : Hp} {N : Ends} {σ : L2.St}, Acc [b] M H H3 fo (LP i OkV) → Box (fo :: M) H3 b → σ = [some (.ref b), some (.ref l), some (.int 4), some (.ref fo), some (.int (0 + (i : Int))), some (.int kd), x6] →
        (N.nx = fun σ H' => Acc [b] M H H' fo (LP (i + 1) OkV) ∧ Box (fo :: M) H' b ∧ ∃ (x4 x5 x6 : Option V), σ = [some (.ref b), some (.ref l), some (.int 4), some (.ref fo), x4, x5, x6]) →
        tDrop (tBM K "list" rAppend (tVar 3) (tCons (tCall (spWild 3) [] C8.E0 (tCons (tVar 0) (tCons (tC (.int 3)) tNil))) tNil)) N σ H3 := by
      rintro H3 N σ A3 bx3 rfl hN
      obtain ⟨ys, hy, hyl, hys⟩ := A3.lst
      refine ⟨_, rfl, .inl ⟨rfl, _, SqL.of hy⟩, _, rfl, b, fo :: M, rfl, bx3, fun v H4 st4 bx4 hv => ?_⟩
      have A4 := A3.step (LP.mono okv_mono) st4
      obtain ⟨ys, hy, hyl, hys⟩ := A4.lst
      refine ⟨fo, _, _, rfl, rfl, hy, line_lt (by omega), ?_⟩
      rw [hN]
      obtain ⟨h1, h2⟩ := fin A4 bx4 hy (hv.mono (by decide) (by decide) (by decide))
      exact ⟨h1, h2, _, _, _, rfl⟩
    refine ⟨_, rfl, rfl, _, rfl, ?_⟩
    by_cases c0 : V.int kd = V.int 0
    · refine ifT c0 (iteT ?_)
      exact wild A2 bx2 rfl rfl
    refine ifF c0 ?_
    refine ⟨_, rfl, by show 0 ≤ sizeLine; decide, fun e ne => ?_⟩
    have e3 := same_new ne (.lst ([] : List V))
    have hl2 : off (fo :: M) H2 l = some (.lst xs) := A2.so _ _ hl
    have nle : l ≠ e := ne_of_none (off_at hl2) ne
    refine ⟨l, e, xs, rfl, rfl, nle, SqL.of (e3 _ _ (off_at hl2)), upd_same, _, rfl, ?_⟩
    have A3 := A2.step (LP.mono okv_mono) (Stp.of_same e3)
    have bx3 := bx2.same e3
    have hl3 := (offs_same e3) _ _ hl2
    generalize upd H2 e (.lst []) = H3 at *
    cases hxe : xs.isEmpty with
    | true => exact iteT (wild A3 bx3 rfl rfl)
    | false =>
      have hx0 : 0 < xs.length := by
        cases xs with
        | nil => cases hxe
        | cons u r => simp
      refine iteF ?_
      refine ⟨_, rfl, _, rfl, b, 900, fo :: M, rfl, by decide, bx3, fun z H4 z0 z9 st4 bx4 => ?_⟩
      have A4 := A3.step (LP.mono okv_mono) st4
      have hl4 : H4 l = some (.lst xs) := off_at ((st4.offb bx3.mem) _ _ hl3)
      refine ⟨_, _, rfl, rfl, .inr ⟨by decide, by decide⟩, _, rfl, _, _, rfl, rfl, .inl ⟨_, rfl, _, rfl, l, _, rfl, .inl (SqL.of hl4), _, _, rfl, rfl, by omega, ?_⟩⟩
      have hm := fmod_lt (x := z * 7 + (0 + (i : Int))) (m := (xs.length : Int)) (by omega)
      have hlt : ((z * 7 + (0 + (i : Int))).fmod (xs.length : Int)).toNat < xs.length := by omega
      refine ⟨l, _, _, xs[((z * 7 + (0 + (i : Int))).fmod (xs.length : Int)).toNat]'hlt, rfl, rfl, SqL.of hl4, at_of (j := ((z * 7 + (0 + (i : Int))).fmod (xs.length : Int)).toNat) (by omega) (List.getElem?_eq_getElem hlt), ?_⟩
      have hv : Kv (off (fo :: M) H4) (xs[((z * 7 + (0 + (i : Int))).fmod (xs.length : Int)).toNat]'hlt) := (hxs _ (List.getElem_mem hlt)).same A4.so
      generalize xs[((z * 7 + (0 + (i : Int))).fmod (xs.length : Int)).toNat]'hlt = v at hv ⊢
      clear hm hlt
      obtain ⟨d, d1, d2, d3⟩ := hv
      refine ⟨fun σ' H' => Acc [b] M H H' fo (LP i OkV) ∧ Box (fo :: M) H' b ∧ ∃ v', OkV (off (fo :: M) H') v' ∧ σ' = [some (.ref b), some (.ref l), some (.int 4), some (.ref fo), some (.int (0 + (i : Int))), some (.int kd), some v'], ?_, ?_⟩
      · refine ⟨_, rfl, rfl, _, rfl, ifS (fun _ => ?_) (fun _ => ⟨A4, bx4, v, ⟨d, d1.mono (by decide), gd_mono (by decide) _ d2, by omega⟩, rfl⟩)⟩
        refine ⟨_, rfl, _, rfl, b, fo :: M, v, d, rfl, bx4, d1, d2, by omega, fun v' H5 st5 bx5 hv' => ?_⟩
        exact ⟨A4.step (LP.mono okv_mono) st5, bx5, v', hv'.mono (Nat.le_refl _) (by omega) (Nat.le_refl _), rfl⟩
      rintro σ' H5 ⟨A5, bx5, v', hv', rfl⟩
      obtain ⟨ys, hy, hyl, hys⟩ := A5.lst
      refine ⟨_, rfl, .inl ⟨rfl, _, SqL.of hy⟩, _, rfl, fo, _, _, rfl, rfl, hy, line_lt (by omega), ?_⟩
      obtain ⟨h1, h2⟩ := fin A5 bx5 hy hv'
      exact ⟨h1, h2, _, _, _, rfl⟩
  · rintro σ H1 ⟨A1, bx1, x4, x5, x6, rfl⟩
    obtain ⟨ys, hy, hyl, hys⟩ := A1.lst
    exact ⟨_, rfl, q fo H1 ys A1.st (bx1.less bx0.mem) nfo hy hyl fun v hv => (hys v hv).same off_less⟩
end
end Ff
/-! What repr shows of a value. -/
namespace Ff
open PySem
section
variable {P : Program} {w : World} {g : Heap}
/-- u reads as p, and repr shows it -/
def Sh (P : Program) (w : World) (g : Heap) (u : Value) (p : PyData) : Prop := ∃ as bs, Reads g u p as ∧ ReadAtMost g p.depth bs ∧ ReprK P w bs g p.depth u p.shown
def ShL (P : Program) (w : World) (g : Heap) (us : List Value) (ps : List PyData) : Prop := ∃ as bs, ReadsAll g us ps as ∧ ReadAtMost g (PyData.depthAll ps) bs ∧ ReprAllK P w bs g (PyData.depthAll ps) us (PyData.shownAll ps)
theorem Sh.int {i : Int} {t : Tok} (h : i.natAbs.log2 < 1920) : Sh P w g (.int i t) (.int i) := ⟨[], [], .int i t, (fun _ z => nomatch z), by
  simp only [PyData.shown]
  exact .of_is (ReprIs.int t h) _ _ _⟩
theorem Sh.str {x : Str} {t : Tok} (h : (reprText x).length ≤ sizeLine) : Sh P w g (.str x t) (.str x) := ⟨[], [], .str x t, (fun _ z => nomatch z), by
  simp only [PyData.shown]
  exact .of_is (ReprIs.str x t h) _ _ _⟩
theorem ShL.nil : ShL P w g [] [] := ⟨[], [], .nil, (fun _ z => nomatch z), by simp only [PyData.shownAll]; exact .nil⟩
theorem ShL.cons {u : Value} {p : PyData} {us : List Value} {ps : List PyData} (h : Sh P w g u p) (t : ShL P w g us ps) : ShL P w g (u :: us) (p :: ps) := by
  obtain ⟨as, bs, r, m, k⟩ := h
  obtain ⟨as', bs', r', m', k'⟩ := t
  have l1 : p.depth ≤ PyData.depthAll (p :: ps) := by simp only [PyData.depthAll]; omega
  have l2 : PyData.depthAll ps ≤ PyData.depthAll (p :: ps) := by simp only [PyData.depthAll]; omega
  refine ⟨as ++ as', bs ++ bs', .cons r r', (m.mono l1).append (m'.mono l2), ?_⟩
  rw [show PyData.shownAll (p :: ps) = p.shown :: PyData.shownAll ps by simp only [PyData.shownAll]]
  exact .cons ((k.more fun b hb => List.mem_append_left bs' hb).level_le l1) (k'.more_le (fun b hb => List.mem_append_right bs hb) l2)
theorem Sh.list {a : Addr} {o : Obj} {us : List Value} {n : Nat} {ps : List PyData} (ho : g.get? a = some o) (hc : o.cls = .type "list") (hd : o.data = .seq us.toArray n) (h : ShL P w g us ps) : Sh P w g (.ref a) (.list ps) := by
  obtain ⟨as, bs, r, m, k⟩ := h
  have r2 : Reads g (.ref a) (.list ps) (a :: as) := .list ho hc hd (by simpa using r)
  have ed : (PyData.list ps).depth = PyData.depthAll ps + 1 := by simp only [PyData.depth]
  have hna : a ∉ bs := not_mem_of_deeper r2 (by omega) m
  refine ⟨_, a :: bs, r2, ReadAtMost.cons r2 (by omega) m, ?_⟩
  rw [ed, show (PyData.list ps).shown = listText (PyData.shownAll ps) by simp only [PyData.shown]]
  cases us with
  | cons u us => exact ReprK.list ho hc hd hna (by simpa using k.length_eq) fun i y e => k.item i y (by simpa using e)
  | nil =>
    cases r
    rw [show PyData.shownAll [] = [] by simp only [PyData.shownAll], listText_nil]
    exact ReprK.listEmpty ho hc hd
theorem Sh.tuple {a : Addr} {o : Obj} {us : Array Value} {n : Nat} {ps : List PyData} (ho : g.get? a = some o) (hc : o.cls = .type "tuple") (hd : o.data = .seq us n) (h : ShL P w g us.toList ps) : Sh P w g (.ref a) (.tuple ps) := by
  obtain ⟨as, bs, r, m, k⟩ := h
  have r2 : Reads g (.ref a) (.tuple ps) as := .tuple ho hc hd r
  have ed : (PyData.tuple ps).depth = PyData.depthAll ps + 1 := by simp only [PyData.depth]
  have hna : a ∉ bs := not_mem_of_deeper r2 (by omega) m
  refine ⟨_, a :: bs, r2, ReadAtMost.cons r2 (by omega) m, ?_⟩
  rw [ed, show (PyData.tuple ps).shown = tupleText (PyData.shownAll ps) by simp only [PyData.shown]]
  exact ReprK.tuple ho hc hd hna k
theorem Sh.dict {a : Addr} {o : Obj} {es : Array DictEntry} {n : Nat} {kvs : List (PyData × PyData)} (ho : g.get? a = some o) (hc : o.cls = .type "dict") (hd : o.data = .dict es n) (hs : (a == sysModules) = false)
    (h1 : ShL P w g (es.toList.map (·.key)) (kvs.map (·.1))) (h2 : ShL P w g (es.toList.map (·.val)) (kvs.map (·.2))) : Sh P w g (.ref a) (.dict kvs) := by
  obtain ⟨as, bs, r, m, k⟩ := h1
  obtain ⟨as', bs', r', m', k'⟩ := h2
  have r2 : Reads g (.ref a) (.dict kvs) (a :: as ++ as') := .dict ho hc hd r r'
  have ed : (PyData.dict kvs).depth = PyData.depthKv kvs + 1 := by simp only [PyData.depth]
  have l1 := PyData.depthAll_keys_le kvs
  have l2 := PyData.depthAll_vals_le kvs
  have m2 : ReadAtMost g (PyData.depthKv kvs) (bs ++ bs') := (m.mono l1).append (m'.mono l2)
  have hna : a ∉ bs ++ bs' := not_mem_of_deeper r2 (by omega) m2
  refine ⟨_, a :: (bs ++ bs'), r2, ReadAtMost.cons r2 (by omega) m2, ?_⟩
  rw [ed, show (PyData.dict kvs).shown = dictText (PyData.shownKv kvs) by simp only [PyData.shown], PyData.shownKv_eq]
  exact ReprK.dict ho hc hd hs hna (ReprEntriesK.of_two es.toList _ _ (k.more_le (fun b hb => List.mem_append_left bs' hb) l1) (k'.more_le (fun b hb => List.mem_append_right bs hb) l2))
/-- repr of a tuple -/
theorem repr_tup {a : Addr} {o : Obj} {us : Array Value} {n : Nat} {ps : List PyData} {A : Around} {E : Value → Shared → Prop} {s : Shared} {Q : Value → Shared → Prop} (ho : s.heap.get? a = some o) (hc : o.cls = .type "tuple") (hd : o.data = .seq us n) (h : ShL P w s.heap us.toList ps)
    (hg : A.guards = some []) (hu : A.units + ((PyData.tuple ps).depth + 1) < cLine) (hz : (PyData.tuple ps).shown.length ≤ sizeLine)
    (hQ : ∀ h' u tk, (∀ b o, s.heap.get? b = some o → h'.get? b = some o) → Q (.str (PyData.tuple ps).shown u) { s with heap := h', toks := tk }) : wpAny (model P w) A (call (.builtin "repr") [.ref a]) Q E s := by
  obtain ⟨as, bs, r, m, k⟩ := h
  have r2 : Reads s.heap (.ref a) (.tuple ps) as := .tuple ho hc hd r
  have ed : (PyData.tuple ps).depth = PyData.depthAll ps + 1 := by simp only [PyData.depth]
  have hna : a ∉ bs := not_mem_of_deeper r2 (by omega) m
  have es : (PyData.tuple ps).shown = tupleText (PyData.shownAll ps) := by simp only [PyData.shown]
  rw [es] at hz hQ
  refine call_repr_slot (by omega) ⟨o, ho, hc⟩ F.slot_tuple_repr (call_tuple_reprK ho hc hd hna k hg (fun b _ => Clear.nil b) ?_ (fun _ _ e => e) (fun h' u tk hk => ⟨_, _, rfl, hQ h' u tk hk⟩) hz)
  show A.units + 1 + (PyData.depthAll ps + 1) < cLine
  omega
end
/-! ### how long it is -/
theorem len_join (ts : List Str) : (Str.join ", " ts).length ≤ piled ts := by
  by_cases h : ts = []
  · subst h; exact Nat.zero_le _
  · have := join_length_add ts h
    omega
theorem len_listText (ts : List Str) : (listText ts).length ≤ piled ts + 2 := by
  rw [listText_eq_join, strLen_append, strLen_append]
  have := len_join ts
  have e1 : (("[" : Str)).length = 1 := rfl
  have e2 : (("]" : Str)).length = 1 := rfl
  omega
theorem len_dictText (ts : List Str) : (dictText ts).length ≤ piled ts + 2 := by
  unfold dictText
  rw [strLen_append, strLen_append]
  have := len_join ts
  have e1 : (("{" : Str)).length = 1 := rfl
  have e2 : (("}" : Str)).length = 1 := rfl
  omega
theorem len_tupleText (ts : List Str) : (tupleText ts).length ≤ piled ts + 3 := by
  unfold tupleText
  rw [strLen_append, strLen_append]
  have := len_join ts
  have e1 : (("(" : Str)).length = 1 := rfl
  have e2 : ((if ts.length == 1 then ",)" else ")" : String) : Str).length ≤ 2 := by split <;> decide
  omega
mutual
def pdD : D → PyData
  | .int i => .int i
  | .str s => .str s
  | .lst xs => .list (pdL xs)
  | .rcd fs => .dict (pdF fs)
  | .cho t x => .tuple [.str t, pdD x]
def pdL : List D → List PyData
  | [] => []
  | d :: r => pdD d :: pdL r
def pdF : List (Str × D) → List (PyData × PyData)
  | [] => []
  | (n, d) :: r => (.str n, pdD d) :: pdF r
end
theorem chk_big {x : Str} (h : chk x) : ∀ c ∈ x.cps.toList, c < 16 ^ 8 := fun c hc => Nat.lt_trans (h c hc) (by decide)
theorem len_str {x : Str} (h : chk x) : (reprText x).length ≤ 10 * x.length + 2 := StrLaws.reprText_len x (chk_big h)
theorem len_int {i : Int} (h : i.natAbs ≤ 999999) : (PyData.int i).shown.length ≤ 7 := by
  have := int_text_length_le10 (a := i) (k := 6) (by decide) (by omega)
  rw [show (PyData.int i).shown = (toString i : Str) by simp only [PyData.shown]]
  rw [show ((toString i : Str)).length = (toString i).length from ofString_length _]
  exact this
mutual
theorem len_pd {b : Nat} (hb : b ≤ 999999) : ∀ d : D, d.gd b → (pdD d).shown.length + 20 ≤ 40 * d.size
  | .int i, g => by
    simp only [D.gd] at g
    have := len_int (i := i) (by omega)
    simp only [pdD, D.size]
    omega
  | .str s, g => by
    simp only [D.gd] at g
    have := len_str g
    simp only [pdD, PyData.shown, D.size]
    omega
  | .lst xs, g => by
    simp only [D.gd] at g
    have := len_pdL hb xs g
    have h2 := len_listText (PyData.shownAll (pdL xs))
    simp only [pdD, PyData.shown, D.size]
    omega
  | .rcd fs, g => by
    simp only [D.gd] at g
    have := len_pdF hb fs g
    have h2 := len_dictText (PyData.shownKv (pdF fs))
    simp only [pdD, PyData.shown, D.size]
    omega
  | .cho t x, g => by
    simp only [D.gd] at g
    have h1 := len_pd hb x g.2
    have h2 := len_str g.1.2.1
    have h3 := g.1.1
    have h4 := len_tupleText [reprText t, (pdD x).shown]
    rw [piled_cons, piled_cons, piled_nil] at h4
    simp only [pdD, PyData.shown, PyData.shownAll, D.size]
    omega
theorem len_pdL {b : Nat} (hb : b ≤ 999999) : ∀ xs : List D, gdL b xs → piled (PyData.shownAll (pdL xs)) ≤ 40 * sizeL xs
  | [], _ => by simp [pdL, PyData.shownAll, piled_nil]
  | d :: r, g => by
    simp only [gdL] at g
    have h1 := len_pd hb d g.1
    have h2 := len_pdL hb r g.2
    simp only [pdL, PyData.shownAll, piled_cons, sizeL]
    omega
theorem len_pdF {b : Nat} (hb : b ≤ 999999) : ∀ fs : List (Str × D), gdF b fs → piled (PyData.shownKv (pdF fs)) ≤ 40 * sizeF fs
  | [], _ => by simp [pdF, PyData.shownKv, piled_nil]
  | (n, d) :: r, g => by
    simp only [gdF] at g
    have h1 := len_pd hb d g.2.1
    have h2 := len_pdF hb r g.2.2
    have h3 := len_str g.1.2.1
    have h4 := g.1.1
    simp only [pdF, PyData.shownKv, piled_cons, sizeF]
    rw [strLen_append, strLen_append]
    have e : ((": " : Str)).length = 2 := rfl
    simp only [PyData.shown]
    omega
end
end Ff
/-! The law, 19: what repr shows. -/
namespace Ff
open PySem L2 C8
theorem shl_of {P : Program} {w : World} {g : Heap} {R : V → D → Prop} : ∀ {vs : List V} {ds : List D} {us : List Value}, Paired R vs ds → Vals vs us → (∀ v d u, R v d → d ∈ ds → RelV v u → Sh P w g u (pdD d)) → ShL P w g us (pdL ds)
  | _, _, _, .nil, .nil, _ => by rw [pdL]; exact .nil
  | _, _, _, .cons r t, .cons r' t', f => by
    rw [pdL]
    exact .cons (f _ _ _ r List.mem_cons_self r') (shl_of t t' fun v d u a b c => f v d u a (List.mem_cons_of_mem _ b) c)
theorem shf_of {P : Program} {w : World} {g : Heap} {R : V → D → Prop} : ∀ {kvs : List (Key × V)} {fs : List (Str × D)} {vs : List (Key × Value)} {es : List DictEntry}, Paired (fun kv f => kv.1 = Sum.inr f.1 ∧ R kv.2 f.2) kvs fs → KV kvs vs → Pairs (mixKind P w) es vs →
    (∀ v d u, R v d → (∃ n, (n, d) ∈ fs) → RelV v u → Sh P w g u (pdD d)) → (∀ f ∈ fs, nm1 f.1) → ShL P w g (es.map (·.key)) ((pdF fs).map (·.1)) ∧ ShL P w g (es.map (·.val)) ((pdF fs).map (·.2))
  | _, _, _, _, .nil, .nil, .nil, _, _ => by rw [pdF]; exact ⟨.nil, .nil⟩
  | _, (n, d) :: fs, _, _, .cons r t, .cons r' t', .cons k e q, f, hn => by
    obtain ⟨h1, h2⟩ := shf_of t t' q (fun v d u a b c => f v d u a (b.elim fun n hn => ⟨n, List.mem_cons_of_mem _ hn⟩) c) fun x hx => hn x (List.mem_cons_of_mem _ hx)
    have hk : keyIs _ _ = true := k
    rw [← r'.1, r.1] at hk
    obtain ⟨i, t, e1, _⟩ | ⟨x, t, e1, e2⟩ := keyIs_shape hk
    · cases e1
    · obtain rfl := Sum.inr.inj e1
      have n1 := hn _ List.mem_cons_self
      rw [pdF]
      refine ⟨?_, ?_⟩
      · rw [List.map_cons, List.map_cons, e2]
        refine .cons (Sh.str ?_) h1
        have := len_str n1.2.1
        have := n1.1
        exact line_small (by omega)
      · rw [List.map_cons, List.map_cons, e]
        exact .cons (f _ _ _ r.2 ⟨_, List.mem_cons_self⟩ r'.2) h2
theorem log_small {i : Int} (h : i.natAbs ≤ 999999) : i.natAbs.log2 < 1920 := by
  have h2 : i.natAbs < 2 ^ 20 := Nat.lt_of_le_of_lt h (by decide)
  by_cases h0 : i.natAbs = 0
  · rw [h0]; decide
  · have := (Nat.log2_lt h0).mpr h2
    omega
/-- what is shown of a value -/
theorem sh_step {P : Program} {w : World} {H : Hp} {g : Heap} {b : Nat} (hb : b ≤ 999999) (ok : HOk P w H g) {R : V → D → Prop} (ih : ∀ v d u, R v d → d.gd b → d.size ≤ 100000 → RelV v u → Sh P w g u (pdD d)) {v : V} {d : D} {u : Value} (h : repStep H R v d) (hg : d.gd b) (hz : d.size ≤ 100000) (r : RelV v u) : Sh P w g u (pdD d) := by
  cases d with
  | int i =>
    obtain rfl : v = .int i := h
    obtain ⟨t, rfl⟩ := r
    simp only [D.gd] at hg
    rw [pdD]
    exact Sh.int (log_small (by omega))
  | str x =>
    obtain rfl : v = .str x := h
    obtain ⟨t, rfl⟩ := r
    simp only [D.gd, D.size] at hg hz
    rw [pdD]
    refine Sh.str ?_
    have := len_str hg
    exact line_big (by omega)
  | lst ds =>
    obtain ⟨a, vs, rfl, ha, hp⟩ := h
    obtain rfl : u = .ref a := r
    simp only [D.gd, D.size] at hg hz
    obtain ⟨_, its, n, rv, ho⟩ := ok a _ ha
    rw [pdD]
    refine Sh.list ho rfl rfl (shl_of hp rv fun v d u z hd ru => ih v d u z (gdL_iff.mp hg d hd) ?_ ru)
    have := sizeL_mem hd
    omega
  | rcd fs =>
    obtain ⟨a, kvs, rfl, ha, _, hp⟩ := h
    obtain rfl : u = .ref a := r
    simp only [D.gd, D.size] at hg hz
    obtain ⟨_, hs, vs, kv, o, es, ep, ho, ex, hd, _, hP, _⟩ := ok a _ ha
    rw [pdD]
    obtain ⟨h1, h2⟩ := shf_of hp kv hP (fun v d u z hd ru => ih v d u z (hd.elim fun n hn => (gdF_iff.mp hg _ hn).2) (by
      obtain ⟨n, hn⟩ := hd
      have : d.size ≤ sizeF fs := sizeF_mem hn
      omega) ru) fun f hf => (gdF_iff.mp hg f hf).1
    exact Sh.dict ho ex.1 hd hs h1 h2
  | cho t x =>
    obtain ⟨a, y, rfl, ha, hr⟩ := h
    obtain rfl : u = .ref a := r
    simp only [D.gd, D.size] at hg hz
    obtain ⟨_, its, rv, o, ho, hc, n, hd⟩ := ok a _ ha
    rw [pdD]
    refine Sh.tuple ho hc hd ?_
    have e : its.toArray.toList = its := by simp
    rw [e]
    cases rv with
    | cons r1 rv =>
      cases rv with
      | cons r2 rv =>
        cases rv
        obtain ⟨k, rfl⟩ := r1
        have h1 := len_str hg.1.2.1
        have h2 := hg.1.1
        exact .cons (Sh.str (line_small (by omega))) (.cons (ih y x _ hr hg.2 (by omega) r2) .nil)
theorem sh_rep {P : Program} {w : World} {H : Hp} {g : Heap} {b : Nat} (hb : b ≤ 999999) (ok : HOk P w H g) : ∀ (n : Nat) (v : V) (d : D) (u : Value), Rep n H v d → d.gd b → d.size ≤ 100000 → RelV v u → Sh P w g u (pdD d)
  | 0, _, _, _, h, hg, hz, r => sh_step hb ok (fun _ _ _ z => z.elim) h hg hz r
  | n + 1, _, _, _, h, hg, hz, r => sh_step hb ok (sh_rep hb ok n) h hg hz r
end Ff
/-! Defs that are called where no repr is under way. -/
namespace Ff
open PySem L2 C8
open PyProof.Rows (envOfC)
/-- what a def promises where the guards are empty -/
structure FnG (P : Program) (w : World) (K : PySem.W.Frag) (mg : Str → Option Value) (base : Heap) (k : Nat) (f : Addr) (fd : FuncData) (ps : List Str) (sp : Sp) : Prop where
  len : ∀ vs H Q E, sp vs H Q E → vs.length = ps.length
  go : ∀ (A : Around) (outer : List Env) (s : Shared) (H : Hp) (args : Args) (us : List Value) (vs : List V) (Q : VK) (E : XK), A.guards = some [] → Room k A → Env0 P w K mg base A outer s H → BindsTo s fd args (ps.zip us) → Vals vs us → sp vs H Q E →
    codeAny (model P w) A (.call (.ref f) args) (CR C8.CX0 outer P w H s Q E) s
theorem fnG_of {P : Program} {w : World} {K : PySem.W.Frag} {mg : Str → Option Value} {base : Heap} {x qual : Str} {st : Stmt} {f : Addr} {fd : FuncData} {N ps : List Str} {k : Nat} {sp : Sp} (F : C8.Fun K x qual st f fd) (S : FnScope N ps (fnScope st)) (len : ∀ vs H Q E, sp vs H Q E → vs.length = ps.length)
    (hb : ∀ (cdv : Value) (A : Around) (outer : List Env) (s : Shared) (H : Hp) (vs : List V) (Q : VK) (E : XK), (A.deeper (envOfC qual (fnScope st) s.heap.objs.size f cdv)).guards = some [] → Room k (A.deeper (envOfC qual (fnScope st) s.heap.objs.size f cdv)) → sp vs H Q E →
      ∃ t, PSs (cxOf C8.CX0 P w K mg base N qual (fnScope st) f cdv A outer s H E).nox (fnBody st) t ∧ t { nx := fun _ H' => Q .non H', rt := Q } (start N vs) H) : FnG P w K mg base (k + 1) f fd ps sp := by
  obtain ⟨oc, od, dV, kV, doc, pm, an, cdv, ct, osl, rfl, lk, hcd⟩ := F.ex
  refine ⟨len, ?_⟩
  intro A outer s H args us vs Q E hg hr z hbd rv hs
  have up : ∀ b o, base.get? b = some o → s.heap.get? b = some o := fun b o e => (z.bs b o e).1
  have kin : K.In s.heap := z.mod.kin.keeps up
  have kinds : ∀ y ∈ ps.zip us, (fnScope st).names.lookup y.1 = some .local ∨ ((fnScope st).names.lookup y.1 = some .cell ∧ ((cellsFrom (s.heap.objs.size + 1) (fnScope st).names []).lookup y.1).isSome = true) := by
    rintro ⟨n, v⟩ hy
    rcases S.par n (List.of_mem_zip hy).1 with q | q
    · exact .inl q
    · exact .inr ⟨q, PySem.W.cellsFrom_some _ _ _ (.inl q)⟩
  have nl : s.heap.NoLimit := z.mod.nolimit.keeps up
  have len1 := len _ _ _ _ hs
  refine codeAny_call_function hr.depth (kin _ _ lk) rfl S.co S.gen rfl (PySem.W.codeRec_of kin hcd) (hbd _ _ _ _ ?_)
  refine wpAny_newFunctionEnv_cells S.kind kinds fun env ee s2 ic => ?_
  subst ee
  refine ⟨nl.keeps ic.toInCall.keep, codeAny_func ?_⟩
  obtain ⟨t, pt, qt⟩ := hb cdv A outer s H vs Q E hg (hr.deeper _) hs
  have J : L2.Inv (cxOf C8.CX0 P w K mg base N qual (fnScope st) f cdv A outer s H E) [] (start N vs) H s2 := inv_start S hr.hd z len1 rv ic
  have done : ∀ {σ' : L2.St} {H' : Hp} {v : V} {u : Value} {s' : Shared}, L2.Inv (cxOf C8.CX0 P w K mg base N qual (fnScope st) f cdv A outer s H E) [] σ' H' s' → RelV v u → Q v H' → CE outer P w H s Q u s' := fun {σ' H' v u s'} I r q => ⟨v, H', I.os, I.bare, I.base, I.hok, r, q⟩
  refine wpAny_mono (pt.nox.run [] s2 (start N vs) H _ J qt) (fun fl s' e => ?_) fun _ _ e => e
  cases fl with
  | next => 
    obtain ⟨σ', H', I, q⟩ := e
    exact done (v := V.non) (u := Value.none) I rfl q
  | ret u =>
    obtain ⟨v, σ', H', I, r, q⟩ := e
    exact done I r q
  | brk => 
    obtain ⟨σ', H', I, q⟩ := e
    exact q.elim
  | cont => 
    obtain ⟨σ', H', I, q⟩ := e
    exact q.elim
/-- .. under its name -/
structure CalG (P : Program) (w : World) (K : PySem.W.Frag) (mg : Str → Option Value) (base : Heap) (k : Nat) (x : Str) (sp : Sp) : Prop where
  ex : ∃ (f : Addr) (fd : FuncData) (ps : List Str), FnG P w K mg base k f fd ps sp ∧ mg x = some (.ref f) ∧ PySem.W.keepIn K (.ref f) = true ∧ Binds K fd ps []
theorem Has.calG {P : Program} {w : World} {K : PySem.W.Frag} {mg : Str → Option Value} {base : Heap} {x : Str} {st : Stmt} {N ps : List Str} {k : Nat} {sp : Sp} (h : Has K mg x st ps) (S : FnScope N ps (fnScope st)) (len : ∀ vs H Q E, sp vs H Q E → vs.length = ps.length)
    (hb : ∀ (f : Addr) (cdv : Value) (A : Around) (outer : List Env) (s : Shared) (H : Hp) (vs : List V) (Q : VK) (E : XK), (A.deeper (envOfC x (fnScope st) s.heap.objs.size f cdv)).guards = some [] → Room k (A.deeper (envOfC x (fnScope st) s.heap.objs.size f cdv)) → sp vs H Q E →
      ∃ t, PSs (cxOf C8.CX0 P w K mg base N x (fnScope st) f cdv A outer s H E).nox (fnBody st) t ∧ t { nx := fun _ H' => Q .non H', rt := Q } (start N vs) H) : CalG P w K mg base (k + 1) x sp := by
  obtain ⟨f, fd, d, b⟩ := h.ex
  exact ⟨f, fd, ps, fnG_of d.fn S len (hb f), d.mgf, d.kp, b⟩
theorem pe_callG {X : Cx} {k j : Nat} {x : Str} {sp : Sp} {e : Expr} {es : List Expr} {t : TA} {p pos : Pos} (c : CalG X.prog X.w X.K X.mg X.base k x sp) (gd : X.A.guards = some []) (hr : Room j X.A) (hk : k ≤ j) (hg : Gl X x) (ha : PA X (e :: es) t)
    (hdb : (x == ("__debug__" : Str)) = false := by decide) (he : starEach (e :: es) X.env = (false, eval e X.env) :: starEach es X.env := by rfl) (hpl : (backTo pos (starEach es X.env)).any (·.1) = false := by rfl) :
    PE X (.Call (.Name x p) (e :: es) [] pos) (tCall sp [] C8.E0 t) := by
  obtain ⟨f, fd, ps, G, hm, kp, b⟩ := c.ex
  refine ⟨fun pins s σ H Q I h => ?_⟩
  refine wpAny_Call_Name_kw (ld_glob I hg hm ?_ hdb)
  refine PySem.W.callWith_K (h₀ := X.base) I.ok.mod.kin kp (thn (ha.run pos pins s σ H _ I h) fun us s1 ⟨vs, H1, I1, r, q⟩ => ⟨I1.kIn, ?_⟩) he hpl
  have q : sp (vs ++ []) H1 Q C8.E0 := q
  rw [List.append_nil] at q
  show wpAny (model X.prog X.w) X.A (call (.ref f) us) (EP X pins σ Q) X.xe s1
  have len1 : us.length = ps.length := by rw [← r.length]; exact G.len _ _ _ _ q
  refine wpAny_call (codeAny_mono (G.go X.A X.stack s1 H1 ⟨us, []⟩ us vs Q C8.E0 gd (hr.mono hk) I1.env0 ?_ r q) fun r s' hq => ?_)
  · have := b s1 us I1.kIn (by rw [List.append_nil]; exact len1)
    rw [List.append_nil] at this
    exact this
  · cases r with
    | error e => exact hq.elim
    | ok fl =>
      cases fl with
      | ret u => exact I1.after hq
      | _ => exact hq.elim
end Ff
/-! The law, 20: the same. -/
namespace Ff
open PySem L2 C8
/-! ### how deep it is -/
theorem depth_pdL {R : V → D → Prop} {k : Nat} : ∀ {vs : List V} {ds : List D}, Paired R vs ds → (∀ v d, R v d → (pdD d).depth ≤ k) → PyData.depthAll (pdL ds) ≤ k
  | _, _, .nil, _ => by simp [pdL, PyData.depthAll]
  | _, _, .cons r t, f => by
    have h1 := f _ _ r
    have h2 := depth_pdL t f
    simp only [pdL, PyData.depthAll]
    omega
theorem depth_pdF {R : V → D → Prop} {k : Nat} : ∀ {vs : List (Key × V)} {fs : List (Str × D)}, Paired (fun kv f => kv.1 = Sum.inr f.1 ∧ R kv.2 f.2) vs fs → (∀ v d, R v d → (pdD d).depth ≤ k) → PyData.depthKv (pdF fs) ≤ k
  | _, _, .nil, _ => by simp [pdF, PyData.depthKv]
  | _, (n, d) :: fs, .cons r t, f => by
    have h1 : (pdD d).depth ≤ k := f _ _ r.2
    have h2 := depth_pdF t f
    simp only [pdF, PyData.depthKv, PyData.depth]
    omega
theorem depth_step {H : Hp} {R : V → D → Prop} {k : Nat} (f : ∀ v d, R v d → (pdD d).depth ≤ k) {v : V} {d : D} (h : repStep H R v d) : (pdD d).depth ≤ k + 1 := by
  cases d with
  | int i => simp [pdD, PyData.depth]
  | str i => simp [pdD, PyData.depth]
  | lst ds =>
    obtain ⟨a, vs, _, _, hp⟩ := h
    have := depth_pdL hp f
    simp only [pdD, PyData.depth]
    omega
  | rcd fs =>
    obtain ⟨a, vs, _, _, _, hp⟩ := h
    have := depth_pdF hp f
    simp only [pdD, PyData.depth]
    omega
  | cho t x =>
    obtain ⟨a, y, _, _, hr⟩ := h
    have := f _ _ hr
    simp only [pdD, PyData.depth, PyData.depthAll]
    omega
theorem depth_rep {H : Hp} : ∀ {n : Nat} {v : V} {d : D}, Rep n H v d → (pdD d).depth ≤ n + 1
  | 0, _, _, h => depth_step (fun _ _ z => z.elim) h
  | n + 1, _, _, h => depth_step (fun _ _ z => depth_rep z) h
/-! ### answers -/
def pdV : V → PyData
  | .int i => .int i
  | .str s => .str s
  | _ => .none
def pdR : Res D → List PyData
  | .ok d => [.str "value", pdD d]
  | .bad r p => [.str "failure", .str r, .list (p.map pdV)]
def ResOk : Res D → Prop
  | .ok d => d.gd 2000 ∧ d.size ≤ 100000
  | .bad r p => chk r ∧ r.length ≤ 20 ∧ p.length ≤ 1000 ∧ ∀ e ∈ p, stp 100001 e
theorem word_chk : ∀ x ∈ (["value", "failure", "wrong kind", "out of range", "too long", "wrong length", "missing field", "unknown tag"] : List Str), (∀ c ∈ x.cps.toList, c < 128) ∧ x.length ≤ 20 := by decide +kernel
theorem rsn_chk {r : Str} (h : rsn r) : chk r ∧ r.length ≤ 20 := word_chk r (by
  rcases h with rfl | rfl | rfl | rfl | rfl | rfl <;> simp)
theorem bad_ok {n m : Nat} {r : Str} {p : List V} (h : BadOk n m r p) (hn : n ≤ 900) (hm : m ≤ 100001) : ResOk (.bad r p) :=
  ⟨(rsn_chk h.rs).1, (rsn_chk h.rs).2, by have := h.ln; omega, (h.wider hm).st⟩
theorem sh_path {P : Program} {w : World} {g : Heap} : ∀ {p : List V} {us : List Value}, Vals p us → (∀ e ∈ p, stp 100001 e) → ShL P w g us (p.map pdV)
  | _, _, .nil, _ => .nil
  | v :: p, _, .cons r t, h => by
    refine .cons ?_ (sh_path t fun e he => h e (List.mem_cons_of_mem _ he))
    have hv := h v List.mem_cons_self
    cases v <;> simp only [stp] at hv
    · obtain ⟨t, rfl⟩ := r
      exact Sh.int (log_small (by omega))
    · obtain ⟨t, rfl⟩ := r
      refine Sh.str ?_
      have := len_str hv.2
      exact line_small (by omega)
theorem len_path : ∀ {p : List V}, (∀ e ∈ p, stp 100001 e) → piled (PyData.shownAll (p.map pdV)) ≤ 24 * p.length
  | [], _ => by simp [PyData.shownAll, piled_nil]
  | v :: p, h => by
    have ih := len_path fun e he => h e (List.mem_cons_of_mem _ he)
    have hv := h v List.mem_cons_self
    have hl : (pdV v).shown.length ≤ 22 := by
      cases v <;> simp only [stp] at hv
      · rename_i i
        have h7 := len_int (i := i) (by omega)
        simp only [pdV]
        omega
      · have := len_str hv.2
        simp only [pdV, PyData.shown]
        omega
    simp only [List.map_cons, PyData.shownAll, piled_cons, List.length_cons]
    omega
theorem depth_path : ∀ {p : List V}, (∀ e ∈ p, stp 100001 e) → PyData.depthAll (p.map pdV) = 0
  | [], _ => by simp [PyData.depthAll]
  | v :: p, h => by
    have ih := depth_path fun e he => h e (List.mem_cons_of_mem _ he)
    have hv := h v List.mem_cons_self
    cases v <;> simp only [stp] at hv <;> simp [pdV, PyData.depthAll, PyData.depth, ih]
theorem len_res {res : Res D} (h : ResOk res) : (PyData.tuple (pdR res)).shown.length ≤ sizeLine := by
  have h0 := len_tupleText (PyData.shownAll (pdR res))
  simp only [PyData.shown]
  cases res with
  | ok d =>
    have h1 := len_pd (by decide) d h.1
    have h2 := h.2
    have h3 := len_str (word_chk "value" (by simp)).1
    have h4 := (word_chk "value" (by simp)).2
    simp only [pdR, PyData.shownAll, piled_cons, piled_nil, PyData.shown] at h0
    exact line_big (by simp only [pdR, PyData.shownAll, PyData.shown]; omega)
  | bad r p =>
    obtain ⟨h1, h2, h3, h4⟩ := h
    have g1 := len_str (word_chk "failure" (by simp)).1
    have g2 := (word_chk "failure" (by simp)).2
    have g3 := len_str h1
    have g4 := len_path h4
    have g5 := len_listText (PyData.shownAll (p.map pdV))
    simp only [pdR, PyData.shownAll, piled_cons, piled_nil, PyData.shown] at h0
    exact line_big (by simp only [pdR, PyData.shownAll, PyData.shown]; omega)
/-! ### repr -/
def rRepr : List V → Hp → VK → Prop := fun xs H Q => ∃ (n : Nat) (v : V) (res : Res D), xs = [v] ∧ n ≤ 60 ∧ RepRes n H v res ∧ ResOk res ∧ Q (.str (PyData.tuple (pdR res)).shown) H
theorem call_reprR {X : Cx} {k : Nat} (hg : X.A.guards = some []) (hr : Room k X.A) : CallR X (.builtin "repr") rRepr := by
  intro pins s σ H xs us Q I r h
  obtain ⟨n, v, res, rfl, hn, hv, hok, q⟩ := h
  obtain ⟨u, rfl, ru⟩ := vals1 r
  have un := hr.un
  have hl := len_res hok
  cases res with
  | ok d =>
    obtain ⟨a, y, rfl, ha, hy⟩ := hv
    obtain rfl : u = .ref a := ru
    obtain ⟨_, its, rv, o, ho, hc, m, hd⟩ := I.hok a _ ha
    have hdep := depth_rep hy
    refine repr_tup (n := m) ho hc hd (ps := pdR (.ok d)) ?_ hg (by simp only [pdR, PyData.depth, PyData.depthAll]; omega) hl fun h' u tk hk => ⟨.str (PyData.tuple (pdR (.ok d))).shown, H, I.kept hk, ⟨u, rfl⟩, q⟩
    have e : its.toArray.toList = its := by simp
    rw [e]
    cases rv with
    | cons r1 rv =>
      cases rv with
      | cons r2 rv =>
        cases rv
        obtain ⟨k, rfl⟩ := r1
        have h1 := len_str (word_chk "value" (by simp)).1
        have h2 := (word_chk "value" (by simp)).2
        exact .cons (Sh.str (line_small (by omega))) (.cons (sh_rep (by decide) I.hok n y d _ hy hok.1 hok.2 r2) .nil)
  | bad rr p =>
    obtain ⟨a, l, rfl, ha, hp⟩ := hv
    obtain rfl : u = .ref a := ru
    obtain ⟨_, its, rv, o, ho, hc, m, hd⟩ := I.hok a _ ha
    obtain ⟨_, pits, m2, prv, hpo⟩ := I.hok l _ hp
    obtain ⟨h1, h2, h3, h4⟩ := hok
    have hdep := depth_path h4
    refine repr_tup (n := m) ho hc hd (ps := pdR (.bad rr p)) ?_ hg (by simp only [pdR, PyData.depth, PyData.depthAll, hdep]; omega) hl fun h' u tk hk => ⟨.str (PyData.tuple (pdR (.bad rr p))).shown, H, I.kept hk, ⟨u, rfl⟩, q⟩
    have e : its.toArray.toList = its := by simp
    rw [e]
    cases rv with
    | cons r1 rv =>
      cases rv with
      | cons r2 rv =>
        cases rv with
        | cons r3 rv =>
          cases rv
          obtain ⟨k, rfl⟩ := r1
          obtain ⟨k2, rfl⟩ := r2
          cases r3
          have g1 := len_str (word_chk "failure" (by simp)).1
          have g2 := (word_chk "failure" (by simp)).2
          have g3 := len_str h1
          exact .cons (Sh.str (line_small (by omega))) (.cons (Sh.str (line_small (by omega))) (.cons (Sh.list hpo rfl rfl (sh_path prv h4)) .nil))
section
variable {P : Program} {w : World} {K : PySem.W.Frag} {mg : Str → Option Value} {base : Heap} {C kA : Addr}
def spSame : Sp := fun vs H Q _ => ∃ (v v' : V) (n n' : Nat) (res : Res D), vs = [v, v'] ∧ n ≤ 60 ∧ n' ≤ 60 ∧ RepRes n H v res ∧ RepRes n' H v' res ∧ ResOk res ∧ Q (.bl true) H
theorem ok_same (h : Has K mg "_law_same" s_l_same p_l_same) (T : Txt K mg C kA) : CalG P w K mg base 1 "_law_same" spSame := by
  refine h.calG sc_l_same (fun vs H Q E h => ?_) (fun f cdv A outer s H vs Q E hg hr h => ?_)
  · obtain ⟨v, v', n, n', res, rfl, _⟩ := h
    rfl
  obtain ⟨v, v', n, n', res, rfl, hn, hn', h1, h2, hok, q⟩ := h
  refine ⟨_, (pss_one (ps_ret (pe_cmpR op_eq (pe_callB (call_reprR hg hr) rfl T.z_repr (by decide +kernel) (pa_cons (pv 0) pa_nil)) (pe_callB (call_reprR hg hr) rfl T.z_repr (by decide +kernel) (pa_cons (pv 1) pa_nil)) (nomark _)))), ?_⟩
  refine ⟨_, rfl, n, v, res, rfl, hn, h1, hok, _, rfl, n', v', res, rfl, hn', h2, hok, rfl, ?_⟩
  rw [decide_eq_true rfl]
  exact q
end
end Ff
/-! The law. -/
namespace Ff
open PySem L2 C8
theorem rdAt {C : Addr} {M : List Addr} {H : Hp} {o : Addr} {root : Str} {F : Dfs} {b n : Nat} (al : Al M H) (fm : FormAt C (off M H) o root F) (g : GdF F b) (hn : n ≤ 90) : RdAt C M H o root F n := ⟨al, fm, g.wf, hn⟩
theorem same_off {M : List Addr} {H H' : Hp} (s : Same H H') : Same (off M H) (off M H') := offs_same s
section
variable {P : Program} {w : World} {K : PySem.W.Frag} {mg : Str → Option Value} {base : Heap} {C kA : Addr}
def spLaw (K : PySem.W.Frag) : Sp := fun vs H Q _ => ∃ (a : Addr) (ns : List Int), vs = [.ref a] ∧ SqL K H a (ns.map V.int) ∧ ∀ H', Q (.bl true) H'
theorem ok_law (h : Has K mg "law" s_law p_law) (T : Txt K mg C kA) (c_l_box : Cal P w K mg base 2 "_law_box" (spBox K) []) (c_l_format : Cal P w K mg base 6 "_law_format" (spFormat C) []) (c_l_changed : Cal P w K mg base 6 "_law_changed" (spChanged C) []) (c_l_listed : Cal P w K mg base 8 "_law_listed" (spListed C) [])
    (c_l_some_values : Cal P w K mg base 11 "_law_some_values" spSome []) (c_read_by : Cal P w K mg base 15 "read_by" (spRB C 6) []) (c_read_by2 : Cal P w K mg base 23 "read_by" (spRB C 10) []) (c_read : Cal P w K mg base 27 "read" (spRd C 10) []) (c_l_size : Cal P w K mg base 11 "_law_size" (spSize 10) []) (c_l_same : CalG P w K mg base 1 "_law_same" spSame) : CalG P w K mg base 28 "law" (spLaw K) := by
  refine h.calG sc_law (fun vs H Q E h => ?_) (fun f cdv A outer s H vs Q E hg hr h => ?_)
  · obtain ⟨a, ns, rfl, _⟩ := h
    rfl
  obtain ⟨a, ns, rfl, hS, q⟩ := h
  refine ⟨_, (pss_cons (ps_set (i := 1) sc_law.nd rfl (Or.inl rfl) (pe_c c_l_box hr (by omega) rfl (pa_cons (pv 0) (pa_cons pe_int (pa_cons pe_int pa_nil)))))
      (pss_cons (ps_set (i := 2) sc_law.nd rfl (Or.inl rfl) (pe_c c_l_format hr (by omega) rfl (pa_cons (pv 1) pa_nil)))
      (pss_cons (ps_set (i := 3) sc_law.nd rfl (Or.inl rfl) (pe_c c_l_changed hr (by omega) rfl (pa_cons (pv 1) (pa_cons (pv 2) pa_nil))))
      (pss_cons (ps_set (i := 4) sc_law.nd rfl (Or.inl rfl) (pe_ix ix_list (pe_c c_l_listed hr (by omega) rfl (pa_cons (pv 2) (pa_cons pe_int pa_nil))) pe_int (fun _ _ => rfl)))
      (pss_cons (ps_set (i := 5) sc_law.nd rfl (Or.inl rfl) (pe_ix ix_list (pe_c c_l_listed hr (by omega) rfl (pa_cons (pv 3) (pa_cons pe_int pa_nil))) pe_int (fun _ _ => rfl)))
      (pss_cons (ps_for PassesOwn.never rfl (pi_list (pe_callB (call_sD rfl) rfl T.z_sorted (by decide +kernel) (pa_cons (pe_fld (pv 2) rfl) pa_nil))) (pg_name (i := 6) sc_law.nd rfl (Or.inl rfl))
        (pss_cons (ps_set (i := 7) sc_law.nd rfl (Or.inl rfl) (pe_c c_l_some_values hr (by omega) rfl (pa_cons (pv 1) (pa_cons (pe_dget (hu_of hr) (pv 4) (pv 6) (fun _ _ => rfl)) (pa_cons pe_int pa_nil)))))
        (C8.pss_cut (ps_if (pt_cmp (pc_din (hu_of hr) (pv 6) (pv 5))) (pss_one (ps_set (i := 7) sc_law.nd rfl (Or.inl rfl) (pe_op op_cat (pv 7) (pe_c c_l_some_values hr (by omega) rfl (pa_cons (pv 1) (pa_cons (pe_dget (hu_of hr) (pv 5) (pv 6) (fun _ _ => rfl)) (pa_cons pe_int pa_nil))))))) pss_nil)
        (pss_one (ps_for PassesOwn.never rfl (pi_list (pv 7)) (pg_name (i := 8) sc_law.nd rfl (Or.inl rfl))
          (pss_cons (ps_set (i := 9) sc_law.nd rfl (Or.inl rfl) (pe_c c_read_by hr (by omega) rfl (pa_cons (pv 2) (pa_cons (pv 6) (pa_cons (pv 8) pa_nil)))))
          (pss_cons (ps_if (pt_not (pt_val (pe_callG c_l_same hg hr (by omega) rfl (pa_cons (pe_c c_read_by hr (by omega) rfl (pa_cons (pv 2) (pa_cons (pv 6) (pa_cons (pv 8) pa_nil)))) (pa_cons (pv 9) pa_nil))))) (pss_one (ps_ret pe_bl)) pss_nil)
          (pss_one (ps_if (pt_cmpR op_eq (pe_ix ix_tup (pv 9) pe_int (fun _ _ => rfl)) pe_str (nomark _)) (pss_cons (ps_if (pt_not (pt_val (pe_callG c_l_same hg hr (by omega) rfl (pa_cons (pe_c c_read_by2 hr (by omega) rfl (pa_cons (pv 2) (pa_cons (pv 6) (pa_cons (pe_ix ix_tup (pv 9) pe_int (fun _ _ => rfl)) pa_nil)))) (pa_cons (pv 9) pa_nil))))) (pss_one (ps_ret pe_bl)) pss_nil)
            (pss_one (ps_if (PW.pt (pw_and (pt_cmpR op_eq (pv 6) (pe_fld (pv 2) rfl) (nomark _)) (pw_and (pt_cmpR op_le (pe_c c_l_size hr (by omega) rfl (pa_cons (pe_ix ix_tup (pv 9) pe_int (fun _ _ => rfl)) pa_nil)) pe_int (nomark _)) (pw_and1 (pt_not (pt_val (pe_callG c_l_same hg hr (by omega) rfl (pa_cons (pe_c c_read hr (by omega) rfl (pa_cons (pv 2) (pa_cons (pe_ix ix_tup (pv 9) pe_int (fun _ _ => rfl)) pa_nil))) (pa_cons (pv 9) pa_nil))))))))) (pss_one (ps_ret pe_bl)) pss_nil))) (pss_one (ps_if (PW.pt (pw_or (pt_cmpR op_ne (pe_ix ix_tup (pv 9) pe_int (fun _ _ => rfl)) pe_str (nomark _)) (pw_or1 (PW.pt (pw_and (pt_cmpR (op_eqE (un_of hr)) (pe_ix ix_tup (pv 9) pe_int (fun _ _ => rfl)) (pe_lst pa_nil) (nomark _)) (pw_and1 (pt_cmpR op_eq (pe_ix ix_tup (pv 9) pe_int (fun _ _ => rfl)) pe_str (nomark _)))))))) (pss_one (ps_ret pe_bl)) pss_nil)))))))))))
      (pss_one (ps_ret pe_bl)))))))), ?_⟩
  refine ⟨_, rfl, a, ns, rfl, hS, fun b r H1 row s1 nb hb hbr hr1 => ?_⟩
  have bx1 : Box [b] H1 b := ⟨by simp, fun a ha => by rw [List.mem_singleton.mp ha, hb]; simp, r, row, 0, hb, Int.le_refl _, off_some.mpr ⟨by simpa using hbr.symm, hr1⟩⟩
  have hbm : b ∈ [b] := by simp
  refine ⟨_, rfl, b, [b], rfl, bx1, fun o H2 root F st2 bx2 fm2 hroot g => ?_⟩
  refine ⟨_, rfl, _, rfl, b, o, [b], root, F, rfl, bx2, fm2, hroot, g, fun o2 H3 root2 F2 st3 bx3 gm3 _ g2 => ?_⟩
  have fm3 := fm2.same (st3.offb hbm)
  refine ⟨_, rfl, o, [b], root, F, rfl, bx3.al, fm3, g.sh.mono (by decide), fun l p H4 ns1 last kn s4 hp4 hl hkp hK => ?_⟩
  refine ⟨l, _, _, .ref p, rfl, rfl, SqL.of hl, at_of (j := 0) rfl rfl, ?_⟩
  have bx4 := bx3.same s4
  have gm4 := gm3.same (same_off (M := [b]) s4)
  refine ⟨_, rfl, o2, [b], root2, F2, rfl, bx4.al, gm4, g2.sh.mono (by decide), fun l2 p2 H5 ns2 last2 kn2 s5 hp5 hl2 hkp2 hK2 => ?_⟩
  refine ⟨l2, _, _, .ref p2, rfl, rfl, SqL.of hl2, at_of (j := 0) rfl rfl, ?_⟩
  have bx5 := bx4.same s5
  have fm5 := (fm3.same (same_off (M := [b]) s4)).same (same_off s5)
  have hkp5 := (same_off (M := [b]) s5) _ _ hkp
  have hK5 := PKn.mono _ _ _ hK (same_off (M := [b]) s5)
  obtain ⟨kvs, rfl, _, k2, k3⟩ := hK5
  obtain ⟨kvs2, rfl, _, j2, j3⟩ := hK2
  obtain ⟨dx, dd, ho, kd, hkd, hpd⟩ := id fm5
  refine ⟨_, rfl, o, C, dx, _, _, rfl, off_at ho, T.cl, T.nDefs, flF_defs _ _, dd, kd, F.map (·.1), rfl, .inl (off_at hkd), keys_ofE hpd, by rw [List.length_map]; have := g.sh.len; omega, fun ys lp hperm _ nlp => ?_⟩
  have e6 := same_new nlp (.lst (ys.map V.str))
  have hlp6 : off [b] (upd H5 lp (.lst (ys.map V.str))) lp = some (.lst (ys.map V.str)) := off_in bx5.al nlp upd_same
  have so6 := same_off (M := [b]) e6
  have bx6 := bx5.same e6
  refine ⟨lp, rfl, ⟨_, SqL.of upd_same⟩, ?_⟩
  generalize upd H5 lp (.lst (ys.map V.str)) = H6 at *
  refine for_list (K := K) (xs := ys.map V.str) (fun i σ H' => Stp [b] H6 H' ∧ Box [b] H' b ∧ ∃ (x6 x7 x8 x9 : Option V), σ = [some (.ref a), some (.ref b), some (.ref o), some (.ref o2), some (.ref p), some (.ref p2), x6, x7, x8, x9])
    ⟨Stp.refl, bx6, _, _, _, _, rfl⟩ (fun i σ H' _ h => SqL.of (off_at ((h.1.offb hbm) _ _ hlp6))) ?_ ?_
  · rintro i x σ H7 hx ⟨st7, bx7, x6, x7, x8, x9, rfl⟩
    obtain ⟨nm, rfl, hnm⟩ := strs_get hx
    have hmem : nm ∈ F.map (·.1) := hperm.mem_iff.mp (List.mem_of_getElem? hnm)
    have hlook : (look F nm).isSome = true := by
      obtain ⟨df, hdf⟩ := look_some.mpr hmem
      rw [hdf]; rfl
    have so7 : Same (off [b] H5) (off [b] H7) := so6.trans (st7.offb hbm)
    obtain ⟨x, hxv⟩ := k3 nm (hp4.mem_iff.mpr hmem)
    obtain ⟨l1, xs, rfl, hl1, hxs⟩ := (k2 nm x hxv).same so7
    have hp7 := so7 _ _ hkp5
    refine ⟨_, rfl, _, rfl, _, rfl, p, .ref l1, rfl, hxv ▸ DGet.k (k := Sum.inr nm) (off_at hp7), b, l1, [b], xs, rfl, bx7, hl1, hxs, fun pv H8 ws st8 bx8 npv hpv hwl hws => ?_⟩
    -- the values
    refine ⟨fun σ' H' => Stp [b] H6 H' ∧ Box [b] H' b ∧ ∃ (pv : Addr) (ws : List V) (x8 x9 : Option V), off [b] H' pv = some (.lst ws) ∧ ws.length ≤ 8 ∧ (∀ v ∈ ws, OkV (off [b] H') v) ∧ σ' = [some (.ref a), some (.ref b), some (.ref o), some (.ref o2), some (.ref p), some (.ref p2), some (.str nm), some (.ref pv), x8, x9], ?_, ?_⟩
    · have so8 := so7.trans (st8.offb hbm)
      have hp28 := so8 _ _ hkp2
      have hpv8 := off_in bx7.al npv hpv
      refine ⟨_, rfl, _, rfl, p2, _, rfl, DGet.k (k := Sum.inr nm) (off_at hp28), _, rfl, ?_⟩
      cases hv2 : valV kvs2 (Sum.inr nm) with
      | none => exact iteF ⟨st7.trans st8, bx8, pv, ws, _, _, hpv8, by omega, hws, rfl⟩
      | some x2 =>
        obtain ⟨l3, xs3, rfl, hl3, hxs3⟩ := (j2 nm x2 hv2).same so8
        refine iteT ⟨_, rfl, _, rfl, _, rfl, _, rfl, p2, .ref l3, rfl, hv2 ▸ DGet.k (k := Sum.inr nm) (off_at hp28), b, l3, [b], xs3, rfl, bx8, hl3, hxs3, fun pw H9 vs2 st9 bx9 npw hpw hvl hvs => ?_⟩
        have hpv9 := (st9.offb hbm) _ _ hpv8
        refine ⟨pv, pw, _, _, rfl, rfl, off_at hpv9, hpw, line_small (by omega), fun p10 n10 => ?_⟩
        have e10 := same_new n10 (.lst (ws ++ vs2))
        refine ⟨(st7.trans (st8.trans st9)).trans (Stp.of_same e10), bx9.same e10, p10, ws ++ vs2, _, _, off_in bx9.al n10 upd_same, by rw [List.length_append]; omega, fun v hv => ?_, rfl⟩
        rcases List.mem_append.mp hv with hv | hv
        · exact ((hws v hv).same (st9.offb hbm)).same (same_off e10)
        · exact (hvs v hv).same (same_off e10)
    rintro σ' H9 ⟨st9, bx9, pv, ws, x8, x9, hpv, hwl, hws, rfl⟩
    have so9 : Same (off [b] H5) (off [b] H9) := so6.trans (st9.offb hbm)
    have fm9 := fm5.same so9
    refine ⟨_, rfl, pv, rfl, ⟨_, SqL.of (off_at hpv)⟩, ?_⟩
    refine for_list (K := K) (xs := ws) (fun j σ H' => Same H9 H' ∧ ∃ (x8 x9 : Option V), σ = [some (.ref a), some (.ref b), some (.ref o), some (.ref o2), some (.ref p), some (.ref p2), some (.str nm), some (.ref pv), x8, x9])
      ⟨Same.refl _, _, _, rfl⟩ (fun j σ H' _ h => SqL.of (h.1 _ _ (off_at hpv))) ?_ ?_
    · rintro j v σ H10 hv10 ⟨sm10, x8, x9, rfl⟩
      obtain ⟨d, d1, d2, d3⟩ := (hws v (List.mem_of_getElem? hv10)).same (same_off (M := [b]) sm10)
      have dg : d.gd 2000 := gd_mono (by decide) d d2
      have al : ∀ {H' : Hp}, Same H9 H' → Al [b] H' := fun s => bx9.al.same s
      have rA : ∀ {H' : Hp} {n : Nat}, n ≤ 90 → Same H9 H' → RdAt C [b] H' o root F n := fun {H' n} hn s => rdAt (al s) (fm9.same (same_off s)) g hn
      have hoF : ∀ {H' : Hp}, Same H9 H' → H' o = some (.ins C dx (flF root dd)) := fun s => s _ _ (off_at (so9 _ _ ho))
      have vl6 : ∀ {H' : Hp}, Same H10 H' → Vl 6 (off [b] H') v d := fun s => ⟨d1.same (same_off s), dg, by omega⟩
      refine ⟨_, rfl, _, rfl, _, rfl, o, root, nm, F, [b], v, d, rfl, rA (by decide) sm10, hlook, vl6 (Same.refl _), fun v1 H11 s11 hv1 => ?_⟩
      have sm11 := sm10.trans s11
      refine ⟨_, rfl, _, rfl, _, rfl, o, root, nm, F, [b], v, d, rfl, rA (by decide) sm11, hlook, vl6 s11, fun v2 H12 s12 hv2 => ?_⟩
      have sm12 := sm11.trans s12
      have e6 : rdSub F 6 nm d = rd F 5 nm d := rfl
      rw [e6] at hv1 hv2
      have hv12 := hv1.same (same_off (M := [b]) s12)
      cases hres : rd F 5 nm d with
      | ok d' =>
        rw [hres] at hv1 hv2 hv12
        obtain ⟨dg', dz'⟩ := rd_sz g.wf.nd g.wf.sz (b := 2000) (by decide) dg hres
        have rok : ResOk (.ok d') := ⟨dg', by omega⟩
        refine ⟨_, rfl, v2, v1, 9, 9, .ok d', rfl, by decide, by decide, hv2.same off_full, hv12.same off_full, rok, _, rfl, ?_⟩
        refine iteF ?_
        obtain ⟨ta, y, rfl, hta, hy⟩ := id hv12
        refine ⟨_, rfl, ta, _, _, .str "value", rfl, rfl, SqT.of (off_at hta), at_of (j := 0) rfl rfl, rfl, _, rfl, ifT rfl ?_⟩
        have hag := rd_again g.wf.nd g.fil hres
        have vl10 : ∀ {H' : Hp}, Same H12 H' → Vl 10 (off [b] H') y d' := fun s => ⟨hy.same (same_off s), dg', by omega⟩
        refine ⟨_, rfl, _, rfl, _, rfl, ta, _, _, y, rfl, rfl, SqT.of (off_at hta), at_of (j := 1) rfl rfl, o, root, nm, F, [b], y, d', rfl, rA (by decide) sm12, hlook, vl10 (Same.refl _), fun v3 H13 s13 hv3 => ?_⟩
        have e10 : rdSub F 10 nm d' = rd F 9 nm d' := rfl
        rw [e10, hag] at hv3
        have sm13 := sm12.trans s13
        have hv13 := hv12.same (same_off (M := [b]) s13)
        have hta13 := (same_off (M := [b]) s13) _ _ hta
        refine ⟨_, rfl, v3, .ref ta, 13, 9, .ok d', rfl, by decide, by decide, hv3.same off_full, hv13.same off_full, rok, _, rfl, ?_⟩
        refine iteF ?_
        refine ⟨_, rfl, _, rfl, o, C, dx, _, _, rfl, hoF sm13, T.cl, T.nRoot, flF_root _ _, rfl, _, rfl, ?_⟩
        by_cases cr : V.str nm = V.str root
        case neg => exact ifF cr (iteF ⟨sm13, _, _, rfl⟩)
        obtain rfl : nm = root := vstr.mp cr
        refine ifT rfl ?_
        refine ⟨_, rfl, ta, _, _, y, rfl, rfl, SqT.of (off_at hta13), at_of (j := 1) rfl rfl, y, d', rfl, (hy.same (same_off s13)).same off_full, by omega, fun H14 s14 => ?_⟩
        have sm14 := sm13.trans s14
        refine ⟨_, _, rfl, rfl, _, rfl, ?_⟩
        by_cases cz : (d'.size : Int) ≤ 300
        case neg => exact ifF cz (iteF ⟨sm14, _, _, rfl⟩)
        refine ifT cz ?_
        have s1314 := s13.trans s14
        have hta14 := (same_off (M := [b]) s1314) _ _ hta
        refine ⟨_, rfl, _, rfl, ta, _, _, y, rfl, rfl, SqT.of (off_at hta14), at_of (j := 1) rfl rfl, o, nm, F, [b], y, d', rfl, rA (by decide) sm14, hlook, vl10 s1314, fun d'' e => ?_, fun v4 H15 s15 hv4 => ?_⟩
        · rw [e10, hag] at e
          cases e
          omega
        rw [e10, hag] at hv4
        have hv15 := hv12.same (same_off (M := [b]) (s1314.trans s15))
        refine ⟨_, rfl, v4, .ref ta, 13, 9, .ok d', rfl, by decide, by decide, hv4.same off_full, hv15.same off_full, rok, _, rfl, ?_⟩
        exact iteF ⟨sm14.trans s15, _, _, rfl⟩
      | bad rs pth =>
        rw [hres] at hv1 hv2 hv12
        have bk := rd_bad g.wf.sz dg (m := 100000) (by omega) hres
        have rok : ResOk (.bad rs pth) := bad_ok bk (by decide) (by decide)
        refine ⟨_, rfl, v2, v1, 9, 9, .bad rs pth, rfl, by decide, by decide, hv2.same off_full, hv12.same off_full, rok, _, rfl, ?_⟩
        refine iteF ?_
        obtain ⟨ta, tq, rfl, hta, htq⟩ := id hv12
        refine ⟨_, rfl, ta, _, _, .str "failure", rfl, rfl, SqT.of (off_at hta), at_of (j := 0) rfl rfl, rfl, _, rfl, ifF (ne_str (by decide +kernel)) ?_⟩
        refine ⟨_, rfl, ta, _, _, .str "failure", rfl, rfl, SqT.of (off_at hta), at_of (j := 0) rfl rfl, rfl, _, rfl, ifNF rfl ?_⟩
        refine ⟨_, rfl, ta, _, _, .ref tq, rfl, rfl, SqT.of (off_at hta), at_of (j := 2) rfl rfl, by show 0 ≤ sizeLine; decide, fun e ne => ?_⟩
        have e7 := same_new ne (.lst ([] : List V))
        have ntq : tq ≠ e := ne_of_none (off_at htq) ne
        refine ⟨tq, e, pth, rfl, rfl, ntq, SqL.of (e7 _ _ (off_at htq)), upd_same, _, rfl, ?_⟩
        cases hpe : pth.isEmpty with
        | false => exact iteF (iteF ⟨sm12.trans e7, _, _, rfl⟩)
        | true =>
          have hp0 : pth = [] := List.isEmpty_iff.mp hpe
          refine iteT ?_
          refine ⟨_, rfl, ta, _, _, .str rs, rfl, rfl, SqT.of (e7 _ _ (off_at hta)), at_of (j := 1) rfl rfl, rfl, _, rfl, ?_⟩
          have hne : ¬ V.str rs = V.str "missing field" := fun z => bk.ms (vstr.mp z) hp0
          rw [decide_eq_false hne]
          exact iteF ⟨sm12.trans e7, _, _, rfl⟩
    · rintro σ H10 ⟨sm10, x8, x9, rfl⟩
      exact ⟨st9.trans (Stp.of_same sm10), bx9.same sm10, _, _, _, _, rfl⟩
  · rintro σ H7 ⟨st7, bx7, x6, x7, x8, x9, rfl⟩
    exact q H7
end
end Ff
/-! The law's def, called behind the top, where no repr is under way. -/
namespace Ff
open PySem L2 C8
open PyProof.Rows
open PySem.W (WalkO)
/-- the result of the law's call -/
abbrev LawEnd (h : Heap) (os : OsState) : Result → Shared → Prop := fun r s' => r = .ok (.ret (.bool true)) ∧ OldK h s'.heap ∧ s'.os = os ∧ AllBare s'.gens
section
variable {P : Program} {w : World} {K : PySem.W.Frag} {mg mb : Str → Option Value} {k : Nat} {fa a : Addr} {s : Shared} {vs : List Value} {ns : List Int}
/-- what is tracked: the script's list at the most -/
structure Scr (P : Program) (w : World) (K : PySem.W.Frag) (s : Shared) (a : Addr) (vs : List Value) (ns : List Int) (H : Hp) : Prop where
  frz : ∀ b u, H b = some u → b = a ∧ K.lookup a = none ∧ u = .frz { cls := .type "list", data := .seq vs.toArray } (.lst (ns.map V.int))
  seq : SqL K H a (ns.map V.int)
  ok : HOk P w H s.heap
theorem Scr.untracked {H : Hp} (h : Scr P w K s a vs ns H) {b : Addr} {o : Obj} (e : s.heap.get? b = some o) (hb : b = a → K.lookup a = none → False) : (hidT s.heap H).get? b = some o := by
  refine hidT_get e ?_
  cases q : H b with
  | none => rfl
  | some u => exact (hb (h.frz b u q).1 (h.frz b u q).2.1).elim
theorem Scr.space {H : Hp} (h : Scr P w K s a vs ns H) (ha : s.heap.get? a = some { cls := .type "list", data := .seq vs.toArray }) {b : Addr} {m : Str → Option Value} (hm : s.heap.Ns b m) : (hidT s.heap H).Ns b m := by
  obtain ⟨o, es, ep, e, d, r⟩ := hm
  refine ⟨o, es, ep, h.untracked e fun z _ => ?_, d, r⟩
  subst z
  rw [ha] at e
  cases e
  cases (show Data.seq vs.toArray _ = Data.dict es ep from d)
theorem Scr.call {H : Hp} (h : Scr P w K s a vs ns H) (hk : K.In s.heap) (hns : s.heap.Ns mainGlobals mg) (hb : s.heap.Ns builtinsNs mb) (hbb : ∀ y : Str, y ≠ "__name__" → mb y = bootBuiltins y) (hlim : s.heap.NoLimit) (hg : s.gens = #[])
    (ha : s.heap.get? a = some { cls := .type "list", data := .seq vs.toArray }) (hr : Room k callerA) (hm : mg "law" = some (.ref fa)) (F : ∀ base : Heap, K.In base → base.Ns mainGlobals mg → CalG P w K mg base k "law" (spLaw K)) :
    codeAny (model P w) callerA (.call (.ref fa) ⟨[.ref a], []⟩) (LawEnd s.heap s.os) s := by
  have kin : K.In (hidT s.heap H) := fun b o e => h.untracked (hk b o e) fun z n => by
    subst z
    rw [n] at e
    cases e
  obtain ⟨mc, hl1, hl2⟩ := hlim
  have md : Mod K mg (hidT s.heap H) := ⟨kin, h.space ha hns, ⟨mb, h.space ha hb, hbb⟩, mc, h.space ha hl1, hl2⟩
  have z0 : Env0 P w K mg (hidT s.heap H) callerA [] s H := ⟨rfl, md, fun b o e => of_hidT e, Nat.le_of_eq (hidT_size _ _), trivial, (fun b m => by cases m), h.ok, .of_eq hg⟩
  obtain ⟨f, fd, ps, G, hf, _, b⟩ := (F _ kin (h.space ha hns)).ex
  cases hm.symm.trans hf
  have sp : spLaw K [.ref a] H (fun v _ => v = .bl true) (fun _ _ _ => False) := ⟨a, ns, rfl, h.seq, fun _ => rfl⟩
  have bt := b s [.ref a] hk (by rw [List.append_nil]; exact G.len _ _ _ _ sp)
  rw [List.append_nil] at bt
  have run := G.go callerA [] s H ⟨[.ref a], []⟩ [.ref a] [.ref a] _ _ rfl hr z0 bt (.cons rfl .nil) sp
  refine codeAny_mono run fun r s' q => ?_
  match r, q with
  | .ok (.ret u), ⟨v, H', os, bare, un, hok', r', q⟩ =>
    obtain rfl : v = .bl true := q
    obtain rfl : u = Value.bool true := r'
    refine ⟨rfl, OldK.of_keep fun b o e => ?_, os, bare⟩
    cases t : H b with
    | none => exact un.keep b o e t (by intro m; cases m) (by simp)
    | some y =>
      obtain ⟨_, _, rfl⟩ := h.frz b y t
      have g2 := (hok' b _ (un.frzs b _ _ t)).1
      have g1 := (h.ok b _ t).1
      rw [g1] at e
      cases e
      exact g2
theorem law_end (hk : K.In s.heap) (hns : s.heap.Ns mainGlobals mg) (hb : s.heap.Ns builtinsNs mb) (hbb : ∀ y : Str, y ≠ "__name__" → mb y = bootBuiltins y) (hlim : s.heap.NoLimit) (hg : s.gens = #[])
    (ha : s.heap.get? a = some { cls := .type "list", data := .seq vs.toArray }) (hi : IntsAre vs ns) (hl : ns.length ≤ sizeLine) (hr : Room k callerA) (hm : mg "law" = some (.ref fa)) (F : ∀ base : Heap, K.In base → base.Ns mainGlobals mg → CalG P w K mg base k "law" (spLaw K)) :
    codeAny (model P w) callerA (.call (.ref fa) ⟨[.ref a], []⟩) (LawEnd s.heap s.os) s := by
  have rv : Vals (ns.map V.int) vs := vals_ints hi
  have lv := hi.length
  cases n : K.lookup a with
  | some o =>
    have e := hk a o n
    rw [ha] at e
    cases e
    exact Scr.call (H := fun _ => none) ⟨(fun b u z => by cases (show (none : Option HO) = some u from z)), .inr ⟨_, vs.toArray, _, n, rfl, rfl, rfl, by rw [List.size_toArray, lv]; exact hl, by simpa using rv⟩, (fun b u z => by cases (show (none : Option HO) = some u from z))⟩ hk hns hb hbb hlim hg ha hr hm F
  | none =>
    let H : Hp := fun b => if b = a then some (.frz { cls := .type "list", data := .seq vs.toArray } (.lst (ns.map V.int))) else none
    have hH : ∀ b u, H b = some u → b = a ∧ u = .frz { cls := .type "list", data := .seq vs.toArray } (.lst (ns.map V.int)) := fun b u z => by
      by_cases c : b = a
      · exact ⟨c, by have z' := (if_pos c).symm.trans z; cases z'; rfl⟩
      · cases (if_neg c).symm.trans z
    refine Scr.call (H := H) ⟨fun b u z => ⟨(hH b u z).1, n, (hH b u z).2⟩, .inl (.inr ⟨{ cls := .type "list", data := .seq vs.toArray }, if_pos rfl⟩), fun b u z => ?_⟩ hk hns hb hbb hlim hg ha hr hm F
    obtain ⟨rfl, rfl⟩ := hH b u z
    exact ⟨ha, by rw [List.length_map]; exact hl, vs, _, rv, ha⟩
end
/-- the goal behind the head -/
theorem walk_end {l : PySem.W.OpenLaw} {n k : Nat} {q : Program} {loose : List Str} {XP : (Str → Option Value) → Heap → Prop} {YP : World → Heap → Prop} {d : DefRec} {K : Params → PySem.W.Frag} (hn : l.most = some n) (n1 : n ≤ sizeLine) (hd : d.params.defaults = []) (hr : Room k callerA)
    (hY : ∀ (w : World) (h : Heap), YP w h → (K w.params).In h)
    (dn : d.name = "law") (F : ∀ (w : World) (mg : Str → Option Value) (h : Heap), (K w.params).In h → h.Ns mainGlobals mg → ∀ base : Heap, (K w.params).In base → base.Ns mainGlobals mg → CalG l.prog w (K w.params) mg base k "law" (spLaw (K w.params))) :
    WalkO q loose XP YP l.row.toRowW d [] (fun f vs => PySem.call f vs) := by
  refine Att.attach_call hn hd fun w s₀ s mg mb fa o pm cd doc a vs ns G Y _ _ _ hm ha hi hl hg => ?_
  rw [dn] at hm
  exact law_end (hY w _ Y) G.T.g G.T.b G.T.builtins G.T.nolimit hg ha hi (Nat.le_trans hl n1) hr hm (F w mg _ (hY w _ Y) G.T.g)
end Ff
/-! The ends: all defs, put together. -/
namespace Ff
open PySem L2 C8
section
variable {P : Program} {w : World} {K : PySem.W.Frag} {mg : Str → Option Value} {base : Heap} {C kA : Addr}
/-- how a text's arguments go to a def's parameters -/
def Fits (x qual : Str) (st : Stmt) (ps : List Str) : Prop := ∀ (kV doc pm : Value) (an : Option Addr) (cdv ct : Value) (us : List Value), us.length = ps.length → bindArgs (PySem.W.fnOf x qual (fnArgs st) (fnBody st) (fnScope st) .none kV doc pm an cdv ct) ⟨us, []⟩ = pure (ps.zip us)
theorem has_mk {h : Heap} {x : Str} {st : Stmt} {ps : List Str} {f : Addr} {oc kV dc pm cd ct : Value} {od an : Option Addr} {sl : Array (Option Value)} (fi : Fits x x st ps) (X : K.In h) (G : h.Ns mainGlobals mg)
    (a : PySem.W.nsIn K mainGlobals x = some (some (.ref f))) (l : K.lookup f = some ⟨oc, od, .func (PySem.W.fnOf x x (fnArgs st) (fnBody st) (fnScope st) .none kV dc pm an cd ct), sl⟩) (c : PySem.W.codeIn K cd x = true) (k : PySem.W.keepIn K (.ref f) = true) : Has K mg x st ps := by
  have F : C8.Fun K x x st f _ := ⟨oc, od, .none, kV, dc, pm, an, cd, ct, sl, rfl, l, c⟩
  exact ⟨f, _, ⟨F, PySem.W.mg_of X G a, k⟩, F.binds rfl fi⟩
theorem hasM_mk {m qual : Str} {st : Stmt} {ps : List Str} {f : Addr} {oc kV dc pm cd ct : Value} {od an : Option Addr} {sl : Array (Option Value)} (fi : Fits m qual st ps)
    (a : PySem.W.findIn K (.ref C) m = some (some (.ref f))) (i : PySem.W.isFn K (.ref f) = true) (l : K.lookup f = some ⟨oc, od, .func (PySem.W.fnOf m qual (fnArgs st) (fnBody st) (fnScope st) .none kV dc pm an cd ct), sl⟩) (c : PySem.W.codeIn K cd qual = true) (k : PySem.W.keepIn K (.ref f) = true) : HasM K C m qual st ps := by
  have F : C8.Fun K m qual st f _ := ⟨oc, od, .none, kV, dc, pm, an, cd, ct, sl, rfl, l, c⟩
  exact ⟨f, _, ⟨a, i, k⟩, F, F.binds rfl fi⟩
theorem hasI_mk {h : Heap} {x qual : Str} {st : Stmt} {ps : List Str} {f : Addr} {oc kV dc pm cd ct : Value} {od an : Option Addr} {sl : Array (Option Value)} (fi : Fits "__init__" qual st ps) (X : K.In h) (G : h.Ns mainGlobals mg)
    (g : PySem.W.nsIn K mainGlobals x = some (some (.ref C))) (m : PySem.W.makesIn K C = true) (kc : PySem.W.keepIn K (.ref C) = true)
    (a : PySem.W.findIn K (.ref C) "__init__" = some (some (.ref f))) (i : PySem.W.isFn K (.ref f) = true) (l : K.lookup f = some ⟨oc, od, .func (PySem.W.fnOf "__init__" qual (fnArgs st) (fnBody st) (fnScope st) .none kV dc pm an cd ct), sl⟩) (c : PySem.W.codeIn K cd qual = true) : HasI K mg C x qual st ps := by
  have F : C8.Fun K "__init__" qual st f _ := ⟨oc, od, .none, kV, dc, pm, an, cd, ct, sl, rfl, l, c⟩
  exact ⟨f, _, ⟨m, a, i, kc⟩, PySem.W.mg_of X G g, F, F.binds rfl fi⟩
/-- a constant of the top -/
theorem val_mk {h : Heap} {x : Str} {v : V} {u : Value} (X : K.In h) (G : h.Ns mainGlobals mg) (a : PySem.W.nsIn K mainGlobals x = some (some u)) (r : RelV v u) : ∃ u, mg x = some u ∧ RelV v u := ⟨u, PySem.W.mg_of X G a, r⟩
/-- the kinds' tuple -/
theorem kinds_mk {xs : List V} {o : Obj} {its : Array Value} {n : Nat} (l : K.lookup kA = some o) (t : o.cls = .type "tuple") (d : o.data = .seq its n) (z : its.size ≤ sizeLine) (v : Vals xs its.toList) (H : Hp) : SqT K H kA xs := .inr ⟨o, its, n, l, t, d, z, v⟩
/-- all defs -/
structure Defs (K : PySem.W.Frag) (mg : Str → Option Value) (C : Addr) : Prop where
  d_kind_of : Has K mg "kind_of" s_kind_of p_kind_of
  d_sorted_fields : Has K mg "sorted_fields" s_sorted_fields p_sorted_fields
  d_parts_of : Has K mg "parts_of" s_parts_of p_parts_of
  d_size_of : Has K mg "size_of" s_size_of p_size_of
  d_case_of : Has K mg "case_of" s_case_of p_case_of
  d_is_kind : Has K mg "is_kind" s_is_kind p_is_kind
  d_failed : Has K mg "failed" s_failed p_failed
  d_behind : Has K mg "behind" s_behind p_behind
  d_read_list : Has K mg "read_list" s_read_list p_read_list
  d_read_record : Has K mg "read_record" s_read_record p_read_record
  d_read_choice : Has K mg "read_choice" s_read_choice p_read_choice
  d_read_by : Has K mg "read_by" s_read_by p_read_by
  d_read : Has K mg "read" s_read p_read
  d_l_cell : Has K mg "_law_cell" s_l_cell p_l_cell
  d_l_row : Has K mg "_law_row" s_l_row p_l_row
  d_l_box : Has K mg "_law_box" s_l_box p_l_box
  d_l_draw : Has K mg "_law_draw" s_l_draw p_l_draw
  d_l_is_integer : Has K mg "_law_is_integer" s_l_is_integer p_l_is_integer
  d_l_same : Has K mg "_law_same" s_l_same p_l_same
  d_l_rank : Has K mg "_law_rank" s_l_rank p_l_rank
  d_l_always : Has K mg "_law_always" s_l_always p_l_always
  d_l_any : Has K mg "_law_any" s_l_any p_l_any
  d_l_lists : Has K mg "_law_lists" s_l_lists p_l_lists
  d_l_records : Has K mg "_law_records" s_l_records p_l_records
  d_l_sized : Has K mg "_law_sized" s_l_sized p_l_sized
  d_l_table : Has K mg "_law_table" s_l_table p_l_table
  d_l_definition : Has K mg "_law_definition" s_l_definition p_l_definition
  d_l_filled : Has K mg "_law_filled" s_l_filled p_l_filled
  d_l_plain : Has K mg "_law_plain" s_l_plain p_l_plain
  d_l_format : Has K mg "_law_format" s_l_format p_l_format
  d_l_bare : Has K mg "_law_bare" s_l_bare p_l_bare
  d_l_changed : Has K mg "_law_changed" s_l_changed p_l_changed
  d_l_drawn : Has K mg "_law_drawn" s_l_drawn p_l_drawn
  d_l_wild : Has K mg "_law_wild" s_l_wild p_l_wild
  d_l_spoilt : Has K mg "_law_spoilt" s_l_spoilt p_l_spoilt
  d_l_some_values : Has K mg "_law_some_values" s_l_some_values p_l_some_values
  d_l_size : Has K mg "_law_size" s_l_size p_l_size
  d_l_listed : Has K mg "_law_listed" s_l_listed p_l_listed
  d_law : Has K mg "law" s_law p_law
  m_of : HasM K C "of" "Format.of" s_Format_of p_Format_of
  m_init : HasI K mg C "Format" "Format.__init__" s_Format_init p_Format_init
theorem fi_kind_of : Fits "kind_of" "kind_of" s_kind_of p_kind_of := fun _ _ _ _ _ _ us hl => match us, hl with | [_], _ => rfl
theorem fi_sorted_fields : Fits "sorted_fields" "sorted_fields" s_sorted_fields p_sorted_fields := fun _ _ _ _ _ _ us hl => match us, hl with | [_], _ => rfl
theorem fi_parts_of : Fits "parts_of" "parts_of" s_parts_of p_parts_of := fun _ _ _ _ _ _ us hl => match us, hl with | [_], _ => rfl
theorem fi_size_of : Fits "size_of" "size_of" s_size_of p_size_of := fun _ _ _ _ _ _ us hl => match us, hl with | [_], _ => rfl
theorem fi_case_of : Fits "case_of" "case_of" s_case_of p_case_of := fun _ _ _ _ _ _ us hl => match us, hl with | [_, _], _ => rfl
theorem fi_is_kind : Fits "is_kind" "is_kind" s_is_kind p_is_kind := fun _ _ _ _ _ _ us hl => match us, hl with | [_, _], _ => rfl
theorem fi_failed : Fits "failed" "failed" s_failed p_failed := fun _ _ _ _ _ _ us hl => match us, hl with | [_, _], _ => rfl
theorem fi_behind : Fits "behind" "behind" s_behind p_behind := fun _ _ _ _ _ _ us hl => match us, hl with | [_, _], _ => rfl
theorem fi_read_list : Fits "read_list" "read_list" s_read_list p_read_list := fun _ _ _ _ _ _ us hl => match us, hl with | [_, _, _], _ => rfl
theorem fi_read_record : Fits "read_record" "read_record" s_read_record p_read_record := fun _ _ _ _ _ _ us hl => match us, hl with | [_, _, _], _ => rfl
theorem fi_read_choice : Fits "read_choice" "read_choice" s_read_choice p_read_choice := fun _ _ _ _ _ _ us hl => match us, hl with | [_, _, _], _ => rfl
theorem fi_read_by : Fits "read_by" "read_by" s_read_by p_read_by := fun _ _ _ _ _ _ us hl => match us, hl with | [_, _, _], _ => rfl
theorem fi_read : Fits "read" "read" s_read p_read := fun _ _ _ _ _ _ us hl => match us, hl with | [_, _], _ => rfl
theorem fi_l_cell : Fits "_law_cell" "_law_cell" s_l_cell p_l_cell := fun _ _ _ _ _ _ us hl => match us, hl with | [_, _], _ => rfl
theorem fi_l_row : Fits "_law_row" "_law_row" s_l_row p_l_row := fun _ _ _ _ _ _ us hl => match us, hl with | [_, _, _], _ => rfl
theorem fi_l_box : Fits "_law_box" "_law_box" s_l_box p_l_box := fun _ _ _ _ _ _ us hl => match us, hl with | [_, _, _], _ => rfl
theorem fi_l_draw : Fits "_law_draw" "_law_draw" s_l_draw p_l_draw := fun _ _ _ _ _ _ us hl => match us, hl with | [_, _], _ => rfl
theorem fi_l_is_integer : Fits "_law_is_integer" "_law_is_integer" s_l_is_integer p_l_is_integer := fun _ _ _ _ _ _ us hl => match us, hl with | [_], _ => rfl
theorem fi_l_same : Fits "_law_same" "_law_same" s_l_same p_l_same := fun _ _ _ _ _ _ us hl => match us, hl with | [_, _], _ => rfl
theorem fi_l_rank : Fits "_law_rank" "_law_rank" s_l_rank p_l_rank := fun _ _ _ _ _ _ us hl => match us, hl with | [_], _ => rfl
theorem fi_l_always : Fits "_law_always" "_law_always" s_l_always p_l_always := fun _ _ _ _ _ _ us hl => match us, hl with | [_], _ => rfl
theorem fi_l_any : Fits "_law_any" "_law_any" s_l_any p_l_any := fun _ _ _ _ _ _ us hl => match us, hl with | [_], _ => rfl
theorem fi_l_lists : Fits "_law_lists" "_law_lists" s_l_lists p_l_lists := fun _ _ _ _ _ _ us hl => match us, hl with | [_, _, _], _ => rfl
theorem fi_l_records : Fits "_law_records" "_law_records" s_l_records p_l_records := fun _ _ _ _ _ _ us hl => match us, hl with | [_, _, _], _ => rfl
theorem fi_l_sized : Fits "_law_sized" "_law_sized" s_l_sized p_l_sized := fun _ _ _ _ _ _ us hl => match us, hl with | [_, _, _], _ => rfl
theorem fi_l_table : Fits "_law_table" "_law_table" s_l_table p_l_table := fun _ _ _ _ _ _ us hl => match us, hl with | [_, _], _ => rfl
theorem fi_l_definition : Fits "_law_definition" "_law_definition" s_l_definition p_l_definition := fun _ _ _ _ _ _ us hl => match us, hl with | [_, _], _ => rfl
theorem fi_l_filled : Fits "_law_filled" "_law_filled" s_l_filled p_l_filled := fun _ _ _ _ _ _ us hl => match us, hl with | [_, _], _ => rfl
theorem fi_l_plain : Fits "_law_plain" "_law_plain" s_l_plain p_l_plain := fun _ _ _ _ _ _ us hl => match us, hl with | [_], _ => rfl
theorem fi_l_format : Fits "_law_format" "_law_format" s_l_format p_l_format := fun _ _ _ _ _ _ us hl => match us, hl with | [_], _ => rfl
theorem fi_l_bare : Fits "_law_bare" "_law_bare" s_l_bare p_l_bare := fun _ _ _ _ _ _ us hl => match us, hl with | [_], _ => rfl
theorem fi_l_changed : Fits "_law_changed" "_law_changed" s_l_changed p_l_changed := fun _ _ _ _ _ _ us hl => match us, hl with | [_, _], _ => rfl
theorem fi_l_drawn : Fits "_law_drawn" "_law_drawn" s_l_drawn p_l_drawn := fun _ _ _ _ _ _ us hl => match us, hl with | [_, _], _ => rfl
theorem fi_l_wild : Fits "_law_wild" "_law_wild" s_l_wild p_l_wild := fun _ _ _ _ _ _ us hl => match us, hl with | [_, _], _ => rfl
theorem fi_l_spoilt : Fits "_law_spoilt" "_law_spoilt" s_l_spoilt p_l_spoilt := fun _ _ _ _ _ _ us hl => match us, hl with | [_, _], _ => rfl
theorem fi_l_some_values : Fits "_law_some_values" "_law_some_values" s_l_some_values p_l_some_values := fun _ _ _ _ _ _ us hl => match us, hl with | [_, _, _], _ => rfl
theorem fi_l_size : Fits "_law_size" "_law_size" s_l_size p_l_size := fun _ _ _ _ _ _ us hl => match us, hl with | [_], _ => rfl
theorem fi_l_listed : Fits "_law_listed" "_law_listed" s_l_listed p_l_listed := fun _ _ _ _ _ _ us hl => match us, hl with | [_, _], _ => rfl
theorem fi_law : Fits "law" "law" s_law p_law := fun _ _ _ _ _ _ us hl => match us, hl with | [_], _ => rfl
theorem fi_of : Fits "of" "Format.of" s_Format_of p_Format_of := fun _ _ _ _ _ _ us hl => match us, hl with | [_, _], _ => rfl
theorem fi_init : Fits "__init__" "Format.__init__" s_Format_init p_Format_init := fun _ _ _ _ _ _ us hl => match us, hl with | [_, _, _], _ => rfl
/-- the law's promise, from the text -/
theorem law_all (D : Defs K mg C) (T : Txt K mg C kA) : CalG P w K mg base 28 "law" (spLaw K) := by
  have R : RdDefs K mg C := ⟨D.d_kind_of, D.d_case_of, D.d_is_kind, D.d_failed, D.d_behind, D.d_read_list, D.d_read_record, D.d_read_choice, D.d_read_by, D.m_of⟩
  have a1 : Cal P w K mg base 1 "_law_cell" (spCell K) [] := ok_cell D.d_l_cell T
  have a2 : Cal P w K mg base 1 "_law_row" spRow [] := ok_row D.d_l_row T
  have a3 : Cal P w K mg base 2 "_law_box" (spBox K) [] := ok_box D.d_l_box T a1 a2
  have a4 : Cal P w K mg base 1 "_law_draw" spDraw [] := ok_draw D.d_l_draw T
  have a5 : Cal P w K mg base 2 "_law_drawn" spDrawn [] := ok_drawn D.d_l_drawn T a4
  have a6 : Cal P w K mg base 1 "_law_is_integer" spIsInt [] := ok_is_integer D.d_l_is_integer T
  have b1 : Cal P w K mg base 4 "_law_wild" (spWild 1) [] := ok_wild D.d_l_wild T a4 a5 1
  have b2 : Cal P w K mg base 6 "_law_wild" (spWild 3) [] := ok_wild D.d_l_wild T a4 a5 3
  have b3 : Cal P w K mg base 10 "_law_spoilt" (spSp 5) [] := ok_spoilt D.d_l_spoilt T a4 a5 a6 b1 5
  have c1 : Cal P w K mg base 1 "_law_always" (spAlways K) [] := ok_always D.d_l_always T
  have c2 : Cal P w K mg base 1 "_law_any" spAny [] := ok_any D.d_l_any T
  have c3 : Cal P w K mg base 1 "_law_lists" spLists [] := ok_lists D.d_l_lists T
  have c4 : Cal P w K mg base 2 "_law_records" spRecords [] := ok_records D.d_l_records T c1
  have c5 : Cal P w K mg base 3 "_law_sized" spSized [] := ok_sized D.d_l_sized T c2 c3 c4
  have c6 : Cal P w K mg base 4 "_law_table" spTable [] := ok_table D.d_l_table T c5
  have e1 : Cal P w K mg base 2 "_law_definition" spDef [] := ok_definition D.d_l_definition T a4
  have e2 : Cal P w K mg base 3 "_law_plain" spPlain [] := ok_plain D.d_l_plain T a4 e1
  have e3 : Cal P w K mg base 1 "_law_bare" spBare [] := ok_bare D.d_l_bare T
  have e4 : Cal P w K mg base 5 "_law_filled" spFilled [] := ok_filled D.d_l_filled T a4 c6
  have M : Mak P w K mg base 1 "Format" C (spInit C) [] := ok_init D.m_init T
  have e5 : Cal P w K mg base 6 "_law_format" (spFormat C) [] := ok_format D.d_l_format T a4 e2 e4 M
  have e6 : Cal P w K mg base 6 "_law_changed" (spChanged C) [] := ok_changed D.d_l_changed T a4 e1 e3 e4 M
  have g1 : Cal P w K mg base 8 "_law_listed" (spListed C) [] := ok_listed D.d_l_listed T c6 (ok_rank D.d_l_rank T 5)
  have g2 : Cal P w K mg base 11 "_law_some_values" spSome [] := ok_some_values D.d_l_some_values T a4 b2 b3
  have g3 : Cal P w K mg base 11 "_law_size" (spSize 10) [] := ok_size D.d_l_size T (ok_rank D.d_l_rank T 10)
  have k1 : Cal P w K mg base 1 "kind_of" spKind [] := ok_kind_of D.d_kind_of T
  have k2 : Cal P w K mg base 2 "parts_of" spParts [] := ok_parts_of D.d_parts_of T k1 (ok_sorted_fields D.d_sorted_fields T)
  have k3 : Cal P w K mg base 27 "read" (spRd C 10) [] := ok_read (m := 10) D.d_read T (ok_read_by R T 10) (ok_size_of D.d_size_of T k1 k2 14)
  exact ok_law D.d_law T a3 e5 e6 g1 g2 (ok_read_by R T 6) (ok_read_by R T 10) k3 g3 (ok_same D.d_l_same T)
end
end Ff
open PySem PySem.W PyProof.Rows
set_option maxRecDepth 100000 in
set_option maxHeartbeats 0 in
theorem PySem.Challenge.cw_formatfit_k19_reading_again_holds : PySem.Challenge.rw_formatfit_k19_reading_again.Holds := by
  w_on; o_law; k_head; (case hw => w_witness2)
  k_fill
  refine Ff.walk_end (l := PySem.Challenge.rw_formatfit_k19_reading_again) (n := 63) (k := 28) rfl (by decide) rfl ⟨rfl, by decide, by decide⟩ (fun w h Y => PySem.W.kIn_of Y) rfl ?F
  case F =>
    intro w mg h KX G base _ _
    refine' Ff.law_all ?D ?T
    case D =>
      refine' Ff.Defs.mk ?kind_of ?sorted_fields ?parts_of ?size_of ?case_of ?is_kind ?failed ?behind ?read_list ?read_record ?read_choice ?read_by ?read ?l_cell ?l_row ?l_box ?l_draw ?l_is_integer ?l_same ?l_rank ?l_always ?l_any ?l_lists ?l_records ?l_sized ?l_table ?l_definition ?l_filled ?l_plain ?l_format ?l_bare ?l_changed ?l_drawn ?l_wild ?l_spoilt ?l_some_values ?l_size ?l_listed ?law ?of ?ini
      (case ini => refine' Ff.hasI_mk Ff.fi_init KX G ?g ?m ?kc ?a ?i ?l ?c; (case g => k_is); (case m => k_is); (case kc => k_is); (case a => k_is); (case i => k_is); (case l => k_is); (case c => k_is))
      (case of => refine' Ff.hasM_mk Ff.fi_of ?a ?i ?l ?c ?k; (case a => k_is); (case i => k_is); (case l => k_is); (case c => k_is); (case k => k_is))
      (case kind_of => refine' Ff.has_mk Ff.fi_kind_of KX G ?a ?l ?c ?k; (case a => k_is); (case l => k_is); (case c => k_is); (case k => k_is))
      (case sorted_fields => refine' Ff.has_mk Ff.fi_sorted_fields KX G ?a ?l ?c ?k; (case a => k_is); (case l => k_is); (case c => k_is); (case k => k_is))
      (case parts_of => refine' Ff.has_mk Ff.fi_parts_of KX G ?a ?l ?c ?k; (case a => k_is); (case l => k_is); (case c => k_is); (case k => k_is))
      (case size_of => refine' Ff.has_mk Ff.fi_size_of KX G ?a ?l ?c ?k; (case a => k_is); (case l => k_is); (case c => k_is); (case k => k_is))
      (case case_of => refine' Ff.has_mk Ff.fi_case_of KX G ?a ?l ?c ?k; (case a => k_is); (case l => k_is); (case c => k_is); (case k => k_is))
      (case is_kind => refine' Ff.has_mk Ff.fi_is_kind KX G ?a ?l ?c ?k; (case a => k_is); (case l => k_is); (case c => k_is); (case k => k_is))
      (case failed => refine' Ff.has_mk Ff.fi_failed KX G ?a ?l ?c ?k; (case a => k_is); (case l => k_is); (case c => k_is); (case k => k_is))
      (case behind => refine' Ff.has_mk Ff.fi_behind KX G ?a ?l ?c ?k; (case a => k_is); (case l => k_is); (case c => k_is); (case k => k_is))
      (case read_list => refine' Ff.has_mk Ff.fi_read_list KX G ?a ?l ?c ?k; (case a => k_is); (case l => k_is); (case c => k_is); (case k => k_is))
      (case read_record => refine' Ff.has_mk Ff.fi_read_record KX G ?a ?l ?c ?k; (case a => k_is); (case l => k_is); (case c => k_is); (case k => k_is))
      (case read_choice => refine' Ff.has_mk Ff.fi_read_choice KX G ?a ?l ?c ?k; (case a => k_is); (case l => k_is); (case c => k_is); (case k => k_is))
      (case read_by => refine' Ff.has_mk Ff.fi_read_by KX G ?a ?l ?c ?k; (case a => k_is); (case l => k_is); (case c => k_is); (case k => k_is))
      (case read => refine' Ff.has_mk Ff.fi_read KX G ?a ?l ?c ?k; (case a => k_is); (case l => k_is); (case c => k_is); (case k => k_is))
      (case l_cell => refine' Ff.has_mk Ff.fi_l_cell KX G ?a ?l ?c ?k; (case a => k_is); (case l => k_is); (case c => k_is); (case k => k_is))
      (case l_row => refine' Ff.has_mk Ff.fi_l_row KX G ?a ?l ?c ?k; (case a => k_is); (case l => k_is); (case c => k_is); (case k => k_is))
      (case l_box => refine' Ff.has_mk Ff.fi_l_box KX G ?a ?l ?c ?k; (case a => k_is); (case l => k_is); (case c => k_is); (case k => k_is))
      (case l_draw => refine' Ff.has_mk Ff.fi_l_draw KX G ?a ?l ?c ?k; (case a => k_is); (case l => k_is); (case c => k_is); (case k => k_is))
      (case l_is_integer => refine' Ff.has_mk Ff.fi_l_is_integer KX G ?a ?l ?c ?k; (case a => k_is); (case l => k_is); (case c => k_is); (case k => k_is))
      (case l_same => refine' Ff.has_mk Ff.fi_l_same KX G ?a ?l ?c ?k; (case a => k_is); (case l => k_is); (case c => k_is); (case k => k_is))
      (case l_rank => refine' Ff.has_mk Ff.fi_l_rank KX G ?a ?l ?c ?k; (case a => k_is); (case l => k_is); (case c => k_is); (case k => k_is))
      (case l_always => refine' Ff.has_mk Ff.fi_l_always KX G ?a ?l ?c ?k; (case a => k_is); (case l => k_is); (case c => k_is); (case k => k_is))
      (case l_any => refine' Ff.has_mk Ff.fi_l_any KX G ?a ?l ?c ?k; (case a => k_is); (case l => k_is); (case c => k_is); (case k => k_is))
      (case l_lists => refine' Ff.has_mk Ff.fi_l_lists KX G ?a ?l ?c ?k; (case a => k_is); (case l => k_is); (case c => k_is); (case k => k_is))
      (case l_records => refine' Ff.has_mk Ff.fi_l_records KX G ?a ?l ?c ?k; (case a => k_is); (case l => k_is); (case c => k_is); (case k => k_is))
      (case l_sized => refine' Ff.has_mk Ff.fi_l_sized KX G ?a ?l ?c ?k; (case a => k_is); (case l => k_is); (case c => k_is); (case k => k_is))
      (case l_table => refine' Ff.has_mk Ff.fi_l_table KX G ?a ?l ?c ?k; (case a => k_is); (case l => k_is); (case c => k_is); (case k => k_is))
      (case l_definition => refine' Ff.has_mk Ff.fi_l_definition KX G ?a ?l ?c ?k; (case a => k_is); (case l => k_is); (case c => k_is); (case k => k_is))
      (case l_filled => refine' Ff.has_mk Ff.fi_l_filled KX G ?a ?l ?c ?k; (case a => k_is); (case l => k_is); (case c => k_is); (case k => k_is))
      (case l_plain => refine' Ff.has_mk Ff.fi_l_plain KX G ?a ?l ?c ?k; (case a => k_is); (case l => k_is); (case c => k_is); (case k => k_is))
      (case l_format => refine' Ff.has_mk Ff.fi_l_format KX G ?a ?l ?c ?k; (case a => k_is); (case l => k_is); (case c => k_is); (case k => k_is))
      (case l_bare => refine' Ff.has_mk Ff.fi_l_bare KX G ?a ?l ?c ?k; (case a => k_is); (case l => k_is); (case c => k_is); (case k => k_is))
      (case l_changed => refine' Ff.has_mk Ff.fi_l_changed KX G ?a ?l ?c ?k; (case a => k_is); (case l => k_is); (case c => k_is); (case k => k_is))
      (case l_drawn => refine' Ff.has_mk Ff.fi_l_drawn KX G ?a ?l ?c ?k; (case a => k_is); (case l => k_is); (case c => k_is); (case k => k_is))
      (case l_wild => refine' Ff.has_mk Ff.fi_l_wild KX G ?a ?l ?c ?k; (case a => k_is); (case l => k_is); (case c => k_is); (case k => k_is))
      (case l_spoilt => refine' Ff.has_mk Ff.fi_l_spoilt KX G ?a ?l ?c ?k; (case a => k_is); (case l => k_is); (case c => k_is); (case k => k_is))
      (case l_some_values => refine' Ff.has_mk Ff.fi_l_some_values KX G ?a ?l ?c ?k; (case a => k_is); (case l => k_is); (case c => k_is); (case k => k_is))
      (case l_size => refine' Ff.has_mk Ff.fi_l_size KX G ?a ?l ?c ?k; (case a => k_is); (case l => k_is); (case c => k_is); (case k => k_is))
      (case l_listed => refine' Ff.has_mk Ff.fi_l_listed KX G ?a ?l ?c ?k; (case a => k_is); (case l => k_is); (case c => k_is); (case k => k_is))
      (case law => refine' Ff.has_mk Ff.fi_law KX G ?a ?l ?c ?k; (case a => k_is); (case l => k_is); (case c => k_is); (case k => k_is))
    case T =>
      refine' Ff.Txt.mk (PySem.W.mg_none_of KX G ?z_isinstance) (PySem.W.mg_none_of KX G ?z_int) (PySem.W.mg_none_of KX G ?z_str) (PySem.W.mg_none_of KX G ?z_list) (PySem.W.mg_none_of KX G ?z_dict) (PySem.W.mg_none_of KX G ?z_tuple) (PySem.W.mg_none_of KX G ?z_bool) (PySem.W.mg_none_of KX G ?z_len) (PySem.W.mg_none_of KX G ?z_sum) (PySem.W.mg_none_of KX G ?z_abs) (PySem.W.mg_none_of KX G ?z_max) (PySem.W.mg_none_of KX G ?z_min) (PySem.W.mg_none_of KX G ?z_range) (PySem.W.mg_none_of KX G ?z_enumerate) (PySem.W.mg_none_of KX G ?z_sorted) (PySem.W.mg_none_of KX G ?z_repr) ?v_VALUE ?v_FAILURE ?v_REQUIRED ?v_DEFAULT ?v_SIZE_MOST ?v_KINDS ?kn ⟨?pg, ?hd, ?po, ?sa⟩ ?nR ?nD
      (case z_isinstance => k_is)
      (case z_int => k_is)
      (case z_str => k_is)
      (case z_list => k_is)
      (case z_dict => k_is)
      (case z_tuple => k_is)
      (case z_bool => k_is)
      (case z_len => k_is)
      (case z_sum => k_is)
      (case z_abs => k_is)
      (case z_max => k_is)
      (case z_min => k_is)
      (case z_range => k_is)
      (case z_enumerate => k_is)
      (case z_sorted => k_is)
      (case z_repr => k_is)
      (case v_VALUE => refine' Ff.val_mk KX G ?a ?r; (case a => k_is); (case r => exact ⟨_, rfl⟩))
      (case v_FAILURE => refine' Ff.val_mk KX G ?a ?r; (case a => k_is); (case r => exact ⟨_, rfl⟩))
      (case v_REQUIRED => refine' Ff.val_mk KX G ?a ?r; (case a => k_is); (case r => exact ⟨_, rfl⟩))
      (case v_DEFAULT => refine' Ff.val_mk KX G ?a ?r; (case a => k_is); (case r => exact ⟨_, rfl⟩))
      (case v_SIZE_MOST => refine' Ff.val_mk KX G ?a ?r; (case a => k_is); (case r => exact ⟨_, rfl⟩))
      (case v_KINDS => refine' Ff.val_mk KX G ?a ?r; (case a => k_is); (case r => exact rfl))
      (case kn => refine' Ff.kinds_mk ?l ?t ?d ?z ?v; (case l => k_is); (case t => exact rfl); (case d => exact rfl); (case z => decide); (case v => exact .cons ⟨_, rfl⟩ (.cons ⟨_, rfl⟩ (.cons ⟨_, rfl⟩ (.cons ⟨_, rfl⟩ (.cons ⟨_, rfl⟩ .nil))))))
      (case pg => k_is); (case hd => k_is); (case po => k_is); (case sa => k_is); (case nR => unfold L2.NoAttr; k_is); (case nD => unfold L2.NoAttr; k_is)
#print axioms PySem.Challenge.cw_formatfit_k19_reading_again_holds
