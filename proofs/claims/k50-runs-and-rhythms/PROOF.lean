import PyProof.Rows.All
import Wide.All
import OpenK.AllK
import Wide.FinOn
import PySem.Challenge.RW_hornwright_k50_books_of_runs_and_rhythms
import HandS.ForMost
import HandS.Deep
import HandS.DictTup
import HandS.TupSets
import HandS.SortKw
import HandS.TupAny
import HandS.Style
import HandS.Zip
import HandS.StrMore
import HandS.EndBits
import KE.DataMinMax
import KE.SortData
import KE.DataEq
import KE.DataCmp
import KE.DataFind
import KE.DataIsa
import KE.DataAny
import KE.DatumIndex
import KE.SortUse
import HandS.Strs
import HandS.Conv
import KE.KDictZip
set_option Elab.async false
set_option linter.all false
set_option maxRecDepth 100000
set_option maxHeartbeats 0
namespace HW
open PySem PySem.Spec PyProof.Rows L2

abbrev P := PyData

/-- data with ownership marks: pd: frozen; ol, od, ob: an object that only its holder holds; hole: not known -/
inductive D where
  | hole
  | pd (p : P)
  | ol (ds : List D)
  | od (kvs : List (P × D))
  | ob (c : Str) (fs : List (Str × D))
  | kv (v : V)
abbrev Sl := List D

def keyP : Key → P
  | .inl i => .int i
  | .inr x => .str x
def keysP (ks : List Key) : P := .tuple (ks.map keyP)

/-- a list that stands: frozen, or laid by the program's top -/
def LK (K : PySem.W.Frag) (F : Hp) (a : Addr) (xs : List V) : Prop := Rd F a (.lst xs) ∨ ∃ (its : Array Value) (n : Nat), K.lookup a = some { cls := .type "list", data := .seq its n } ∧ its.size ≤ sizeLine ∧ Vals xs its.toList
theorem LK.seq {K : PySem.W.Frag} {F : Hp} {a : Addr} {xs : List V} (h : LK K F a xs) : SqL K F a xs := by
  rcases h with h | ⟨its, n, h1, h2, h3⟩
  · exact .inl h
  · exact .inr ⟨_, its, n, h1, rfl, rfl, rfl, h2, h3⟩
mutual
inductive DP (K : PySem.W.Frag) (F : Hp) : V → P → Prop
  | non : DP K F .non .none
  | bl (b : Bool) : DP K F (.bl b) (.bool b)
  | int (i : Int) : DP K F (.int i) (.int i)
  | str (x : Str) : DP K F (.str x) (.str x)
  | lst {a : Addr} {xs : List V} {ps : List P} : LK K F a xs → DPs K F xs ps → DP K F (.ref a) (.list ps)
  | tup {a : Addr} {xs : List V} {ps : List P} : SqT K F a xs → DPs K F xs ps → DP K F (.ref a) (.tuple ps)
inductive DPs (K : PySem.W.Frag) (F : Hp) : List V → List P → Prop
  | nil : DPs K F [] []
  | cons {v : V} {vs : List V} {p : P} {ps : List P} : DP K F v p → DPs K F vs ps → DPs K F (v :: vs) (p :: ps)
end
mutual
theorem DP.dp {K : PySem.W.Frag} {F : Hp} {v : V} {p : P} (h : DP K F v p) : Dp K F v p := by
  cases h with
  | non => exact .non
  | bl b => exact .bl b
  | int i => exact .int i
  | str x => exact .str x
  | lst s a => exact .lst s.seq (DPs.dp a)
  | tup s a => exact .tup s (DPs.dp a)
theorem DPs.dp {K : PySem.W.Frag} {F : Hp} {vs : List V} {ps : List P} (h : DPs K F vs ps) : DpAll K F vs ps := by
  cases h with
  | nil => exact .nil
  | cons a b => exact .cons (DP.dp a) (DPs.dp b)
end

mutual
inductive RD (K : PySem.W.Frag) (cm : Str → Addr → Prop) (F H : Hp) : V → D → List Addr → Prop
  | hole {v : V} : RD K cm F H v .hole []
  | pd {v : V} {p : P} : DP K F v p → RD K cm F H v (.pd p) []
  | kv {v : V} : RD K cm F H v (.kv v) []
  | ol {a : Addr} {vs : List V} {ds : List D} {fp : List Addr} : H a = some (.lst vs) → RDs K cm F H vs ds fp → RD K cm F H (.ref a) (.ol ds) (a :: fp)
  | odK {a : Addr} {ks : List Key} {vs : List V} {ds : List D} {fp : List Addr} : H a = some (.dK (ks.zip vs)) → ks.length = vs.length → ks.Nodup → RDs K cm F H vs ds fp → RD K cm F H (.ref a) (.od ((ks.map keyP).zip ds)) (a :: fp)
  | odT {a : Addr} {ks : List (List Key)} {vs : List V} {ds : List D} {fp : List Addr} : H a = some (.dT (ks.zip vs)) → ks.length = vs.length → ks.Nodup → RDs K cm F H vs ds fp → RD K cm F H (.ref a) (.od ((ks.map keysP).zip ds)) (a :: fp)
  | ob {a dx C : Addr} {c : Str} {ns : List Str} {vs : List V} {ds : List D} {fp : List Addr} : H a = some (.ins C dx (ns.zip vs)) → H dx = some (.own a) → cm c C → ns.length = vs.length → RDs K cm F H vs ds fp → RD K cm F H (.ref a) (.ob c (ns.zip ds)) (a :: dx :: fp)
inductive RDs (K : PySem.W.Frag) (cm : Str → Addr → Prop) (F H : Hp) : List V → List D → List Addr → Prop
  | nil : RDs K cm F H [] [] []
  | cons {v : V} {vs : List V} {d : D} {ds : List D} {f g : List Addr} : RD K cm F H v d f → RDs K cm F H vs ds g → RDs K cm F H (v :: vs) (d :: ds) (f ++ g)
end

/-- slots -/
inductive RE (K : PySem.W.Frag) (cm : Str → Addr → Prop) (F H : Hp) : L2.St → Sl → List Addr → Prop
  | nil : RE K cm F H [] [] []
  | no {x : Option V} {σ : L2.St} {ρ : Sl} {g : List Addr} : RE K cm F H σ ρ g → RE K cm F H (x :: σ) (.hole :: ρ) g
  | yes {v : V} {d : D} {σ : L2.St} {ρ : Sl} {f g : List Addr} : RD K cm F H v d f → RE K cm F H σ ρ g → RE K cm F H (some v :: σ) (d :: ρ) (f ++ g)

section
variable {K : PySem.W.Frag} {cm : Str → Addr → Prop} {F F' H H' W : Hp}

theorem Rd.mono {a : Addr} {u : HO} (s : Rd F a u) (e : Same F F') : Rd F' a u := by
  rcases s with s | ⟨o, s⟩
  · exact .inl (e _ _ s)
  · exact .inr ⟨o, e _ _ s⟩
theorem LK.mono {a : Addr} {xs : List V} (s : LK K F a xs) (e : Same F F') : LK K F' a xs := by
  rcases s with s | s
  · exact .inl (Rd.mono s e)
  · exact .inr s
theorem SqT.mono {a : Addr} {xs : List V} (s : SqT K F a xs) (e : Same F F') : SqT K F' a xs := by
  rcases s with s | s
  · exact .inl (Rd.mono s e)
  · exact .inr s
mutual
theorem DP.mono {v : V} {p : P} (h : DP K F v p) (e : Same F F') : DP K F' v p := by
  cases h with
  | non => exact .non
  | bl b => exact .bl b
  | int i => exact .int i
  | str x => exact .str x
  | lst s a => exact .lst (s.mono e) (DPs.mono a e)
  | tup s a => exact .tup (SqT.mono s e) (DPs.mono a e)
theorem DPs.mono {vs : List V} {ps : List P} (h : DPs K F vs ps) (e : Same F F') : DPs K F' vs ps := by
  cases h with
  | nil => exact .nil
  | cons a b => exact .cons (DP.mono a e) (DPs.mono b e)
end
theorem RD.mono_both (e : Same F F') :
    (∀ {v : V} {d : D} {fp : List Addr}, RD K cm F H v d fp → (∀ a ∈ fp, ∀ o, H a = some o → H' a = some o) → RD K cm F' H' v d fp) ∧
    (∀ {vs : List V} {ds : List D} {fp : List Addr}, RDs K cm F H vs ds fp → (∀ a ∈ fp, ∀ o, H a = some o → H' a = some o) → RDs K cm F' H' vs ds fp) := by
  constructor
  · intro v d fp h
    refine RD.rec (motive_1 := fun v d fp _ => (∀ a ∈ fp, ∀ o, H a = some o → H' a = some o) → RD K cm F' H' v d fp) (motive_2 := fun vs ds fp _ => (∀ a ∈ fp, ∀ o, H a = some o → H' a = some o) → RDs K cm F' H' vs ds fp) ?_ ?_ ?_ ?_ ?_ ?_ ?_ ?_ ?_ h
    · intro v k; exact .hole
    · intro v p h k; exact .pd (DP.mono h e)
    · intro v k; exact .kv
    · intro a vs ds fp h r ih k; exact .ol (k _ (by simp) _ h) (ih fun a m => k a (by simp [m]))
    · intro a ks vs ds fp h l n r ih k; exact .odK (k _ (by simp) _ h) l n (ih fun a m => k a (by simp [m]))
    · intro a ks vs ds fp h l n r ih k; exact .odT (k _ (by simp) _ h) l n (ih fun a m => k a (by simp [m]))
    · intro a dx C c ns vs ds fp h h2 c l r ih k; exact .ob (k _ (by simp) _ h) (k _ (by simp) _ h2) c l (ih fun a m => k a (by simp [m]))
    · intro k; exact .nil
    · intro v vs d ds f g a b iha ihb k; exact .cons (iha fun x m => k x (by simp [m])) (ihb fun x m => k x (by simp [m]))
  · intro vs ds fp h
    refine RDs.rec (motive_1 := fun v d fp _ => (∀ a ∈ fp, ∀ o, H a = some o → H' a = some o) → RD K cm F' H' v d fp) (motive_2 := fun vs ds fp _ => (∀ a ∈ fp, ∀ o, H a = some o → H' a = some o) → RDs K cm F' H' vs ds fp) ?_ ?_ ?_ ?_ ?_ ?_ ?_ ?_ ?_ h
    · intro v k; exact .hole
    · intro v p h k; exact .pd (DP.mono h e)
    · intro v k; exact .kv
    · intro a vs ds fp h r ih k; exact .ol (k _ (by simp) _ h) (ih fun a m => k a (by simp [m]))
    · intro a ks vs ds fp h l n r ih k; exact .odK (k _ (by simp) _ h) l n (ih fun a m => k a (by simp [m]))
    · intro a ks vs ds fp h l n r ih k; exact .odT (k _ (by simp) _ h) l n (ih fun a m => k a (by simp [m]))
    · intro a dx C c ns vs ds fp h h2 c l r ih k; exact .ob (k _ (by simp) _ h) (k _ (by simp) _ h2) c l (ih fun a m => k a (by simp [m]))
    · intro k; exact .nil
    · intro v vs d ds f g a b iha ihb k; exact .cons (iha fun x m => k x (by simp [m])) (ihb fun x m => k x (by simp [m]))
theorem RD.mono {v : V} {d : D} {fp : List Addr} (h : RD K cm F H v d fp) (e : Same F F') (k : ∀ a ∈ fp, ∀ o, H a = some o → H' a = some o) : RD K cm F' H' v d fp := (RD.mono_both e).1 h k
theorem RDs.mono {vs : List V} {ds : List D} {fp : List Addr} (h : RDs K cm F H vs ds fp) (e : Same F F') (k : ∀ a ∈ fp, ∀ o, H a = some o → H' a = some o) : RDs K cm F' H' vs ds fp := (RD.mono_both e).2 h k
theorem RE.mono {σ : L2.St} {ρ : Sl} {fp : List Addr} (h : RE K cm F H σ ρ fp) : Same F F' → (∀ a ∈ fp, ∀ o, H a = some o → H' a = some o) → RE K cm F' H' σ ρ fp := by
  induction h with
  | nil => exact fun _ _ => .nil
  | no _ ih => exact fun e k => .no (ih e k)
  | yes a _ ih => exact fun e k => .yes (RD.mono a e fun x m => k x (by simp [m])) (ih e fun x m => k x (by simp [m]))

theorem RDs.length {vs : List V} {ds : List D} {fp : List Addr} (h : RDs K cm F H vs ds fp) : vs.length = ds.length := by
  induction vs generalizing ds fp with
  | nil => cases h; rfl
  | cons v vs ih => cases h with | cons a b => simp [ih b]
theorem RE.length {σ : L2.St} {ρ : Sl} {fp : List Addr} (h : RE K cm F H σ ρ fp) : σ.length = ρ.length := by
  induction h with
  | nil => rfl
  | no _ ih => simp [ih]
  | yes _ _ ih => simp [ih]
theorem RD.there_both : (∀ {v : V} {d : D} {fp : List Addr}, RD K cm F H v d fp → ∀ a ∈ fp, ∃ o, H a = some o) ∧ (∀ {vs : List V} {ds : List D} {fp : List Addr}, RDs K cm F H vs ds fp → ∀ a ∈ fp, ∃ o, H a = some o) := by
  have A : ∀ {vs : List V} {ds : List D} {fp : List Addr}, RDs K cm F H vs ds fp → ∀ a ∈ fp, ∃ o, H a = some o := by
    intro vs ds fp h
    refine RDs.rec (motive_1 := fun v d fp _ => ∀ a ∈ fp, ∃ o, H a = some o) (motive_2 := fun vs ds fp _ => ∀ a ∈ fp, ∃ o, H a = some o) ?_ ?_ ?_ ?_ ?_ ?_ ?_ ?_ ?_ h
    · intro v a m; cases m
    · intro v p h a m; cases m
    · intro v a m; cases m
    · intro a vs ds fp h r ih x m; rcases List.mem_cons.mp m with rfl | m; exact ⟨_, h⟩; exact ih x m
    · intro a ks vs ds fp h l n r ih x m; rcases List.mem_cons.mp m with rfl | m; exact ⟨_, h⟩; exact ih x m
    · intro a ks vs ds fp h l n r ih x m; rcases List.mem_cons.mp m with rfl | m; exact ⟨_, h⟩; exact ih x m
    · intro a dx C c ns vs ds fp h h2 c l r ih x m
      rcases List.mem_cons.mp m with rfl | m; exact ⟨_, h⟩
      rcases List.mem_cons.mp m with rfl | m; exact ⟨_, h2⟩; exact ih x m
    · intro a m; cases m
    · intro v vs d ds f g a b iha ihb x m; rcases List.mem_append.mp m with m | m; exact iha x m; exact ihb x m
  refine ⟨fun {v d fp} h a m => ?_, A⟩
  have h2 : RDs K cm F H [v] [d] (fp ++ []) := .cons h .nil
  exact A h2 a (by simpa using m)
theorem RD.there {v : V} {d : D} {fp : List Addr} (h : RD K cm F H v d fp) : ∀ a ∈ fp, ∃ o, H a = some o := RD.there_both.1 h
theorem RDs.there {vs : List V} {ds : List D} {fp : List Addr} (h : RDs K cm F H vs ds fp) : ∀ a ∈ fp, ∃ o, H a = some o := RD.there_both.2 h
theorem RE.there {σ : L2.St} {ρ : Sl} {fp : List Addr} (h : RE K cm F H σ ρ fp) : ∀ a ∈ fp, ∃ o, H a = some o := by
  induction h with
  | nil => intro a m; cases m
  | no _ ih => exact ih
  | yes x _ ih => intro a m; rcases List.mem_append.mp m with m | m; exact RD.there x a m; exact ih a m

/-! ### the state -/
structure R (K : PySem.W.Frag) (cm : Str → Addr → Prop) (W : Hp) (σ : L2.St) (H F : Hp) (ρ : Sl) : Prop where
  fh : Same F H
  wh : Same W H
  wf : ∀ a o, W a = some o → F a = none
  ex : ∃ fp, RE K cm F H σ ρ fp ∧ fp.Nodup ∧ ∀ a ∈ fp, F a = none ∧ W a = none

variable {σ : L2.St} {ρ : Sl} {p : Addr} {o : HO}
theorem R.length (r : R K cm W σ H F ρ) : σ.length = ρ.length := let ⟨_, h, _⟩ := r.ex; h.length
/-- the heap grows, all that was tracked is as it was -/
theorem R.same (r : R K cm W σ H F ρ) (e : Same H H') : R K cm W σ H' F ρ :=
  let ⟨fp, h, n, m⟩ := r.ex
  ⟨fun a o q => e _ _ (r.fh a o q), fun a o q => e _ _ (r.wh a o q), r.wf, fp, h.mono (Same.refl F) (fun a _ o q => e a o q), n, m⟩
theorem none_of_same {H H' : Hp} {a : Addr} (e : Same H H') (h : H' a = none) : H a = none := e.free h
/-- a new frozen object -/
theorem R.laid (r : R K cm W σ H F ρ) (hp : H p = none) : R K cm W σ (upd H p o) (upd F p o) ρ := by
  obtain ⟨fp, h, n, m⟩ := r.ex
  have fp0 : F p = none := r.fh.free hp
  have wp0 : W p = none := r.wh.free hp
  have sF : Same F (upd F p o) := fun a u q => by rw [upd_ne (ne_of_none q fp0)]; exact q
  have sH : Same H (upd H p o) := fun a u q => by rw [upd_ne (ne_of_none q hp)]; exact q
  refine ⟨fun a u q => ?_, fun a u q => sH a u (r.wh a u q), fun a u q => ?_, fp, h.mono sF (fun a _ u q => sH a u q), n, fun a ha => ⟨?_, (m a ha).2⟩⟩
  · by_cases e : a = p
    · subst e; rw [upd_same] at q ⊢; exact q
    · rw [upd_ne e] at q; rw [upd_ne e]; exact r.fh a u q
  · rw [upd_ne (ne_of_none q wp0)]; exact r.wf a u q
  · obtain ⟨u, hu⟩ := h.there a ha
    rw [upd_ne (ne_of_none hu hp)]; exact (m a ha).1
theorem same_upd {H : Hp} {p : Addr} {o : HO} (hp : H p = none) : Same H (upd H p o) := fun a u q => by rw [upd_ne (ne_of_none q hp)]; exact q

/-! ### taking and putting -/
def Sub (f g : List Addr) : Prop := ∃ h, g.Perm (f ++ h)
theorem Sub.refl (f : List Addr) : Sub f f := ⟨[], by simp⟩
theorem Sub.nodup {f g : List Addr} (s : Sub f g) (n : g.Nodup) : f.Nodup := by
  obtain ⟨h, p⟩ := s
  exact (List.nodup_append.mp (p.nodup_iff.mp n)).1
theorem Sub.mem {f g : List Addr} (s : Sub f g) {a : Addr} (m : a ∈ f) : a ∈ g := by
  obtain ⟨h, p⟩ := s
  exact p.mem_iff.mpr (List.mem_append_left _ m)
theorem Sub.trans {f g h : List Addr} (s : Sub f g) (t : Sub g h) : Sub f h := by
  obtain ⟨x, p⟩ := s
  obtain ⟨y, q⟩ := t
  exact ⟨x ++ y, q.trans (by rw [← List.append_assoc]; exact p.append_right y)⟩
theorem Sub.of_perm {f g : List Addr} (p : g.Perm f) : Sub f g := ⟨[], by simpa using p⟩
theorem Sub.right (f g : List Addr) : Sub g (f ++ g) := ⟨f, List.perm_append_comm⟩
theorem Sub.left (f g : List Addr) : Sub f (f ++ g) := ⟨g, List.Perm.refl _⟩
theorem Sub.app {f f' g g' : List Addr} (s : Sub f f') (t : Sub g g') : Sub (f ++ g) (f' ++ g') := by
  obtain ⟨x, p⟩ := s
  obtain ⟨y, q⟩ := t
  refine ⟨x ++ y, (p.append q).trans ?_⟩
  rw [List.append_assoc, List.append_assoc]
  refine List.Perm.append_left f ?_
  rw [← List.append_assoc, ← List.append_assoc]
  exact List.Perm.append_right y List.perm_append_comm
theorem Sub.swap (f g h : List Addr) : Sub (f ++ (g ++ h)) (g ++ (f ++ h)) := by
  refine .of_perm ?_
  rw [← List.append_assoc, ← List.append_assoc]
  exact List.Perm.append_right h List.perm_append_comm
theorem Sub.append_swap (f g h : List Addr) : Sub (f ++ g ++ h) (g ++ f ++ h) := .of_perm (List.Perm.append_right h List.perm_append_comm)

theorem RE.take {fp : List Addr} (h : RE K cm F H σ ρ fp) : ∀ {i : Nat} {d : D}, ρ[i]? = some d → d ≠ .hole → ∃ v f g, σ[i]? = some (some v) ∧ RD K cm F H v d f ∧ RE K cm F H σ (ρ.set i .hole) g ∧ Sub (f ++ g) fp := by
  induction h with
  | nil => intro i d e; simp at e
  | no r ih =>
    intro i d e n
    cases i with
    | zero => simp at e; exact absurd e.symm n
    | succ i =>
      obtain ⟨v, f, g, h1, h2, h3, h4⟩ := ih (by simpa using e) n
      exact ⟨v, f, g, by simpa using h1, h2, .no h3, h4⟩
  | @yes v0 d0 σ0 ρ0 f0 g0 x r ih =>
    intro i d e n
    cases i with
    | zero =>
      simp at e; subst e
      exact ⟨v0, f0, g0, by simp, x, .no r, Sub.refl _⟩
    | succ i =>
      obtain ⟨v, f, g, h1, h2, h3, h4⟩ := ih (by simpa using e) n
      refine ⟨v, f, f0 ++ g, by simpa using h1, h2, .yes x h3, (Sub.swap f f0 g).trans ((Sub.refl f0).app h4)⟩
theorem RE.put {fp : List Addr} (h : RE K cm F H σ ρ fp) : ∀ {i : Nat} {v : V} {d : D} {f : List Addr}, i < σ.length → RD K cm F H v d f → ∃ g, RE K cm F H (σ.set i (some v)) (ρ.set i d) g ∧ Sub g (f ++ fp) := by
  induction h with
  | nil => intro i v d f hi; simp at hi
  | @no x0 σ0 ρ0 g0 r ih =>
    intro i v d f hi hd
    cases i with
    | zero => exact ⟨f ++ g0, .yes hd r, Sub.refl _⟩
    | succ i =>
      obtain ⟨g, h1, h2⟩ := ih (by simpa using hi) hd
      exact ⟨g, .no h1, h2⟩
  | @yes v0 d0 σ0 ρ0 f0 g0 x r ih =>
    intro i v d f hi hd
    cases i with
    | zero => exact ⟨f ++ g0, .yes hd r, (Sub.refl f).app (Sub.right f0 g0)⟩
    | succ i =>
      obtain ⟨g, h1, h2⟩ := ih (by simpa using hi) hd
      exact ⟨f0 ++ g, .yes x h1, ((Sub.refl f0).app h2).trans (Sub.swap f0 f g0)⟩
theorem RE.drop {fp : List Addr} (h : RE K cm F H σ ρ fp) : ∀ (i : Nat), ∃ g, RE K cm F H σ (ρ.set i .hole) g ∧ Sub g fp := by
  induction h with
  | nil => intro i; exact ⟨[], by simpa using .nil, Sub.refl _⟩
  | @no x0 σ0 ρ0 g0 r ih =>
    intro i
    cases i with
    | zero => exact ⟨g0, .no r, Sub.refl _⟩
    | succ i => obtain ⟨g, h1, h2⟩ := ih i; exact ⟨g, .no h1, h2⟩
  | @yes v0 d0 σ0 ρ0 f0 g0 x r ih =>
    intro i
    cases i with
    | zero => exact ⟨g0, .no r, Sub.right f0 g0⟩
    | succ i => obtain ⟨g, h1, h2⟩ := ih i; exact ⟨f0 ++ g, .yes x h1, (Sub.refl f0).app h2⟩

theorem R.ofRE {fp : List Addr} {σ' : L2.St} {ρ' : Sl} {g : List Addr} (fh : Same F H) (wh : Same W H) (wf : ∀ a o, W a = some o → F a = none) (n : fp.Nodup) (m : ∀ a ∈ fp, F a = none ∧ W a = none)
    (h : RE K cm F H σ' ρ' g) (s : Sub g fp) : R K cm W σ' H F ρ' := ⟨fh, wh, wf, g, h, s.nodup n, fun a ha => m a (s.mem ha)⟩
/-- reading a frozen slot -/
theorem R.get (r : R K cm W σ H F ρ) {i : Nat} {q : P} (h : ρ[i]? = some (.pd q)) : ∃ v, σ[i]? = some (some v) ∧ DP K F v q := by
  obtain ⟨fp, e, _⟩ := r.ex
  obtain ⟨v, f, g, h1, h2, _⟩ := e.take h (by simp)
  cases h2 with
  | pd d => exact ⟨v, h1, d⟩
/-- a value is moved out of its slot -/
theorem R.take (r : R K cm W σ H F ρ) {i : Nat} {d : D} (h : ρ[i]? = some d) (n : d ≠ .hole) : ∃ v, σ[i]? = some (some v) ∧ R K cm W (some v :: σ) H F (d :: ρ.set i .hole) := by
  obtain ⟨fp, e, nd, m⟩ := r.ex
  obtain ⟨v, f, g, h1, h2, h3, h4⟩ := e.take h n
  exact ⟨v, h1, .ofRE r.fh r.wh r.wf nd m (.yes h2 h3) h4⟩
/-- the first extra value is moved into a slot -/
theorem R.put (r : R K cm W (some v :: σ) H F (d :: ρ)) {i : Nat} (hi : i < σ.length) : R K cm W (σ.set i (some v)) H F (ρ.set i d) := by
  obtain ⟨fp, e, nd, m⟩ := r.ex
  cases e with
  | no r' =>
    obtain ⟨g, h1, h2⟩ := r'.put (v := v) (d := .hole) hi .hole
    exact .ofRE r.fh r.wh r.wf nd m h1 (by simpa using h2)
  | yes x r' =>
    obtain ⟨g, h1, h2⟩ := r'.put hi x
    exact .ofRE r.fh r.wh r.wf nd m h1 h2
theorem R.back {v : V} {d : D} (r : R K cm W (some v :: σ) H F (d :: ρ)) {i : Nat} (h : σ[i]? = some (some v)) : R K cm W σ H F (ρ.set i d) := by
  obtain ⟨hi, e⟩ := List.getElem?_eq_some_iff.mp h
  have q := r.put hi
  have e2 : σ.set i (some v) = σ := by rw [← e]; exact List.set_getElem_self hi
  rw [e2] at q
  exact q
theorem R.tail {x : Option V} {d : D} (r : R K cm W (x :: σ) H F (d :: ρ)) : R K cm W σ H F ρ := by
  obtain ⟨fp, e, nd, m⟩ := r.ex
  cases e with
  | no r' => exact .ofRE r.fh r.wh r.wf nd m r' (Sub.refl _)
  | yes x r' => exact .ofRE r.fh r.wh r.wf nd m r' (Sub.right _ _)
theorem R.pd (r : R K cm W σ H F ρ) {v : V} {q : P} (h : DP K F v q) : R K cm W (some v :: σ) H F (.pd q :: ρ) := by
  obtain ⟨fp, e, nd, m⟩ := r.ex
  exact .ofRE r.fh r.wh r.wf nd m (.yes (.pd h) e) (Sub.refl _)
theorem R.setPd (r : R K cm W σ H F ρ) {v : V} {q : P} (h : DP K F v q) {i : Nat} (hi : i < σ.length) : R K cm W (σ.set i (some v)) H F (ρ.set i (.pd q)) := (r.pd h).put hi
theorem R.drop (r : R K cm W σ H F ρ) (i : Nat) : R K cm W σ H F (ρ.set i .hole) := by
  obtain ⟨fp, e, nd, m⟩ := r.ex
  obtain ⟨g, h1, h2⟩ := e.drop i
  exact .ofRE r.fh r.wh r.wf nd m h1 h2
theorem R.swap {x y : Option V} {d e : D} (r : R K cm W (x :: y :: σ) H F (d :: e :: ρ)) : R K cm W (y :: x :: σ) H F (e :: d :: ρ) := by
  obtain ⟨fp, h, nd, m⟩ := r.ex
  cases h with
  | no r1 =>
    cases r1 with
    | no r2 => exact .ofRE r.fh r.wh r.wf nd m (.no (.no r2)) (Sub.refl _)
    | yes b r2 => exact .ofRE r.fh r.wh r.wf nd m (.yes b (.no r2)) (Sub.refl _)
  | yes a r1 =>
    cases r1 with
    | no r2 => exact .ofRE r.fh r.wh r.wf nd m (.no (.yes a r2)) (Sub.refl _)
    | yes b r2 => exact .ofRE r.fh r.wh r.wf nd m (.yes b (.yes a r2)) (Sub.swap _ _ _)
end
end HW

namespace HW
open PySem PySem.Spec PyProof.Rows L2
noncomputable section

/-! ### what an expression, a test, a statement reckons -/
abbrev EF := Sl → Option (P × Sl)
abbrev EB := Sl → Option (Bool × Sl)
abbrev ED := Sl → Option (D × Sl)
abbrev EL := Sl → Option (List P × Sl)
def Pu (b : Bool) (ρ ρ' : Sl) (H H' : Hp) : Prop := b = true → ρ' = ρ ∧ Same H H'
theorem Pu.refl {b : Bool} {ρ : Sl} {H : Hp} : Pu b ρ ρ H H := fun _ => ⟨rfl, Same.refl H⟩
theorem Pu.same {b : Bool} {ρ : Sl} {H H' : Hp} (s : Same H H') : Pu b ρ ρ H H' := fun _ => ⟨rfl, s⟩
theorem Pu.trans {a b : Bool} {ρ ρ1 ρ2 : Sl} {H H1 H2 : Hp} (x : Pu a ρ ρ1 H H1) (y : Pu b ρ1 ρ2 H1 H2) : Pu (a && b) ρ ρ2 H H2 := fun h => by
  rw [Bool.and_eq_true] at h
  obtain ⟨e1, s1⟩ := x h.1
  obtain ⟨e2, s2⟩ := y h.2
  exact ⟨e2.trans e1, s1.trans s2⟩
theorem Pu.then {b : Bool} {ρ ρ1 : Sl} {H H1 H2 : Hp} (x : Pu b ρ ρ1 H H1) (s : Same H1 H2) : Pu b ρ ρ1 H H2 := fun h => ⟨(x h).1, (x h).2.trans s⟩

section
variable (K : PySem.W.Frag) (cm : Str → Addr → Prop) (b : Bool)
def tP (f : EF) : TE := fun σ H Q => ∃ W F ρ p ρ', R K cm W σ H F ρ ∧ f ρ = some (p, ρ') ∧ ∀ v H' F', R K cm W σ H' F' ρ' → Same F F' → Pu b ρ ρ' H H' → DP K F' v p → Q v H'
def tA (f : EL) : TA := fun σ H Q => ∃ W F ρ ps ρ', R K cm W σ H F ρ ∧ f ρ = some (ps, ρ') ∧ ∀ vs H' F', R K cm W σ H' F' ρ' → Same F F' → Pu b ρ ρ' H H' → DPs K F' vs ps → Q vs H'
def tT (f : EB) : TT := fun σ H Q => ∃ W F ρ c ρ', R K cm W σ H F ρ ∧ f ρ = some (c, ρ') ∧ ∀ H' F', R K cm W σ H' F' ρ' → Same F F' → Pu b ρ ρ' H H' → Q c H'
/-- a new list of frozen things -/
def tL (f : EL) : TE := fun σ H Q => ∃ W F ρ ps ρ', R K cm W σ H F ρ ∧ f ρ = some (ps, ρ') ∧ ∀ p vs H0 H' F', R K cm W σ H0 F' ρ' → Same F F' → Pu b ρ ρ' H H0 → DPs K F' vs ps → H0 p = none → H' = upd H0 p (.lst vs) → Q (.ref p) H'
def tD (f : ED) : TE := fun σ H Q => ∃ W F ρ d ρ', R K cm W σ H F ρ ∧ f ρ = some (d, ρ') ∧ ∀ v H' F', R K cm W (some v :: σ) H' F' (d :: ρ') → Same F F' → Pu b ρ ρ' H H' → Q v H'
end

section
variable {X : Cx}
theorem PE.imp {e : Expr} {t t' : TE} (h : PE X e t) (m : ∀ σ H Q, t' σ H Q → t σ H Q) : PE X e t' := ⟨fun pins s σ H Q I q => h.run pins s σ H Q I (m _ _ _ q)⟩
theorem PA.imp {e : List Expr} {t t' : TA} (h : PA X e t) (m : ∀ σ H Q, t' σ H Q → t σ H Q) : PA X e t' := ⟨fun pos pins s σ H Q I q => h.run pos pins s σ H Q I (m _ _ _ q)⟩
theorem PT.imp {e : Expr} {t t' : TT} (h : PT X e t) (m : ∀ σ H Q, t' σ H Q → t σ H Q) : PT X e t' := ⟨fun pins s σ H Q I q => h.run pins s σ H Q I (m _ _ _ q)⟩
theorem PW.imp {e : Expr} {t t' : TT} (h : PW X e t) (m : ∀ σ H Q, t' σ H Q → t σ H Q) : PW X e t' := ⟨fun wh pins s σ H Q I q => h.run wh pins s σ H Q I (m _ _ _ q)⟩
theorem PS.imp {e : Stmt} {t t' : TS} (h : PS X e t) (m : ∀ D σ H, t' D σ H → t D σ H) : PS X e t' := ⟨fun pins s σ H D I q => h.run pins s σ H D I (m _ _ _ q)⟩
theorem PSs.imp {e : List Stmt} {t t' : TS} (h : PSs X e t) (m : ∀ D σ H, t' D σ H → t D σ H) : PSs X e t' := ⟨fun pins s σ H D I q => h.run pins s σ H D I (m _ _ _ q)⟩
end

theorem DPs.length {K : PySem.W.Frag} {F : Hp} : ∀ {vs : List V} {ps : List P}, DPs K F vs ps → vs.length = ps.length
  | _, _, .nil => rfl
  | _, _, .cons _ r => by simp [DPs.length r]
theorem DPs.append {K : PySem.W.Frag} {F : Hp} : ∀ {vs us : List V} {ps qs : List P}, DPs K F vs ps → DPs K F us qs → DPs K F (vs ++ us) (ps ++ qs)
  | _, _, _, _, .nil, s => s
  | _, _, _, _, .cons a r, s => .cons a (DPs.append r s)
theorem DPs.get {K : PySem.W.Frag} {F : Hp} : ∀ {vs : List V} {ps : List P} {i : Nat} {p : P}, DPs K F vs ps → ps[i]? = some p → ∃ v, vs[i]? = some v ∧ DP K F v p
  | _, _, _, _, .nil, e => by simp at e
  | _, _, 0, _, .cons a _, e => by simp at e; subst e; exact ⟨_, rfl, a⟩
  | _, _, i + 1, _, .cons _ r, e => by simpa using DPs.get r (by simpa using e)
theorem DPs.getV {K : PySem.W.Frag} {F : Hp} : ∀ {vs : List V} {ps : List P} {i : Nat} {v : V}, DPs K F vs ps → vs[i]? = some v → ∃ p, ps[i]? = some p ∧ DP K F v p
  | _, _, _, _, .nil, e => by simp at e
  | _, _, 0, _, .cons a _, e => by simp at e; subst e; exact ⟨_, rfl, a⟩
  | _, _, i + 1, _, .cons _ r, e => by simpa using DPs.getV r (by simpa using e)
theorem DPs.drop {K : PySem.W.Frag} {F : Hp} : ∀ {vs : List V} {ps : List P} (n : Nat), DPs K F vs ps → DPs K F (vs.drop n) (ps.drop n)
  | _, _, 0, h => h
  | _, _, _ + 1, .nil => .nil
  | _, _, n + 1, .cons _ r => DPs.drop n r
theorem DPs.take {K : PySem.W.Frag} {F : Hp} : ∀ {vs : List V} {ps : List P} (n : Nat), DPs K F vs ps → DPs K F (vs.take n) (ps.take n)
  | _, _, 0, _ => .nil
  | _, _, _ + 1, .nil => .nil
  | _, _, n + 1, .cons a r => .cons a (DPs.take n r)
theorem DPs.set {K : PySem.W.Frag} {F : Hp} {v : V} {p : P} (h : DP K F v p) : ∀ {vs : List V} {ps : List P} (n : Nat), DPs K F vs ps → DPs K F (vs.set n v) (ps.set n p)
  | _, _, _, .nil => .nil
  | _, _, 0, .cons _ r => .cons h r
  | _, _, n + 1, .cons a r => .cons a (DPs.set h n r)
theorem DPs.reverse {K : PySem.W.Frag} {F : Hp} : ∀ {vs : List V} {ps : List P}, DPs K F vs ps → DPs K F vs.reverse ps.reverse
  | _, _, .nil => .nil
  | _, _, .cons a r => by
    rw [List.reverse_cons, List.reverse_cons]; exact (DPs.reverse r).append (.cons a .nil)
theorem DPs.rep {K : PySem.W.Frag} {F : Hp} {vs : List V} {ps : List P} (h : DPs K F vs ps) : ∀ k : Nat, DPs K F (List.replicate k vs).flatten (List.replicate k ps).flatten
  | 0 => .nil
  | k + 1 => by
    rw [List.replicate_succ, List.flatten_cons, List.replicate_succ, List.flatten_cons]
    exact h.append (DPs.rep h k)

/-! ### names, constants -/
def dC (p : P) : EF := fun ρ => some (p, ρ)
def dV (i : Nat) : EF := fun ρ => match ρ[i]? with
  | some (.pd p) => some (p, ρ)
  | _ => none
section
variable {X : Cx} {cm : Str → Addr → Prop} {W : Hp} {pos : Pos}
theorem xc {e : Expr} {v : V} {p : P} (h : PE X e (tC v)) (hv : ∀ F, DP X.K F v p) : PE X e (tP X.K cm true (dC p)) :=
  PE.imp h fun σ H Q ⟨W, F, ρ, q, ρ', r, e, k⟩ => by
    cases e
    exact k v H F r (Same.refl F) Pu.refl (hv F)
theorem x_int {i j} : PE X (.Constant (.int i) j pos) (tP X.K cm true (dC (.int i))) := xc pe_int fun _ => .int i
theorem x_bl {i j} : PE X (.Constant (.bool i) j pos) (tP X.K cm true (dC (.bool i))) := xc pe_bl fun _ => .bl i
theorem x_non {j} : PE X (.Constant .none j pos) (tP X.K cm true (dC .none)) := xc pe_non fun _ => .non
theorem x_str {x j} : PE X (.Constant (.str x) j pos) (tP X.K cm true (dC (.str x))) := xc pe_str fun _ => .str x
theorem dV_some {i : Nat} {ρ ρ' : Sl} {p : P} (h : dV i ρ = some (p, ρ')) : ρ[i]? = some (.pd p) ∧ ρ' = ρ := by
  unfold dV at h
  split at h
  · rename_i q e
    cases h
    exact ⟨e, rfl⟩
  · cases h
theorem xv (i : Nat) {x : Str} {pos : Pos} (hN : X.N[i]? = some x := by rfl) (hv : Vis X.env.scope x := by first | exact Or.inl rfl | exact Or.inr (Or.inl rfl) | exact Or.inr (Or.inr rfl)) (hd : (x == ("__debug__" : Str)) = false := by decide)
    (hcd : (x == ("__classdict__" : Str)) = false := by decide) : PE X (.Name x pos) (tP X.K cm true (dV i)) :=
  PE.imp (pe_var hN hv hd hcd) fun σ H Q ⟨W, F, ρ, p, ρ', r, e, k⟩ => by
    obtain ⟨e1, rfl⟩ := dV_some e
    obtain ⟨v, h1, h2⟩ := r.get e1
    exact ⟨v, h1, k v H F r (Same.refl F) Pu.refl h2⟩

/-! ### two-place operations -/
def dBin (g : P → P → Option P) (f1 f2 : EF) : EF := fun ρ => (f1 ρ).bind fun x => (f2 x.2).bind fun y => (g x.1 y.1).map fun z => (z, y.2)
def VOp (K : PySem.W.Frag) (cm : Str → Addr → Prop) (r : R2) (g : P → P → Option P) : Prop :=
  ∀ {W : Hp} {σ : L2.St} {H F : Hp} {ρ : Sl} {v u : V} {p q z : P} {Q : VK}, R K cm W σ H F ρ → DP K F v p → DP K F u q → g p q = some z →
    (∀ w H' F', R K cm W σ H' F' ρ → Same F F' → Same H H' → DP K F' w z → Q w H') → r v u H Q
theorem bin_imp {r : R2} {g : P → P → Option P} {f1 f2 : EF} {b1 b2 : Bool} (hv : VOp X.K cm r g) : ∀ σ H Q, tP X.K cm (b1 && b2) (dBin g f1 f2) σ H Q → tOp r (tP X.K cm b1 f1) (tP X.K cm b2 f2) σ H Q := by
  rintro σ H Q ⟨W, F, ρ, p, ρ', r, e, k⟩
  simp only [dBin, Option.bind_eq_some_iff, Option.map_eq_some_iff] at e
  obtain ⟨⟨p1, ρ1⟩, e1, ⟨p2, ρ2⟩, e2, z, e3, e4⟩ := e
  cases e4
  refine ⟨W, F, ρ, p1, ρ1, r, e1, fun v H1 F1 r1 s1 u1 d1 => ⟨W, F1, ρ1, p2, ρ2, r1, e2, fun u H2 F2 r2 s2 u2 d2 => ?_⟩⟩
  exact hv r2 (DP.mono d1 s2) d2 e3 fun w H' F' r3 s3 s4 d3 => k w H' F' r3 ((s1.trans s2).trans s3) ((u1.trans u2).then s4) d3
theorem x_bin {op : Operator} {r : R2} {g : P → P → Option P} {f1 f2 : EF} {b1 b2 : Bool} {a c : Expr} (ho : OpR X (binaryOp op) r) (hv : VOp X.K cm r g) (ha : PE X a (tP X.K cm b1 f1)) (hb : PE X c (tP X.K cm b2 f2)) :
    PE X (.BinOp a op c pos) (tP X.K cm (b1 && b2) (dBin g f1 f2)) := PE.imp (pe_op ho ha hb) (bin_imp hv)

/-! lists that are frozen -/
theorem Inv.lstR {pins : List (Addr × Obj)} {σ : L2.St} {H : Hp} {s : Shared} {l : Addr} {xs : List V} (I : Inv X pins σ H s) (hH : LK X.K H l xs) : xs.length ≤ sizeLine ∧ ∃ (its : List Value) (n : Nat), Vals xs its ∧ xs.length = its.length ∧ s.heap.get? l = some { cls := .type "list", data := .seq its.toArray n } := by
  rcases hH with hH | ⟨its, n, hk, hz, r⟩
  · obtain ⟨z, its, n, r, e⟩ := hH.ok I.hok
    exact ⟨z, its,
          n, r, r.length, e⟩
  · exact ⟨by rw [r.length, Array.length_toList]; exact hz, its.toList, n, r, r.length, I.kIn _ _ hk⟩
def rCatR (K : PySem.W.Frag) : R2 := fun x y H Q => ∃ l b xs zs, x = .ref l ∧ y = .ref b ∧ LK K H l xs ∧ LK K H b zs ∧ xs.length + zs.length ≤ sizeLine ∧ ∀ p, H p = none → Q (.ref p) (upd H p (.lst (xs ++ zs)))
theorem op_catR : OpR X (binaryOp .Add) (rCatR X.K) := by
  intro pins s σ H x y v u Q I rx ry h; obtain ⟨l, b, xs, zs, rfl, rfl, zhH, zhB, zhz, q⟩ := h
  cases rx
  cases ry
  obtain ⟨z, its, n, r, zhl, e⟩ := HW.Inv.lstR I zhH
  obtain ⟨z2, its2, n2, r2, zhl2, e2⟩ := HW.Inv.lstR I zhB
  refine PySem.P.add_list e e2 ?_ (by rw
        [List.size_toArray, List.size_toArray]; omega)
  have ea : its.toArray ++ its2.toArray = (its
        ++ its2).toArray := by simp
  rw [ea]
  exact ⟨.ref _, _, I.lnew (t' := s.toks) (r.append r2)
        (by rw [List.length_append]; omega), rfl, q _ I.fresh⟩
def rRepR (K : PySem.W.Frag) : R2 := fun x y H Q => ∃ l k xs, x = .ref l ∧ y = .int k ∧ LK K H l xs ∧ -(2 ^ 63) ≤ k ∧ k < 2 ^ 63 ∧ xs.length * k.toNat ≤ sizeLine ∧
  ∀ p, H p = none → Q (.ref p) (upd H p
        (.lst (List.replicate k.toNat xs).flatten))
theorem op_repR : OpR X (binaryOp .Mult) (rRepR X.K) := by
  intro pins s σ H x y v u Q I rx ry h; obtain ⟨l, k, xs, rfl, rfl, zhH, zh1, zh2, zhz, q⟩ := h
  cases rx
  obtain ⟨t, rfl⟩ := ry
  obtain ⟨z, its, n, r, zhl, e⟩ := HW.Inv.lstR I zhH
  have zhlen : its.toArray.size * k.toNat ≤ sizeLine := by rw [List.size_toArray, ← zhl]; exact zhz
  have zhcap : ¬ its.toArray.size * k.toNat > (2 ^ 63 - 1) / 8 := by
    have : (sizeLine : Nat) ≤ (2
          ^ 63 - 1) / 8 := by decide
    omega
  have zhfit : ¬ (!Builtin.List.listFitsIndex k) = true := by
    rw [fitsIndex_both zh1 zh2]
    exact Bool.false_ne_true
  have zhlong : ¬ Builtin.List.listTooLong (its.toArray.size * k.toNat) = true := by
    rw [notLongL zhlen]
    exact Bool.false_ne_true
  have zhnew : List.foldl (fun x1 x2 => x1 ++ x2) #[] (List.replicate (if its.toArray.isEmpty = true then 0 else k.toNat) its.toArray) = (List.replicate k.toNat its).flatten.toArray := by
    have f0 : ∀ m : Nat, List.foldl (fun x1 x2 => x1 ++ x2) #[] (List.replicate
          m its.toArray) = (List.replicate m its).flatten.toArray := fun m => by
      have := foldl_rep its m []
      rw [List.nil_append] at this
      exact this
    rw [f0]
    cases its with
    | nil => simp
    | cons a r' => rw [if_neg
          (by simp)]
  refine wpAny_binaryOp_repeat_ref (T := "list") (U := "int") (by decide) ⟨_, e, rfl⟩ (fun s' =>
        typeIs_int s' k t) noFill_list_mul F.fills_int_mul F.slot_int_rmul repeat_list F.slot_int_index.lookup
    (call_meets F.slot_int_rmul (typeIs_int s k t) F.entry_int_rmul
          (F.args_int_rmul_2 _ _) (int___rmul___int_list k t l its.toArray n)
      ⟨e, rfl, ⟨_, e, rfl⟩, call_meets F.slot_list_mul ⟨_, e, rfl⟩ F.entry_list_mul (F.args_list_mul_2 _ _) (AutoListH.list___mul___list_int_3 l its.toArray n k t zhfit zhcap zhlong) ⟨e, ?_⟩⟩)
  rw [zhnew]
  exact ⟨.ref _, _, I.lnew (t' := s.toks) (r.rep k.toNat) (by rw [PyProof.Rows.lm_len_rep_flat, Nat.mul_comm]; exact zhz), rfl, q _ I.fresh⟩
end

/-! ### the operations on data -/
def addP : P → P → Option P
  | .int i, .int j => some (.int (i + j))
  | .str x, .str y => if x.length + y.length ≤ 16777216 then some (.str (x ++ y)) else none
  | .list xs, .list ys => if xs.length + ys.length ≤ 16777216 then some (.list (xs ++ ys)) else none
  | .tuple xs, .tuple ys => if xs.length + ys.length ≤ 16777216 then some (.tuple (xs ++ ys)) else none
  | _, _ => none
def subP : P → P → Option P
  | .int i, .int j => some (.int (i - j))
  | _, _ => none
def mulP : P → P → Option P
  | .int i, .int j => @ite _ ((-(2 ^ 64) < i ∧ i < 2 ^ 64) ∨ (-(2 ^ 64) < j ∧ j < 2 ^ 64)) (Classical.propDecidable _) (some (.int (i * j))) none
  | .list xs, .int k => @ite _ (-(2 ^ 63) ≤ k ∧ k < 2 ^ 63 ∧ xs.length * k.toNat ≤ 16777216) (Classical.propDecidable _) (some (.list (List.replicate k.toNat xs).flatten)) none
  | _, _ => none
def fdivP : P → P → Option P
  | .int i, .int j => @ite _ (0 < j ∧ j < 1073741824) (Classical.propDecidable _) (some (.int (i / j))) none
  | _, _ => none
def modP : P → P → Option P
  | .int i, .int j => @ite _ (0 < j) (Classical.propDecidable _) (some (.int (i % j))) none
  | _, _ => none
def powP : P → P → Option P
  | .int i, .int j => @ite _ (0 ≤ j ∧ j ≤ 1000000 ∧ i.natAbs < 2 ^ 64) (Classical.propDecidable _) (some (.int (i ^ j.toNat))) none
  | _, _ => none

section
variable {K : PySem.W.Frag} {cm : Str → Addr → Prop} {W : Hp}
theorem laid_lst {σ : L2.St} {H F : Hp} {ρ : Sl} {vs : List V} {ps : List P} {p : Addr} (h : DPs K F vs ps) (hp : F p = none) : DP K (upd F p (.lst vs)) (.ref p) (.list ps) :=
  .lst (.inl (.inl upd_same)) (DPs.mono h (same_upd hp))
theorem laid_tup {σ : L2.St} {H F : Hp} {ρ : Sl} {vs : List V} {ps : List P} {p : Addr} (h : DPs K F vs ps) (hp : F p = none) : DP K (upd F p (.tup vs)) (.ref p) (.tuple ps) :=
  .tup (.inl (.inl upd_same)) (DPs.mono h (same_upd hp))
theorem vop_I0 {r : R2} {g : P → P → Option P} {f : Int → Int → Int} (hg : ∀ p q z, g p q = some z → ∃ i j, p = .int i ∧ q = .int j ∧ z = .int (f i j))
    : VOp K cm (rI0 fun i j => .int (f i j)) g := by
  intro W σ H F ρ v u p q z Q r d1 d2 e k
  obtain ⟨i, j, rfl, rfl, rfl⟩ := hg _ _ _ e
  cases d1
  cases d2
  exact ⟨i, j, rfl, rfl, k _ H F r (Same.refl F) (Same.refl H) (.int _)⟩
theorem vop_I {C : Int → Int → Prop} {g : P → P → Option P} {f : Int → Int → Int} (hg : ∀ p q z, g p q = some z → ∃ i j, p = .int i ∧ q = .int j ∧ C i j ∧ z = .int (f i j))
    : VOp K cm (rI C fun i j => .int (f i j)) g := by
  intro W σ H F ρ v u p q z Q r d1 d2 e k
  obtain ⟨i, j, rfl, rfl, hc, rfl⟩ := hg _ _ _ e
  cases d1
  cases d2
  exact ⟨i, j, rfl, rfl, hc, k _ H F r (Same.refl F) (Same.refl H) (.int _)⟩
abbrev rAddA (K : PySem.W.Frag) : R2 := fun x y H Q => rI0 (fun i j => .int (i + j)) x y H Q ∨ ((∃ i j, x = .str i ∧ y = .str j ∧ i.length + j.length ≤ sizeLine ∧ Q (.str (i ++ j)) H) ∨ (rCatR K x y H Q ∨ rCatA K x y H Q))
theorem op_addA {X : Cx} : OpR X (binaryOp .Add) (rAddA X.K) := op_add.or (op_add_str.or (op_catR.or op_catA))
theorem vop_add : VOp K cm (rAddA K) addP := by
  intro W σ H F ρ v u p q z Q r d1 d2 e k
  cases d1 <;> cases d2 <;> simp only [addP, reduceCtorEq] at e
  · cases e
    exact .inl ⟨_, _, rfl, rfl, k _ H F r (Same.refl F) (Same.refl H) (.int _)⟩
  · split at e
    · rename_i hz
      cases e
      exact .inr (.inl ⟨_, _, rfl, rfl, by rw [sizeLine_eq]; exact hz, k _ H F r (Same.refl F) (Same.refl H) (.str _)⟩)
    · cases e
  · rename_i a xs ps h1 h2 a' xs' ps' h3 h4
    split at e
    · rename_i hz
      cases e
      refine .inr (.inr (.inl ⟨_, _, _, _, rfl, rfl, LK.mono h1 r.fh, LK.mono h3 r.fh, by rw [sizeLine_eq, DPs.length h2, DPs.length h4]; exact hz, fun p hp => ?_⟩))
      have fp := r.fh.free hp
      exact k _ _ _ (r.laid hp) (same_upd fp) (same_upd hp) (laid_lst (σ := σ) (H := H) (ρ := ρ) (h2.append h4) fp)
    · cases e
  · rename_i a xs ps h1 h2 a' xs' ps' h3 h4
    split at e
    · rename_i hz
      cases e
      refine .inr (.inr (.inr ⟨_, _, _, _, rfl, rfl, SqT.mono h1 r.fh, SqT.mono h3 r.fh, by rw [sizeLine_eq, DPs.length h2, DPs.length h4]; exact hz, fun e => ?_, fun _ e => ?_, fun _ _ p hp => ?_⟩))
      · subst e
        cases h2
        exact k _ H F r (Same.refl F) (Same.refl H) (.tup h3 h4)
      · subst e
        cases h4
        rw [List.append_nil] at k
        exact k _ H F r (Same.refl F) (Same.refl H) (.tup h1 h2)
      · have fp := r.fh.free hp
        exact k _ _ _ (r.laid hp) (same_upd fp) (same_upd hp) (laid_tup (σ := σ) (H := H) (ρ := ρ) (h2.append h4) fp)
    · cases e
theorem vop_sub : VOp K cm (rI0 fun i j => .int (i - j)) subP := vop_I0 (r := rI0 fun i j => .int (i - j)) fun p q z e => by
  cases p <;> cases q <;> simp only [subP, reduceCtorEq] at e
  cases e
  exact ⟨_, _, rfl, rfl, rfl⟩
abbrev rMulA (K : PySem.W.Frag) : R2 := fun x y H Q => rI CMul (fun i j => .int (i * j)) x y H Q ∨ rRepR K x y H Q
theorem op_mulA {X : Cx} : OpR X (binaryOp .Mult) (rMulA X.K) := op_mul.or op_repR
theorem vop_mul : VOp K cm (rMulA K) mulP := by
  intro W σ H F ρ v u p q z Q r d1 d2 e k
  cases d1 <;> cases d2 <;> simp only [mulP, reduceCtorEq] at e
  · split at e
    · rename_i hz
      cases e
      exact .inl ⟨_, _, rfl, rfl, hz, k _ H F r (Same.refl F) (Same.refl H) (.int _)⟩
    · cases e
  · rename_i a xs ps h1 h2 k'
    split at e
    · rename_i hz
      cases e
      refine .inr ⟨_, _, _, rfl, rfl, LK.mono h1 r.fh, hz.1, hz.2.1, by rw [sizeLine_eq, DPs.length h2]; exact hz.2.2, fun p hp => ?_⟩
      have fp := r.fh.free hp
      exact k _ _ _ (r.laid hp) (same_upd fp) (same_upd hp) (laid_lst (σ := σ) (H := H) (ρ := ρ) (h2.rep _) fp)
    · cases e
theorem vop_fdiv : VOp K cm (rI CDiv fun i j => .int (i / j)) fdivP := vop_I fun p q z e => by
  cases p <;> cases q <;> simp only [fdivP, reduceCtorEq] at e
  split at e
  · rename_i hz
    cases e
    exact ⟨_, _, rfl, rfl, hz, rfl⟩
  · cases e
theorem vop_mod : VOp K cm (rI (fun _ j => 0 < j) fun i j => .int (i % j)) modP := vop_I fun p q z e => by
  cases p <;> cases q <;> simp only [modP, reduceCtorEq] at e
  split at e
  · rename_i hz
    cases e
    exact ⟨_, _, rfl, rfl, hz, rfl⟩
  · cases e
theorem vop_pow : VOp K cm (rI CPow fun i j => .int (i ^ j.toNat)) powP := vop_I fun p q z e => by
  cases p <;> cases q <;> simp only [powP, reduceCtorEq] at e
  split at e
  · rename_i hz
    cases e
    exact ⟨_, _, rfl, rfl, hz, rfl⟩
  · cases e
end
section
variable {X : Cx} {cm : Str → Addr → Prop} {W : Hp} {pos : Pos} {a c : Expr} {f1 f2 : EF} {b1 b2 : Bool}
theorem x_add (ha : PE X a (tP X.K cm b1 f1)) (hb : PE X c (tP X.K cm b2 f2)) : PE X (.BinOp a .Add c pos) (tP X.K cm (b1 && b2) (dBin addP f1 f2)) := x_bin op_addA vop_add ha hb
theorem x_sub (ha : PE X a (tP X.K cm b1 f1)) (hb : PE X c (tP X.K cm b2 f2)) : PE X (.BinOp a .Sub c pos) (tP X.K cm (b1 && b2) (dBin subP f1 f2)) := x_bin op_sub vop_sub ha hb
theorem x_mul (ha : PE X a (tP X.K cm b1 f1)) (hb : PE X c (tP X.K cm b2 f2)) : PE X (.BinOp a .Mult c pos) (tP X.K cm (b1 && b2) (dBin mulP f1 f2)) := x_bin op_mulA vop_mul ha hb
theorem x_fdiv (ha : PE X a (tP X.K cm b1 f1)) (hb : PE X c (tP X.K cm b2 f2)) : PE X (.BinOp a .FloorDiv c pos) (tP X.K cm (b1 && b2) (dBin fdivP f1 f2)) := x_bin op_fdiv vop_fdiv ha hb
theorem x_mod (ha : PE X a (tP X.K cm b1 f1)) (hb : PE X c (tP X.K cm b2 f2)) : PE X (.BinOp a .Mod c pos) (tP X.K cm (b1 && b2) (dBin modP f1 f2)) := x_bin op_mod vop_mod ha hb
theorem x_pow (ha : PE X a (tP X.K cm b1 f1)) (hb : PE X c (tP X.K cm b2 f2)) : PE X (.BinOp a .Pow c pos) (tP X.K cm (b1 && b2) (dBin powP f1 f2)) := x_bin op_pow vop_pow ha hb
/-- - a -/
def negP : P → Option P
  | .int i => some (.int (-i))
  | _ => none
def dUn (g : P → Option P) (f : EF) : EF := fun ρ => (f ρ).bind fun x => (g x.1).map fun z => (z, x.2)
theorem x_neg (ha : PE X a (tP X.K cm b1 f1)) : PE X (.UnaryOp .USub a pos) (tP X.K cm b1 (dUn negP f1)) :=
  PE.imp (pe_un un_neg ha) fun σ H Q ⟨W, F, ρ, p, ρ', r, e, k⟩ => by
    simp only [dUn, Option.bind_eq_some_iff, Option.map_eq_some_iff] at e
    obtain ⟨⟨p1, ρ1⟩, e1, z, e3, e4⟩ := e
    cases e4
    refine ⟨W, F, ρ, p1, ρ1, r, e1, fun v H1 F1 r1 s1 u1 d1 => ?_⟩
    cases d1 <;> simp only [negP, reduceCtorEq] at e3
    cases e3
    exact ⟨_, rfl, k _ H1 F1 r1 s1 u1 (.int _)⟩
end
end
end HW

namespace HW
open PySem PySem.Spec PyProof.Rows L2
noncomputable section

/-! ### comparisons of data -/
def flatP : P → Bool
  | .none => true
  | .bool _ => true
  | .int _ => true
  | .str _ => true
  | _ => false
/-- the depth of the less deep one is small -/
def shal (p q : P) : Bool := Nat.ble (min p.depth q.depth) 100
def eqP (p q : P) : Option Bool := if shal p q then some (PyData.eqv p q) else none
def neP (p q : P) : Option Bool := (eqP p q).map (!·)
def notNon : P → Bool
  | .none => false
  | _ => true
def ordP (f : P → P → Bool) (p q : P) : Option Bool := if (PySem.W.alike p q && shal p q) && notNon p then some (f p q) else none
def ltP : P → P → Option Bool
  | .int i, .int j => some (decide (i < j))
  | p, q => ordP (fun p q => PySem.W.dataLt p q) p q
def gtP : P → P → Option Bool
  | .int i, .int j => some (decide (j < i))
  | p, q => ordP (fun p q => PySem.W.dataLt q p) p q
def leP : P → P → Option Bool
  | .int i, .int j => some (decide (i ≤ j))
  | p, q => ordP (fun p q => !PySem.W.dataLt q p) p q
def geP : P → P → Option Bool
  | .int i, .int j => some (decide (j ≤ i))
  | p, q => ordP (fun p q => !PySem.W.dataLt p q) p q
def inP : P → P → Option Bool
  | x, .list ds => if Nat.ble (min (PyData.depthAll ds) x.depth) 100 then some (ds.any fun z => PyData.eqv z x) else none
  | x, .tuple ds => if Nat.ble (min (PyData.depthAll ds) x.depth) 100 then some (ds.any fun z => PyData.eqv z x) else none
  | .str x, .str z => match x.cps.toList with
    | [c] => some (decide (c ∈ z.cps.toList))
    | _ => none
  | _, _ => none
def ninP (p q : P) : Option Bool := (inP p q).map (!·)
def isNP : P → Bool
  | .none => true
  | _ => false

section
variable {K : PySem.W.Frag} {cm : Str → Addr → Prop} {W : Hp} {F H : Hp}
/-- a comparison's rule, by data -/
def COp (K : PySem.W.Frag) (cm : Str → Addr → Prop) (r : R2) (g : P → P → Option Bool) : Prop :=
  ∀ {W : Hp} {σ : L2.St} {H F : Hp} {ρ : Sl} {v u : V} {p q : P} {c : Bool} {Q : VK}, R K cm W σ H F ρ → DP K F v p → DP K F u q → g p q = some c → Q (.bl c) H → r v u H Q
theorem COp.vop {r : R2} {g : P → P → Option Bool} (h : COp K cm r g) : VOp K cm r (fun p q => (g p q).map .bool) := by
  intro W σ H F ρ v u p q z Q r d1 d2 e k
  obtain ⟨c, e1, rfl⟩ := Option.map_eq_some_iff.mp e
  exact h r d1 d2 e1 (k _ H F r (Same.refl F) (Same.refl H) (.bl c))
/-- a comparison of data -/
def rDat (K : PySem.W.Frag) (g : P → P → Option Bool) : R2 := fun x y H Q => ∃ p q c, Dp K H x p ∧ Dp K H y q ∧ g p q = some c ∧ Q (.bl c) H
theorem cop_dat {g : P → P → Option Bool} : COp K cm (rDat K g) g := fun {W σ H F ρ v u p q c Q} r d1 d2 e k => ⟨p, q, c, (DP.mono d1 r.fh).dp, (DP.mono d2 r.fh).dp, e, k⟩
mutual
theorem dp_plain : ∀ {v : V} {p : P}, Dp K H v p → p.plain = true
  | _, _, .non => rfl
  | _, _, .bl _ => rfl
  | _, _, .int _ => rfl
  | _, _, .str _ => rfl
  | _, _, .lst _ h => by simp only [PyData.plain]; exact dps_plain h
  | _, _, .tup _ h => by simp only [PyData.plain]; exact dps_plain h
theorem dps_plain : ∀ {vs : List V} {ps : List P}, DpAll K H vs ps → PyData.plainAll ps = true
  | _, _, .nil => rfl
  | _, _, .cons a b => by simp only [PyData.plainAll, dp_plain a, dps_plain b, Bool.and_self]
end
theorem one_sign {x : Str} {c : Nat} (h : x.cps.toList = [c]) : x = ⟨#[c]⟩ := by
  cases x with
  | mk a => cases a with | mk l => simp at h; subst h; rfl
end
abbrev HU (X : Cx) : Prop := X.A.units + 150 < cLine
section
variable {X : Cx}
theorem op_eqD' (hu : HU X) : OpR X (compareOp .Eq) (rDat X.K eqP) := by
  intro pins s σ H x y v u Q I rx ry ⟨p, q, c, d1, d2, e, k⟩
  obtain ⟨as, r1⟩ := Dp.reads I p x v d1 rx
  obtain ⟨bs, r2⟩ := Dp.reads I q y u d2 ry
  unfold eqP at e
  split at e
  · rename_i hd
    cases e
    have hd := Nat.le_of_ble_eq_true hd
    exact SeqAt.eq_plain r1 r2 (dp_plain d1) (dp_plain d2) (by have : X.A.units + 150 < cLine := hu; omega) ⟨.bl _, H, I, rfl, k⟩
  · cases e
theorem op_neD' (hu : HU X) : OpR X (compareOp .NotEq) (rDat X.K neP) := by
  intro pins s σ H x y v u Q I rx ry ⟨p, q, c, d1, d2, e, k⟩
  obtain ⟨as, r1⟩ := Dp.reads I p x v d1 rx
  obtain ⟨bs, r2⟩ := Dp.reads I q y u d2 ry
  unfold neP eqP at e
  split at e
  · rename_i hd
    cases e
    have hd := Nat.le_of_ble_eq_true hd
    exact SeqAt.ne_plain r1 r2 (dp_plain d1) (dp_plain d2) (by have : X.A.units + 150 < cLine := hu; omega) ⟨.bl _, H, I, rfl, k⟩
  · cases e
theorem ordP_some {f : P → P → Bool} {p q : P} {c : Bool} (e : ordP f p q = some c) : PySem.W.alike p q = true ∧ p ≠ .none ∧ min p.depth q.depth ≤ 100 ∧ c = f p q := by
  unfold ordP at e
  split at e
  · rename_i h
    cases e
    simp only [Bool.and_eq_true] at h
    exact ⟨h.1.1, fun z => by subst z; exact Bool.noConfusion h.2, Nat.le_of_ble_eq_true h.1.2, rfl⟩
  · cases e
theorem ord_op {op : CmpOp} {f : P → P → Bool} {gi : Int → Int → Bool} {g : P → P → Option Bool} (hg : ∀ p q c, g p q = some c → (∃ i j, p = .int i ∧ q = .int j ∧ c = gi i j) ∨ ordP f p q = some c) (hi : ∀ i j, f (.int i) (.int j) = gi i j)
    (hf : ∀ (s : Shared) (a b : Value) (p q : P) (as bs : List Addr) (Q : Value → Shared → Prop), Reads s.heap a p as → Reads s.heap b q bs → PySem.W.alike p q = true → p ≠ .none → X.A.units + min p.depth q.depth < cLine → Q (.bool (f p q)) s → wpAny (model X.prog X.w) X.A (compareOp op a b) Q X.xe s)
    (hu : HU X) : OpR X (compareOp op) (rDat X.K g) := by
  intro pins s σ H x y v u Q I rx ry ⟨p, q, c, d1, d2, e, k⟩
  obtain ⟨as, r1⟩ := Dp.reads I p x v d1 rx
  obtain ⟨bs, r2⟩ := Dp.reads I q y u d2 ry
  have hu' : X.A.units + 150 < cLine := hu
  rcases hg p q c e with ⟨i, j, rfl, rfl, rfl⟩ | e
  · refine hf s v u _ _ as bs _ r1 r2 (by simp only [PySem.W.alike]) (fun z => by cases z) (by simp only [PyData.depth]; omega) ?_
    rw [hi]
    exact ⟨.bl _, H, I, rfl, k⟩
  · obtain ⟨h1, h2, h3, rfl⟩ := ordP_some e
    exact hf s v u p q as bs _ r1 r2 h1 h2 (by omega) ⟨.bl _, H, I, rfl, k⟩
theorem op_ltD (hu : HU X) : OpR X (compareOp .Lt) (rDat X.K ltP) :=
  ord_op (f := fun p q => PySem.W.dataLt p q) (gi := fun i j => decide (i < j)) (fun p q c e => by unfold ltP at e; split at e; exact .inl ⟨_, _, rfl, rfl, by cases e; rfl⟩; exact .inr e) (fun i j => PySem.W.dataLt_int i j)
    (fun s a b p q as bs Q r1 r2 h1 h2 h3 k => PySem.W.lt_data r1 r2 h1 h2 h3 k) hu
theorem op_gtD (hu : HU X) : OpR X (compareOp .Gt) (rDat X.K gtP) :=
  ord_op (f := fun p q => PySem.W.dataLt q p) (gi := fun i j => decide (j < i)) (fun p q c e => by unfold gtP at e; split at e; exact .inl ⟨_, _, rfl, rfl, by cases e; rfl⟩; exact .inr e) (fun i j => PySem.W.dataLt_int j i)
    (fun s a b p q as bs Q r1 r2 h1 h2 h3 k => PySem.W.gt_data r1 r2 h1 h2 h3 k) hu
theorem op_leD (hu : HU X) : OpR X (compareOp .LtE) (rDat X.K leP) :=
  ord_op (f := fun p q => !PySem.W.dataLt q p) (gi := fun i j => decide (i ≤ j)) (fun p q c e => by unfold leP at e; split at e; exact .inl ⟨_, _, rfl, rfl, by cases e; rfl⟩; exact .inr e) (fun i j => by rw [PySem.W.dataLt_int]; by_cases h : j < i <;> simp [h] <;> omega)
    (fun s a b p q as bs Q r1 r2 h1 h2 h3 k => PySem.W.le_data r1 r2 h1 h2 h3 k) hu
theorem op_geD (hu : HU X) : OpR X (compareOp .GtE) (rDat X.K geP) :=
  ord_op (f := fun p q => !PySem.W.dataLt p q) (gi := fun i j => decide (j ≤ i)) (fun p q c e => by unfold geP at e; split at e; exact .inl ⟨_, _, rfl, rfl, by cases e; rfl⟩; exact .inr e) (fun i j => by rw [PySem.W.dataLt_int]; by_cases h : i < j <;> simp [h] <;> omega)
    (fun s a b p q as bs Q r1 r2 h1 h2 h3 k => PySem.W.ge_data r1 r2 h1 h2 h3 k) hu
theorem inP_cases {p q : P} {c : Bool} (e : inP p q = some c) : (∃ ds, q = .list ds ∧ min (PyData.depthAll ds) p.depth ≤ 100 ∧ c = ds.any fun z => PyData.eqv z p) ∨ (∃ ds, q = .tuple ds ∧ min (PyData.depthAll ds) p.depth ≤ 100 ∧ c = ds.any fun z => PyData.eqv z p) ∨
    ∃ ch z, p = .str ⟨#[ch]⟩ ∧ q = .str z ∧ c = decide (ch ∈ z.cps.toList) := by
  cases q with
  | list ds =>
    have e' : (if Nat.ble (min (PyData.depthAll ds) p.depth) 100 then some (ds.any fun z => PyData.eqv z p) else none) = some c := by cases p <;> exact e
    split at e'
    · cases e'; exact .inl ⟨ds, rfl, Nat.le_of_ble_eq_true (by assumption), rfl⟩
    · cases e'
  | tuple ds =>
    have e' : (if Nat.ble (min (PyData.depthAll ds) p.depth) 100 then some (ds.any fun z => PyData.eqv z p) else none) = some c := by cases p <;> exact e
    split at e'
    · cases e'; exact .inr (.inl ⟨ds, rfl, Nat.le_of_ble_eq_true (by assumption), rfl⟩)
    · cases e'
  | str z =>
    cases p <;> simp only [inP, reduceCtorEq] at e
    rename_i x
    split at e
    · rename_i ch hx
      cases e
      obtain rfl := one_sign hx
      exact .inr (.inr ⟨ch, z, rfl, rfl, rfl⟩)
    · cases e
  | _ => cases p <;> simp only [inP, reduceCtorEq] at e
theorem op_inX (hu : HU X) : OpR X (compareOp .In) (rDat X.K inP) := by
  intro pins s σ H x y v u Q I rx ry ⟨p, q, c, d1, d2, e, k⟩
  have hu' : X.A.units + 150 < cLine := hu
  rcases inP_cases e with ⟨ds, rfl, hd, rfl⟩ | ⟨ds, rfl, hd, rfl⟩ | ⟨ch, z, rfl, rfl, rfl⟩
  · obtain ⟨as, r1⟩ := Dp.reads I p x v d1 rx
    obtain ⟨bs, r2⟩ := Dp.reads I _ y u d2 ry
    exact SeqAt.in_list_data r2 r1 (by have := dp_plain d2; simpa only [PyData.plain] using this) (dp_plain d1) (by omega) ⟨.bl _, H, I, rfl, k⟩
  · obtain ⟨as, r1⟩ := Dp.reads I p x v d1 rx
    obtain ⟨bs, r2⟩ := Dp.reads I _ y u d2 ry
    exact SeqAt.in_tuple_data r2 r1 (by have := dp_plain d2; simpa only [PyData.plain] using this) (dp_plain d1) (by omega) ⟨.bl _, H, I, rfl, k⟩
  · cases d1
    cases d2
    exact op_in_sign pins s σ H _ _ v u Q I rx ry ⟨ch, z, rfl, rfl, k⟩
theorem op_ninX (hu : HU X) : OpR X (compareOp .NotIn) (rDat X.K ninP) := by
  intro pins s σ H x y v u Q I rx ry ⟨p, q, c, d1, d2, e, k⟩
  have hu' : X.A.units + 150 < cLine := hu
  obtain ⟨c', e', rfl⟩ := Option.map_eq_some_iff.mp (show (inP p q).map (!·) = some c from e)
  rcases inP_cases e' with ⟨ds, rfl, hd, rfl⟩ | ⟨ds, rfl, hd, rfl⟩ | ⟨ch, z, rfl, rfl, rfl⟩
  · obtain ⟨as, r1⟩ := Dp.reads I p x v d1 rx
    obtain ⟨bs, r2⟩ := Dp.reads I _ y u d2 ry
    exact SeqAt.notIn_list_data r2 r1 (by have := dp_plain d2; simpa only [PyData.plain] using this) (dp_plain d1) (by omega) ⟨.bl _, H, I, rfl, k⟩
  · obtain ⟨as, r1⟩ := Dp.reads I p x v d1 rx
    obtain ⟨bs, r2⟩ := Dp.reads I _ y u d2 ry
    exact SeqAt.notIn_tuple_data r2 r1 (by have := dp_plain d2; simpa only [PyData.plain] using this) (dp_plain d1) (by omega) ⟨.bl _, H, I, rfl, k⟩
  · cases d1
    cases d2
    exact op_notIn_sign pins s σ H _ _ v u Q I rx ry ⟨ch, z, rfl, rfl, k⟩
end

/-! ### comparisons as expressions and as tests -/
def dCmp (g : P → P → Option Bool) (f1 f2 : EF) : EB := fun ρ => (f1 ρ).bind fun x => (f2 x.2).bind fun y => (g x.1 y.1).map fun z => (z, y.2)
def dB (f : EB) : EF := fun ρ => (f ρ).map fun x => (.bool x.1, x.2)
def dChn (g g' : P → P → Option Bool) (f1 f2 f3 : EF) : EB := fun ρ => (f1 ρ).bind fun x => (f2 x.2).bind fun y => (g x.1 y.1).bind fun c =>
  if c then (f3 y.2).bind fun z => (g' y.1 z.1).map fun c' => (c', z.2) else some (false, y.2)
def dAnd (f1 f2 : EB) : EB := fun ρ => (f1 ρ).bind fun x => if x.1 then f2 x.2 else some (false, x.2)
def dOr (f1 f2 : EB) : EB := fun ρ => (f1 ρ).bind fun x => if x.1 then some (true, x.2) else f2 x.2
def dNot (f : EB) : EB := fun ρ => (f ρ).map fun x => (!x.1, x.2)
def dIf (c : EB) (f1 f2 : EF) : EF := fun ρ => (c ρ).bind fun x => if x.1 then f1 x.2 else f2 x.2
def truP : P → Option Bool
  | .none => some false
  | .bool b => some b
  | .int i => some (i != 0)
  | .str x => if x.length ≤ 16777216 then some (x.length != 0) else none
  | .list xs => some (!xs.isEmpty)
  | .tuple xs => some (!xs.isEmpty)
  | .dict _ => none
def dTru (f : EF) : EB := fun ρ => (f ρ).bind fun x => (truP x.1).map fun c => (c, x.2)

section
variable {X : Cx} {cm : Str → Addr → Prop} {W : Hp} {pos : Pos} {a c e : Expr} {f1 f2 f3 : EF} {g1 g2 : EB} {b1 b2 b3 : Bool}
/-- reading a test as a value that is a bool -/
def tBV (t : TT) : TE := fun σ H Q => t σ H fun c H1 => Q (.bl c) H1
theorem tb_imp {f : EB} {b : Bool} : ∀ σ H Q, tP X.K cm b (dB f) σ H Q → tBV (tT X.K cm b f) σ H Q := by
  rintro σ H Q ⟨W, F, ρ, p, ρ', r, e, k⟩
  obtain ⟨⟨c, ρ1⟩, e1, e2⟩ := Option.map_eq_some_iff.mp e
  cases e2
  exact ⟨W, F, ρ, c, ρ1, r, e1, fun H' F' r' s u => k _ H' F' r' s u (.bl c)⟩
theorem cmp_imp {r : R2} {g : P → P → Option Bool} (hv : COp X.K cm r g) : ∀ σ H Q, tT X.K cm (b1 && b2) (dCmp g f1 f2) σ H Q → tTest (tOp r (tP X.K cm b1 f1) (tP X.K cm b2 f2)) σ H Q := by
  rintro σ H Q ⟨W, F, ρ, p, ρ', r, e, k⟩
  simp only [dCmp, Option.bind_eq_some_iff, Option.map_eq_some_iff] at e
  obtain ⟨⟨p1, ρ1⟩, e1, ⟨p2, ρ2⟩, e2, z, e3, e4⟩ := e
  cases e4
  refine ⟨W, F, ρ, p1, ρ1, r, e1, fun v H1 F1 r1 s1 u1 d1 => ⟨W, F1, ρ1, p2, ρ2, r1, e2, fun u H2 F2 r2 s2 u2 d2 => ?_⟩⟩
  exact hv r2 (DP.mono d1 s2) d2 e3 ⟨_, rfl, k H2 F2 r2 (s1.trans s2) (u1.trans u2)⟩
theorem cmpv_imp {r : R2} {g : P → P → Option Bool} (hv : COp X.K cm r g) : ∀ σ H Q, tP X.K cm (b1 && b2) (dB (dCmp g f1 f2)) σ H Q → tOp r (tP X.K cm b1 f1) (tP X.K cm b2 f2) σ H Q := by
  rintro σ H Q ⟨W, F, ρ, p, ρ', r, e, k⟩
  simp only [dB, dCmp, Option.bind_eq_some_iff, Option.map_eq_some_iff] at e
  obtain ⟨⟨w, ρ3⟩, ⟨⟨p1, ρ1⟩, e1, ⟨p2, ρ2⟩, e2, z, e3, e4⟩, e5⟩ := e
  cases e4
  cases e5
  refine ⟨W, F, ρ, p1, ρ1, r, e1, fun v H1 F1 r1 s1 u1 d1 => ⟨W, F1, ρ1, p2, ρ2, r1, e2, fun u H2 F2 r2 s2 u2 d2 => ?_⟩⟩
  exact hv r2 (DP.mono d1 s2) d2 e3 (k _ H2 F2 r2 (s1.trans s2) (u1.trans u2) (.bl _))
theorem t_cmp {op : CmpOp} {r : R2} {g : P → P → Option Bool} (ho : OpR X (compareOp op) r) (hv : COp X.K cm r g) (ha : PE X a (tP X.K cm b1 f1)) (hb : PE X c (tP X.K cm b2 f2)) (hm : behindInMarks op c = false) :
    PT X (.Compare a [op] [c] pos) (tT X.K cm (b1 && b2) (dCmp g f1 f2)) := PT.imp (pt_cmpR ho ha hb hm) (cmp_imp hv)
theorem x_cmp {op : CmpOp} {r : R2} {g : P → P → Option Bool} (ho : OpR X (compareOp op) r) (hv : COp X.K cm r g) (ha : PE X a (tP X.K cm b1 f1)) (hb : PE X c (tP X.K cm b2 f2)) (hm : behindInMarks op c = false) :
    PE X (.Compare a [op] [c] pos) (tP X.K cm (b1 && b2) (dB (dCmp g f1 f2))) := PE.imp (pe_cmpR ho ha hb hm) (cmpv_imp hv)
theorem t_eq (hu : HU X) (ha : PE X a (tP X.K cm b1 f1)) (hb : PE X c (tP X.K cm b2 f2)) : PT X (.Compare a [.Eq] [c] pos) (tT X.K cm (b1 && b2) (dCmp eqP f1 f2)) := t_cmp (op_eqD' hu) cop_dat ha hb (nomark _)
theorem t_ne (hu : HU X) (ha : PE X a (tP X.K cm b1 f1)) (hb : PE X c (tP X.K cm b2 f2)) : PT X (.Compare a [.NotEq] [c] pos) (tT X.K cm (b1 && b2) (dCmp neP f1 f2)) := t_cmp (op_neD' hu) cop_dat ha hb (nomark _)
theorem t_lt (hu : HU X) (ha : PE X a (tP X.K cm b1 f1)) (hb : PE X c (tP X.K cm b2 f2)) : PT X (.Compare a [.Lt] [c] pos) (tT X.K cm (b1 && b2) (dCmp ltP f1 f2)) := t_cmp (op_ltD hu) cop_dat ha hb (nomark _)
theorem t_gt (hu : HU X) (ha : PE X a (tP X.K cm b1 f1)) (hb : PE X c (tP X.K cm b2 f2)) : PT X (.Compare a [.Gt] [c] pos) (tT X.K cm (b1 && b2) (dCmp gtP f1 f2)) := t_cmp (op_gtD hu) cop_dat ha hb (nomark _)
theorem t_le (hu : HU X) (ha : PE X a (tP X.K cm b1 f1)) (hb : PE X c (tP X.K cm b2 f2)) : PT X (.Compare a [.LtE] [c] pos) (tT X.K cm (b1 && b2) (dCmp leP f1 f2)) := t_cmp (op_leD hu) cop_dat ha hb (nomark _)
theorem t_ge (hu : HU X) (ha : PE X a (tP X.K cm b1 f1)) (hb : PE X c (tP X.K cm b2 f2)) : PT X (.Compare a [.GtE] [c] pos) (tT X.K cm (b1 && b2) (dCmp geP f1 f2)) := t_cmp (op_geD hu) cop_dat ha hb (nomark _)
theorem t_in (hu : HU X) (ha : PE X a (tP X.K cm b1 f1)) (hb : PE X c (tP X.K cm b2 f2)) (hm : behindInMarks .In c = false := by with_unfolding_all rfl) : PT X (.Compare a [.In] [c] pos) (tT X.K cm (b1 && b2) (dCmp inP f1 f2)) := t_cmp (op_inX hu) cop_dat ha hb hm
theorem t_nin (hu : HU X) (ha : PE X a (tP X.K cm b1 f1)) (hb : PE X c (tP X.K cm b2 f2)) (hm : behindInMarks .NotIn c = false := by with_unfolding_all rfl) : PT X (.Compare a [.NotIn] [c] pos) (tT X.K cm (b1 && b2) (dCmp ninP f1 f2)) := t_cmp (op_ninX hu) cop_dat ha hb hm
theorem x_eq (hu : HU X) (ha : PE X a (tP X.K cm b1 f1)) (hb : PE X c (tP X.K cm b2 f2)) : PE X (.Compare a [.Eq] [c] pos) (tP X.K cm (b1 && b2) (dB (dCmp eqP f1 f2))) := x_cmp (op_eqD' hu) cop_dat ha hb (nomark _)
theorem x_ne (hu : HU X) (ha : PE X a (tP X.K cm b1 f1)) (hb : PE X c (tP X.K cm b2 f2)) : PE X (.Compare a [.NotEq] [c] pos) (tP X.K cm (b1 && b2) (dB (dCmp neP f1 f2))) := x_cmp (op_neD' hu) cop_dat ha hb (nomark _)
theorem x_lt (hu : HU X) (ha : PE X a (tP X.K cm b1 f1)) (hb : PE X c (tP X.K cm b2 f2)) : PE X (.Compare a [.Lt] [c] pos) (tP X.K cm (b1 && b2) (dB (dCmp ltP f1 f2))) := x_cmp (op_ltD hu) cop_dat ha hb (nomark _)
theorem x_gt (hu : HU X) (ha : PE X a (tP X.K cm b1 f1)) (hb : PE X c (tP X.K cm b2 f2)) : PE X (.Compare a [.Gt] [c] pos) (tP X.K cm (b1 && b2) (dB (dCmp gtP f1 f2))) := x_cmp (op_gtD hu) cop_dat ha hb (nomark _)
theorem x_le (hu : HU X) (ha : PE X a (tP X.K cm b1 f1)) (hb : PE X c (tP X.K cm b2 f2)) : PE X (.Compare a [.LtE] [c] pos) (tP X.K cm (b1 && b2) (dB (dCmp leP f1 f2))) := x_cmp (op_leD hu) cop_dat ha hb (nomark _)
theorem x_ge (hu : HU X) (ha : PE X a (tP X.K cm b1 f1)) (hb : PE X c (tP X.K cm b2 f2)) : PE X (.Compare a [.GtE] [c] pos) (tP X.K cm (b1 && b2) (dB (dCmp geP f1 f2))) := x_cmp (op_geD hu) cop_dat ha hb (nomark _)
theorem x_in (hu : HU X) (ha : PE X a (tP X.K cm b1 f1)) (hb : PE X c (tP X.K cm b2 f2)) (hm : behindInMarks .In c = false := by with_unfolding_all rfl) : PE X (.Compare a [.In] [c] pos) (tP X.K cm (b1 && b2) (dB (dCmp inP f1 f2))) := x_cmp (op_inX hu) cop_dat ha hb hm
theorem x_nin (hu : HU X) (ha : PE X a (tP X.K cm b1 f1)) (hb : PE X c (tP X.K cm b2 f2)) (hm : behindInMarks .NotIn c = false := by with_unfolding_all rfl) : PE X (.Compare a [.NotIn] [c] pos) (tP X.K cm (b1 && b2) (dB (dCmp ninP f1 f2))) := x_cmp (op_ninX hu) cop_dat ha hb hm
/-- is None, is not None -/
def dIsN (f : EF) : EB := fun ρ => (f ρ).map fun x => (isNP x.1, x.2)
theorem isN_of {K : PySem.W.Frag} {F : Hp} {v : V} {p : P} (h : DP K F v p) : decide (v = .non) = isNP p := by cases h <;> rfl
theorem t_isN {j pos'} (ha : PE X a (tP X.K cm b1 f1)) : PT X (.Compare a [.Is] [.Constant .none j pos'] pos) (tT X.K cm b1 (dIsN f1)) :=
  PT.imp (pt_cmp (pc_isN ha)) fun σ H Q ⟨W, F, ρ, p, ρ', r, e, k⟩ => by
    obtain ⟨⟨p1, ρ1⟩, e1, e2⟩ := Option.map_eq_some_iff.mp e
    cases e2
    exact ⟨W, F, ρ, p1, ρ1, r, e1, fun v H1 F1 r1 s1 u1 d1 => ⟨_, rfl, by rw [isN_of d1]; exact k H1 F1 r1 s1 u1⟩⟩
theorem t_notN {j pos'} (ha : PE X a (tP X.K cm b1 f1)) : PT X (.Compare a [.IsNot] [.Constant .none j pos'] pos) (tT X.K cm b1 (dNot (dIsN f1))) :=
  PT.imp (pt_cmp (pc_notN ha)) fun σ H Q ⟨W, F, ρ, p, ρ', r, e, k⟩ => by
    simp only [dNot, dIsN, Option.map_map, Option.map_eq_some_iff] at e
    obtain ⟨⟨p1, ρ1⟩, e1, e2⟩ := e
    cases e2
    exact ⟨W, F, ρ, p1, ρ1, r, e1, fun v H1 F1 r1 s1 u1 d1 => ⟨_, rfl, by rw [isN_of d1]; exact k H1 F1 r1 s1 u1⟩⟩
theorem x_isN {j pos'} (ha : PE X a (tP X.K cm b1 f1)) : PE X (.Compare a [.Is] [.Constant .none j pos'] pos) (tP X.K cm b1 (dB (dIsN f1))) :=
  PE.imp (pe_cmp (pc_isN ha)) fun σ H Q ⟨W, F, ρ, p, ρ', r, e, k⟩ => by
    simp only [dB, dIsN, Option.map_map, Option.map_eq_some_iff] at e
    obtain ⟨⟨p1, ρ1⟩, e1, e2⟩ := e
    cases e2
    exact ⟨W, F, ρ, p1, ρ1, r, e1, fun v H1 F1 r1 s1 u1 d1 => by show Q (.bl (decide (v = .non))) H1; rw [isN_of d1]; exact k _ H1 F1 r1 s1 u1 (.bl _)⟩
theorem x_notN {j pos'} (ha : PE X a (tP X.K cm b1 f1)) : PE X (.Compare a [.IsNot] [.Constant .none j pos'] pos) (tP X.K cm b1 (dB (dNot (dIsN f1)))) :=
  PE.imp (pe_cmp (pc_notN ha)) fun σ H Q ⟨W, F, ρ, p, ρ', r, e, k⟩ => by
    simp only [dB, dNot, dIsN, Option.map_map, Option.map_eq_some_iff] at e
    obtain ⟨⟨p1, ρ1⟩, e1, e2⟩ := e
    cases e2
    exact ⟨W, F, ρ, p1, ρ1, r, e1, fun v H1 F1 r1 s1 u1 d1 => by show Q (.bl (!decide (v = .non))) H1; rw [isN_of d1]; exact k _ H1 F1 r1 s1 u1 (.bl _)⟩
/-- a op b op' c -/
theorem chn_imp {r r' : R2} {g g' : P → P → Option Bool} (hv : COp X.K cm r g) (hv' : COp X.K cm r' g') :
    ∀ σ H Q, tT X.K cm (b1 && (b2 && b3)) (dChn g g' f1 f2 f3) σ H Q → tChain r r' (tP X.K cm b1 f1) (tP X.K cm b2 f2) (tP X.K cm b3 f3) σ H (fun x H' => ∃ k, x = .bl k ∧ Q k H') := by
  rintro σ H Q ⟨W, F, ρ, p, ρ', r, e, k⟩
  simp only [dChn, Option.bind_eq_some_iff] at e
  obtain ⟨⟨p1, ρ1⟩, e1, ⟨p2, ρ2⟩, e2, z, e3, e4⟩ := e
  refine ⟨W, F, ρ, p1, ρ1, r, e1, fun v H1 F1 r1 s1 u1 d1 => ⟨W, F1, ρ1, p2, ρ2, r1, e2, fun u H2 F2 r2 s2 u2 d2 => ?_⟩⟩
  refine hv r2 (DP.mono d1 s2) d2 e3 ⟨z, rfl, ?_⟩
  cases z with
  | false =>
    rw [if_neg Bool.false_ne_true] at e4 ⊢
    cases e4
    exact ⟨false, rfl, k H2 F2 r2 (s1.trans s2) fun h => by
      simp only [Bool.and_eq_true] at h
      exact (u1.trans u2) (by simp [h.1, h.2.1])⟩
  | true =>
    rw [if_pos rfl] at e4 ⊢
    simp only [Option.bind_eq_some_iff, Option.map_eq_some_iff] at e4
    obtain ⟨⟨p3, ρ3⟩, e5, c', e6, e7⟩ := e4
    cases e7
    refine ⟨W, F2, ρ2, p3, ρ3, r2, e5, fun w H3 F3 r3 s3 u3 d3 => ?_⟩
    exact hv' r3 (DP.mono d2 s3) d3 e6 ⟨_, rfl, k H3 F3 r3 ((s1.trans s2).trans s3) (u1.trans (u2.trans u3))⟩
theorem t_chn {op op' : CmpOp} {r r' : R2} {g g' : P → P → Option Bool} (ho : OpR X (compareOp op) r) (ho' : OpR X (compareOp op') r') (hv : COp X.K cm r g) (hv' : COp X.K cm r' g')
    (ha : PE X a (tP X.K cm b1 f1)) (hb : PE X c (tP X.K cm b2 f2)) (hc : PE X e (tP X.K cm b3 f3)) (hm : lastMarks [op, op'] [c, e] = false := by with_unfolding_all rfl) :
    PT X (.Compare a [op, op'] [c, e] pos) (tT X.K cm (b1 && (b2 && b3)) (dChn g g' f1 f2 f3)) := PT.imp (pt_chain ho ho' ha hb hc hm) (chn_imp hv hv')
/-- a chain as a value -/
theorem chnv_imp {r r' : R2} {g g' : P → P → Option Bool} (hv : COp X.K cm r g) (hv' : COp X.K cm r' g') :
    ∀ σ H Q, tP X.K cm (b1 && (b2 && b3)) (dB (dChn g g' f1 f2 f3)) σ H Q → tChain r r' (tP X.K cm b1 f1) (tP X.K cm b2 f2) (tP X.K cm b3 f3) σ H Q := by
  rintro σ H Q ⟨W, F, ρ, p, ρ', r, e, k⟩
  obtain ⟨⟨w, ρ4⟩, e', e0⟩ := Option.map_eq_some_iff.mp e
  cases e0
  simp only [dChn, Option.bind_eq_some_iff] at e'
  obtain ⟨⟨p1, ρ1⟩, e1, ⟨p2, ρ2⟩, e2, z, e3, e4⟩ := e'
  refine ⟨W, F, ρ, p1, ρ1, r, e1, fun v H1 F1 r1 s1 u1 d1 => ⟨W, F1, ρ1, p2, ρ2, r1, e2, fun u H2 F2 r2 s2 u2 d2 => ?_⟩⟩
  refine hv r2 (DP.mono d1 s2) d2 e3 ⟨z, rfl, ?_⟩
  cases z with
  | false =>
    rw [if_neg Bool.false_ne_true] at e4 ⊢
    cases e4
    exact k _ H2 F2 r2 (s1.trans s2) (fun h => by
      simp only [Bool.and_eq_true] at h
      exact (u1.trans u2) (by simp [h.1, h.2.1])) (.bl _)
  | true =>
    rw [if_pos rfl] at e4 ⊢
    simp only [Option.bind_eq_some_iff, Option.map_eq_some_iff] at e4
    obtain ⟨⟨p3, ρ3⟩, e5, c', e6, e7⟩ := e4
    cases e7
    refine ⟨W, F2, ρ2, p3, ρ3, r2, e5, fun w H3 F3 r3 s3 u3 d3 => ?_⟩
    exact hv' r3 (DP.mono d2 s3) d3 e6 (k _ H3 F3 r3 ((s1.trans s2).trans s3) (u1.trans (u2.trans u3)) (.bl _))
theorem x_chn {op op' : CmpOp} {r r' : R2} {g g' : P → P → Option Bool} (ho : OpR X (compareOp op) r) (ho' : OpR X (compareOp op') r') (hv : COp X.K cm r g) (hv' : COp X.K cm r' g')
    (ha : PE X a (tP X.K cm b1 f1)) (hb : PE X c (tP X.K cm b2 f2)) (hc : PE X e (tP X.K cm b3 f3)) (hm : lastMarks [op, op'] [c, e] = false := by with_unfolding_all rfl) :
    PE X (.Compare a [op, op'] [c, e] pos) (tP X.K cm (b1 && (b2 && b3)) (dB (dChn g g' f1 f2 f3))) := PE.imp (pe_chain ho ho' ha hb hc hm) (chnv_imp hv hv')

/-! ### and, or, not, truth -/
theorem and_imp {f g : EB} : ∀ σ H Q, tT X.K cm (b1 && b2) (dAnd f g) σ H Q → tAnd (tT X.K cm b1 f) (tT X.K cm b2 g) σ H Q := by
  rintro σ H Q ⟨W, F, ρ, p, ρ', r, e, k⟩
  simp only [dAnd, Option.bind_eq_some_iff] at e
  obtain ⟨⟨c1, ρ1⟩, e1, e2⟩ := e
  refine ⟨W, F, ρ, c1, ρ1, r, e1, fun H1 F1 r1 s1 u1 => ?_⟩
  cases c1 with
  | false =>
    rw [if_neg Bool.false_ne_true] at e2 ⊢
    cases e2
    exact k H1 F1 r1 s1 fun h => u1 (by rw [Bool.and_eq_true] at h; exact h.1)
  | true =>
    rw [if_pos rfl] at e2 ⊢
    exact ⟨W, F1, ρ1, p, ρ', r1, e2, fun H2 F2 r2 s2 u2 => k H2 F2 r2 (s1.trans s2) (u1.trans u2)⟩
theorem or_imp {f g : EB} : ∀ σ H Q, tT X.K cm (b1 && b2) (dOr f g) σ H Q → tOr (tT X.K cm b1 f) (tT X.K cm b2 g) σ H Q := by
  rintro σ H Q ⟨W, F, ρ, p, ρ', r, e, k⟩
  simp only [dOr, Option.bind_eq_some_iff] at e
  obtain ⟨⟨c1, ρ1⟩, e1, e2⟩ := e
  refine ⟨W, F, ρ, c1, ρ1, r, e1, fun H1 F1 r1 s1 u1 => ?_⟩
  cases c1 with
  | true =>
    rw [if_pos rfl] at e2 ⊢
    cases e2
    exact k H1 F1 r1 s1 fun h => u1 (by rw [Bool.and_eq_true] at h; exact h.1)
  | false =>
    rw [if_neg Bool.false_ne_true] at e2 ⊢
    exact ⟨W, F1, ρ1, p, ρ', r1, e2, fun H2 F2 r2 s2 u2 => k H2 F2 r2 (s1.trans s2) (u1.trans u2)⟩
theorem w_one_and {t : TT} (h : PT X a t) : PW X (.BoolOp .And [a] pos) t := pw_and1 h
theorem w_one_or {t : TT} (h : PT X a t) : PW X (.BoolOp .Or [a] pos) t := pw_or1 h
theorem w_and {rest : List Expr} {f g : EB} (ha : PT X a (tT X.K cm b1 f)) (hb : PW X (.BoolOp .And (c :: rest) pos) (tT X.K cm b2 g)) : PW X (.BoolOp .And (a :: c :: rest) pos) (tT X.K cm (b1 && b2) (dAnd f g)) := PW.imp (pw_and ha hb) and_imp
theorem w_or {rest : List Expr} {f g : EB} (ha : PT X a (tT X.K cm b1 f)) (hb : PW X (.BoolOp .Or (c :: rest) pos) (tT X.K cm b2 g)) : PW X (.BoolOp .Or (a :: c :: rest) pos) (tT X.K cm (b1 && b2) (dOr f g)) := PW.imp (pw_or ha hb) or_imp
theorem t_not {f : EB} (ha : PT X a (tT X.K cm b1 f)) : PT X (.UnaryOp .Not a pos) (tT X.K cm b1 (dNot f)) :=
  PT.imp (pt_not ha) fun σ H Q ⟨W, F, ρ, p, ρ', r, e, k⟩ => by
    obtain ⟨⟨p1, ρ1⟩, e1, e2⟩ := Option.map_eq_some_iff.mp e
    cases e2
    exact ⟨W, F, ρ, p1, ρ1, r, e1, fun H1 F1 r1 s1 u1 => k H1 F1 r1 s1 u1⟩
/-- and, or, not as values of bools -/
theorem xb_one {op} {f : EF} (h : PE X a (tP X.K cm b1 f)) : PE X (.BoolOp op [a] pos) (tP X.K cm b1 f) := pe_one h
theorem dB_inv {f : EB} {ρ ρ' : Sl} {p : P} (h : dB f ρ = some (p, ρ')) : ∃ c, p = .bool c ∧ f ρ = some (c, ρ') := by
  obtain ⟨⟨c, ρ1⟩, e1, e2⟩ := Option.map_eq_some_iff.mp h
  cases e2
  exact ⟨c, rfl, e1⟩
theorem xb_and {rest : List Expr} {f g : EB} (ha : PE X a (tP X.K cm b1 (dB f))) (hb : PE X (.BoolOp .And (c :: rest) pos) (tP X.K cm b2 (dB g))) : PE X (.BoolOp .And (a :: c :: rest) pos) (tP X.K cm (b1 && b2) (dB (dAnd f g))) :=
  PE.imp (pe_and ha hb) fun σ H Q ⟨W, F, ρ, p, ρ', r, e, k⟩ => by
    obtain ⟨z, rfl, e'⟩ := dB_inv e
    simp only [dAnd, Option.bind_eq_some_iff] at e'
    obtain ⟨⟨c1, ρ1⟩, e1, e2⟩ := e'
    refine ⟨W, F, ρ, .bool c1, ρ1, r, by simp only [dB, e1, Option.map_some], fun v H1 F1 r1 s1 u1 d1 => ?_⟩
    cases d1
    refine ⟨c1, rfl, ?_⟩
    cases c1 with
    | false =>
      rw [if_neg Bool.false_ne_true] at e2 ⊢
      cases e2
      exact k _ H1 F1 r1 s1 (fun h => u1 (by rw [Bool.and_eq_true] at h; exact h.1)) (.bl _)
    | true =>
      rw [if_pos rfl] at e2 ⊢
      exact ⟨W, F1, ρ1, .bool z, ρ', r1, by simp only [dB, e2, Option.map_some], fun v H2 F2 r2 s2 u2 d2 => k v H2 F2 r2 (s1.trans s2) (u1.trans u2) d2⟩
theorem xb_or {rest : List Expr} {f g : EB} (ha : PE X a (tP X.K cm b1 (dB f))) (hb : PE X (.BoolOp .Or (c :: rest) pos) (tP X.K cm b2 (dB g))) : PE X (.BoolOp .Or (a :: c :: rest) pos) (tP X.K cm (b1 && b2) (dB (dOr f g))) :=
  PE.imp (pe_or ha hb) fun σ H Q ⟨W, F, ρ, p, ρ', r, e, k⟩ => by
    obtain ⟨z, rfl, e'⟩ := dB_inv e
    simp only [dOr, Option.bind_eq_some_iff] at e'
    obtain ⟨⟨c1, ρ1⟩, e1, e2⟩ := e'
    refine ⟨W, F, ρ, .bool c1, ρ1, r, by simp only [dB, e1, Option.map_some], fun v H1 F1 r1 s1 u1 d1 => ?_⟩
    cases d1
    refine ⟨c1, rfl, ?_⟩
    cases c1 with
    | true =>
      rw [if_pos rfl] at e2 ⊢
      cases e2
      exact k _ H1 F1 r1 s1 (fun h => u1 (by rw [Bool.and_eq_true] at h; exact h.1)) (.bl _)
    | false =>
      rw [if_neg Bool.false_ne_true] at e2 ⊢
      exact ⟨W, F1, ρ1, .bool z, ρ', r1, by simp only [dB, e2, Option.map_some], fun v H2 F2 r2 s2 u2 d2 => k v H2 F2 r2 (s1.trans s2) (u1.trans u2) d2⟩
theorem xb_not {f : EB} (ha : PE X a (tP X.K cm b1 (dB f))) : PE X (.UnaryOp .Not a pos) (tP X.K cm b1 (dB (dNot f))) :=
  PE.imp (pe_not ha) fun σ H Q ⟨W, F, ρ, p, ρ', r, e, k⟩ => by
    obtain ⟨z, rfl, e'⟩ := dB_inv e
    obtain ⟨⟨c1, ρ1⟩, e1, e2⟩ := Option.map_eq_some_iff.mp e'
    cases e2
    refine ⟨W, F, ρ, .bool c1, ρ1, r, by simp only [dB, e1, Option.map_some], fun v H1 F1 r1 s1 u1 d1 => ?_⟩
    cases d1
    exact ⟨c1, rfl, k _ H1 F1 r1 s1 u1 (.bl _)⟩
theorem tru_of {K : PySem.W.Frag} {F H : Hp} {v : V} {p : P} {k : Bool} (h : DP K F v p) (s : Same F H) (e : truP p = some k) : TruV K v H k := by
  cases h with
  | non => cases e; rfl
  | bl b => cases e; rfl
  | int i => cases e; rfl
  | str x =>
    simp only [truP] at e
    split at e
    · rename_i hz
      cases e
      refine ⟨by rw [sizeLine_eq]; exact hz, ?_⟩
      show (x.length != 0) = ((x.length : Int) != 0)
      rw [Bool.eq_iff_iff]
      simp
    · cases e
  | lst h1 h2 =>
    rename_i a xs ps
    cases e
    refine .inl ⟨xs, (LK.mono h1 s).seq, ?_⟩
    cases h2 <;> rfl
  | tup h1 h2 =>
    rename_i a xs ps
    cases e
    refine .inr (.inl ⟨xs, SqT.mono h1 s, ?_⟩)
    cases h2 <;> rfl
/-- a value as a test (a name, a call, a subscript, a field ..) -/
theorem t_tru {f : EF} (ha : PE X a (tP X.K cm b1 f)) (he : ∀ whole, isTrue a X.env whole = (do let v ← whole; standAt a.pos; holding [v] (truthy v)) := by exact fun _ => rfl) : PT X a (tT X.K cm b1 (dTru f)) :=
  PT.imp (pt_truth ha he) fun σ H Q ⟨W, F, ρ, p, ρ', r, e, k⟩ => by
    simp only [dTru, Option.bind_eq_some_iff, Option.map_eq_some_iff] at e
    obtain ⟨⟨p1, ρ1⟩, e1, z, e2, e3⟩ := e
    cases e3
    exact ⟨W, F, ρ, p1, ρ1, r, e1, fun v H1 F1 r1 s1 u1 d1 => ⟨_, tru_of d1 r1.fh e2, k H1 F1 r1 s1 u1⟩⟩
theorem x_if {cnd : Expr} {g : EB} (hc : PT X cnd (tT X.K cm b3 g)) (ha : PE X a (tP X.K cm b1 f1)) (hb : PE X c (tP X.K cm b2 f2)) : PE X (.IfExp cnd a c pos) (tP X.K cm (b3 && (b1 && b2)) (dIf g f1 f2)) :=
  PE.imp (pe_ifExp hc ha hb) fun σ H Q ⟨W, F, ρ, p, ρ', r, e, k⟩ => by
    simp only [dIf, Option.bind_eq_some_iff] at e
    obtain ⟨⟨c1, ρ1⟩, e1, e2⟩ := e
    refine ⟨W, F, ρ, c1, ρ1, r, e1, fun H1 F1 r1 s1 u1 => ?_⟩
    have pu : ∀ {bb : Bool} {ρ2 : Sl} {H2 : Hp}, (bb = b1 ∨ bb = b2) → Pu bb ρ1 ρ2 H1 H2 → Pu (b3 && (b1 && b2)) ρ ρ2 H H2 := fun {bb ρ2 H2} hb u h => by
      simp only [Bool.and_eq_true] at h
      rcases hb with rfl | rfl
      · exact (u1.trans u) (by simp [h.1, h.2.1])
      · exact (u1.trans u) (by simp [h.1, h.2.2])
    cases c1 with
    | true =>
      rw [if_pos rfl] at e2
      exact iteT ⟨W, F1, ρ1, p, ρ', r1, e2, fun v H2 F2 r2 s2 u2 d2 => k v H2 F2 r2 (s1.trans s2) (pu (.inl rfl) u2) d2⟩
    | false =>
      rw [if_neg Bool.false_ne_true] at e2
      exact iteF ⟨W, F1, ρ1, p, ρ', r1, e2, fun v H2 F2 r2 s2 u2 d2 => k v H2 F2 r2 (s1.trans s2) (pu (.inr rfl) u2) d2⟩
end
end
end HW

namespace HW
open PySem PySem.Spec PyProof.Rows L2
noncomputable section

/-! ### argument lists, displays -/
def dArgs : List EF → EL
  | [] => fun ρ => some ([], ρ)
  | f :: fs => fun ρ => (f ρ).bind fun x => (dArgs fs x.2).map fun y => (x.1 :: y.1, y.2)
theorem dArgs_len : ∀ {fs : List EF} {ρ ρ' : Sl} {ps : List P}, dArgs fs ρ = some (ps, ρ') → ps.length = fs.length
  | [], _, _, _, h => by cases h; rfl
  | f :: fs, ρ, ρ', ps, h => by
    simp only [dArgs, Option.bind_eq_some_iff, Option.map_eq_some_iff] at h
    obtain ⟨⟨p1, ρ1⟩, e1, ⟨ps2, ρ2⟩, e2, e3⟩ := h
    cases e3
    simp [dArgs_len e2]
section
variable {X : Cx} {cm : Str → Addr → Prop} {W : Hp} {pos : Pos} {a c e : Expr} {es : List Expr} {f f1 f2 : EF} {fs : List EF} {b b1 b2 b3 : Bool}
theorem a_nil : PA X [] (tA X.K cm true (dArgs [])) :=
  PA.imp pa_nil fun σ H Q ⟨W, F, ρ, p, ρ', r, e, k⟩ => by
    cases e
    exact k [] H F r (Same.refl F) Pu.refl .nil
theorem a_cons (ha : PE X e (tP X.K cm b1 f)) (hr : PA X es (tA X.K cm b2 (dArgs fs))) (hs : starEach (e :: es) X.env = (false, eval e X.env) :: starEach es X.env := by rfl) : PA X (e :: es) (tA X.K cm (b1 && b2) (dArgs (f :: fs))) :=
  PA.imp (pa_cons ha hr hs) fun σ H Q ⟨W, F, ρ, p, ρ', r, e, k⟩ => by
    simp only [dArgs, Option.bind_eq_some_iff, Option.map_eq_some_iff] at e
    obtain ⟨⟨p1, ρ1⟩, e1, ⟨ps, ρ2⟩, e2, e3⟩ := e
    cases e3
    refine ⟨W, F, ρ, p1, ρ1, r, e1, fun v H1 F1 r1 s1 u1 d1 => ⟨W, F1, ρ1, ps, ρ2, r1, e2, fun vs H2 F2 r2 s2 u2 d2 => ?_⟩⟩
    exact k _ H2 F2 r2 (s1.trans s2) (u1.trans u2) (.cons (DP.mono d1 s2) d2)
def dTup (fs : List EF) : EF := fun ρ => (dArgs fs ρ).map fun x => (.tuple x.1, x.2)
theorem x_tup {x1} (h : PA X es (tA X.K cm b (dArgs fs))) (hl : Nat.ble fs.length 1000 = true := by rfl) : PE X (.Tuple es x1 pos) (tP X.K cm b (dTup fs)) :=
  PE.imp (pe_tup h) fun σ H Q ⟨W, F, ρ, p, ρ', r, e, k⟩ => by
    obtain ⟨⟨ps, ρ1⟩, e1, e2⟩ := Option.map_eq_some_iff.mp e
    cases e2
    refine ⟨W, F, ρ, ps, ρ1, r, e1, fun vs H1 F1 r1 s1 u1 d1 => ⟨?_, fun p hp => ?_⟩⟩
    · rw [DPs.length d1, dArgs_len e1, sizeLine_eq]
      have := Nat.le_of_ble_eq_true hl
      omega
    · have fp := r1.fh.free hp
      exact k _ _ _ (r1.laid hp) (s1.trans (same_upd fp)) (u1.then (same_upd hp)) (laid_tup (σ := σ) (H := H1) (ρ := ρ1) d1 fp)
/-- a new list -/
theorem l_lst (h : PA X es (tA X.K cm b (dArgs fs))) (hl : Nat.ble fs.length 1000 = true := by rfl) : PE X (.List es pos) (tL X.K cm b (dArgs fs)) :=
  PE.imp (pe_lst h) fun σ H Q ⟨W, F, ρ, p, ρ', r, e, k⟩ => by
    refine ⟨W, F, ρ, p, ρ', r, e, fun vs H1 F1 r1 s1 u1 d1 => ⟨?_, fun p hp => k p vs H1 _ F1 r1 s1 u1 d1 hp rfl⟩⟩
    rw [DPs.length d1, dArgs_len e, sizeLine_eq]
    have := Nat.le_of_ble_eq_true hl
    omega
/-- a new list, frozen -/
def dLst (f : EL) : EF := fun ρ => (f ρ).map fun x => (.list x.1, x.2)
theorem x_ofL {f : EL} (h : PE X e (tL X.K cm b f)) : PE X e (tP X.K cm b (dLst f)) :=
  PE.imp h fun σ H Q ⟨W, F, ρ, p, ρ', r, e, k⟩ => by
    obtain ⟨⟨ps, ρ1⟩, e1, e2⟩ := Option.map_eq_some_iff.mp e
    cases e2
    refine ⟨W, F, ρ, ps, ρ1, r, e1, fun q vs H0 H1 F1 r1 s1 u1 d1 hp e3 => ?_⟩
    subst e3
    have fp := r1.fh.free hp
    exact k _ _ _ (r1.laid hp) (s1.trans (same_upd fp)) (u1.then (same_upd hp)) (laid_lst (σ := σ) (H := H0) (ρ := ρ1) d1 fp)
/-- as data with marks -/
def dPd (f : EF) : ED := fun ρ => (f ρ).map fun x => (.pd x.1, x.2)
theorem d_ofP (h : PE X e (tP X.K cm b f)) : PE X e (tD X.K cm b (dPd f)) :=
  PE.imp h fun σ H Q ⟨W, F, ρ, p, ρ', r, e, k⟩ => by
    obtain ⟨⟨q, ρ1⟩, e1, e2⟩ := Option.map_eq_some_iff.mp e
    cases e2
    exact ⟨W, F, ρ, q, ρ1, r, e1, fun v H1 F1 r1 s1 u1 d1 => k v H1 F1 (r1.pd d1) s1 u1⟩
def pds (ps : List P) : List D := ps.map .pd
theorem rds_pds {K : PySem.W.Frag} {F H : Hp} : ∀ {vs : List V} {ps : List P}, DPs K F vs ps → RDs K cm F H vs (pds ps) []
  | _, _, .nil => .nil
  | _, _, .cons a r => by
    have q := RDs.cons (RD.pd (cm := cm) (H := H) a) (rds_pds (H := H) r)
    exact q
theorem R.newL {K : PySem.W.Frag} {σ : L2.St} {H F : Hp} {ρ : Sl} {vs : List V} {ps : List P} {p : Addr} (r : R K cm W σ H F ρ) (h : DPs K F vs ps) (hp : H p = none) : R K cm W (some (.ref p) :: σ) (upd H p (.lst vs)) F (.ol (pds ps) :: ρ) := by
  obtain ⟨fp, h1, n, m⟩ := r.ex
  have fp0 : F p = none := r.fh.free hp
  have wp0 : W p = none := r.wh.free hp
  refine ⟨fun a o q => same_upd hp _ _ (r.fh a o q), fun a o q => same_upd hp _ _ (r.wh a o q), r.wf, p :: fp, ?_, ?_, ?_⟩
  · exact .yes (f := [p]) (.ol upd_same (rds_pds h)) (h1.mono (Same.refl F) fun a _ o q => same_upd hp a o q)
  · refine List.nodup_cons.mpr ⟨fun q => ?_, n⟩
    obtain ⟨o, ho⟩ := h1.there p q
    rw [hp] at ho
    cases ho
  · intro a ha
    rcases List.mem_cons.mp ha with rfl | ha
    · exact ⟨fp0, wp0⟩
    · exact m a ha
/-- .. as an owned list -/
def dOl (f : EL) : ED := fun ρ => (f ρ).map fun x => (.ol (pds x.1), x.2)
theorem d_ofL {f : EL} (h : PE X e (tL X.K cm b f)) : PE X e (tD X.K cm b (dOl f)) :=
  PE.imp h fun σ H Q ⟨W, F, ρ, p, ρ', r, e, k⟩ => by
    obtain ⟨⟨ps, ρ1⟩, e1, e2⟩ := Option.map_eq_some_iff.mp e
    cases e2
    refine ⟨W, F, ρ, ps, ρ1, r, e1, fun q vs H0 H1 F1 r1 s1 u1 d1 hp e3 => ?_⟩
    subst e3
    exact k _ _ _ (R.newL r1 d1 hp) s1 (u1.then (same_upd hp))

/-! ### subscripts -/
def idxP : P → P → Option P
  | .list xs, .int i => atI xs i
  | .tuple xs, .int i => atI xs i
  | .str z, .int i => if z.length ≤ 16777216 then (atI z.cps.toList i).map fun c => .str ⟨#[c]⟩ else none
  | _, _ => none
theorem atI_ds {K : PySem.W.Frag} {F : Hp} {vs : List V} {ps : List P} {i : Int} {p : P} (h : DPs K F vs ps) (e : atI ps i = some p) : ∃ v, atI vs i = some v ∧ DP K F v p := by
  unfold atI at e ⊢
  rw [DPs.length h]
  obtain ⟨j, e1, e2⟩ := Option.bind_eq_some_iff.mp e
  obtain ⟨v, e3, d⟩ := DPs.get h e2
  exact ⟨v, by rw [e1]; exact e3, d⟩
theorem vop_idx {K : PySem.W.Frag} : VOp K cm (rIx K) idxP := by
  intro W σ H F ρ v u p q z Q r d1 d2 e k
  cases d1 <;> cases d2 <;> simp only [idxP, reduceCtorEq] at e
  · split at e
    · rename_i hz
      obtain ⟨c, e1, rfl⟩ := Option.map_eq_some_iff.mp e
      exact .inr (.inr ⟨_, _, c, rfl, rfl, by rw [sizeLine_eq]; exact hz, e1, k _ H F r (Same.refl F) (Same.refl H) (.str _)⟩)
    · cases e
  · rename_i a xs ps h1 h2 i
    obtain ⟨w, e1, d⟩ := atI_ds h2 e
    exact .inl ⟨a, xs, i, w, rfl, rfl, (LK.mono h1 r.fh).seq, e1, k _ H F r (Same.refl F) (Same.refl H) d⟩
  · rename_i a xs ps h1 h2 i
    obtain ⟨w, e1, d⟩ := atI_ds h2 e
    exact .inr (.inl ⟨a, xs, i, w, rfl, rfl, SqT.mono h1 r.fh, e1, k _ H F r (Same.refl F) (Same.refl H) d⟩)
theorem x_ix (ha : PE X a (tP X.K cm b1 f1)) (hb : PE X c (tP X.K cm b2 f2)) (hs : PlainIx c := by exact fun _ _ => rfl) : PE X (.Subscript a c pos) (tP X.K cm (b1 && b2) (dBin idxP f1 f2)) := PE.imp (pe_ix ix_seq ha hb hs) (bin_imp vop_idx)

/-! ### slices -/
abbrev EO := Sl → Option (Option Int × Sl)
def tO (K : PySem.W.Frag) (cm : Str → Addr → Prop) (b : Bool) (f : EO) : TO := fun σ H Q => ∃ W F ρ o ρ', R K cm W σ H F ρ ∧ f ρ = some (o, ρ') ∧ ∀ H' F', R K cm W σ H' F' ρ' → Same F F' → Pu b ρ ρ' H H' → Q o H'
def dNo : EO := fun ρ => some (none, ρ)
def dSo (f : EF) : EO := fun ρ => (f ρ).bind fun x => match x.1 with
  | .int i => some (some i, x.2)
  | _ => none
theorem PO.imp {e : Option Expr} {t t' : TO} (h : PO X e t) (m : ∀ σ H Q, t' σ H Q → t σ H Q) : PO X e t' := ⟨fun pins s σ H Q I q => h.run pins s σ H Q I (m _ _ _ q)⟩
theorem o_no : PO X none (tO X.K cm true dNo) := HW.PO.imp po_none fun σ H Q ⟨W, F, ρ, p, ρ', r, e, k⟩ => by
  cases e
  exact k H F r (Same.refl F) Pu.refl
theorem o_so (h : PE X e (tP X.K cm b f)) : PO X (some e) (tO X.K cm b (dSo f)) := HW.PO.imp (po_some h) fun σ H Q ⟨W, F, ρ, p, ρ', r, e, k⟩ => by
  simp only [dSo, Option.bind_eq_some_iff] at e
  obtain ⟨⟨p1, ρ1⟩, e1, e2⟩ := e
  refine ⟨W, F, ρ, p1, ρ1, r, e1, fun v H1 F1 r1 s1 u1 d1 => ?_⟩
  cases d1 <;> simp only [reduceCtorEq] at e2
  cases e2
  exact ⟨_, rfl, k H1 F1 r1 s1 u1⟩
def cutL {α : Type} (xs : List α) (lo hi : Option Int) : List α := (xs.drop (HT.sIx xs.length 0 lo)).take (HT.sIx xs.length xs.length hi - HT.sIx xs.length 0 lo)
theorem cut_ds {K : PySem.W.Frag} {F : Hp} {vs : List V} {ps : List P} {lo hi : Option Int} (h : DPs K F vs ps) : DPs K F (cutV vs lo hi) (cutL ps lo hi) := by
  unfold cutV cutL
  rw [DPs.length h]
  exact (h.drop _).take _
def sliceP : P → Option Int → Option Int → Option P
  | .tuple xs, lo, hi => some (.tuple (cutL xs lo hi))
  | .str z, lo, hi => if z.length ≤ 16777216 then some (.str (cutS z lo hi)) else none
  | _, _, _ => none
def dSl (f : EF) (g h : EO) : EF := fun ρ => (f ρ).bind fun x => (g x.2).bind fun y => (h y.2).bind fun z => (sliceP x.1 y.1 z.1).map fun w => (w, z.2)
theorem cut_whole {α : Type} {xs : List α} {lo hi : Option Int} (h1 : HT.sIx xs.length 0 lo = 0) (h2 : HT.sIx xs.length xs.length hi = xs.length) : cutL xs lo hi = xs := by
  unfold cutL
  rw [h1, h2]
  simp
/-- a slice of a tuple or a text -/
theorem x_sl {lo hi : Option Expr} {g h : EO} {p2 : Pos} (ha : PE X a (tP X.K cm b1 f1)) (hl : PO X lo (tO X.K cm b2 g)) (hu : PO X hi (tO X.K cm b3 h)) : PE X (.Subscript a (.Slice lo hi none p2) pos) (tP X.K cm (b1 && (b2 && b3)) (dSl f1 g h)) :=
  PE.imp (pe_slice (sl_tupA.or sl_str) ha hl hu) fun σ H Q ⟨W, F, ρ, p, ρ', r, e, k⟩ => by
    simp only [dSl, Option.bind_eq_some_iff, Option.map_eq_some_iff] at e
    obtain ⟨⟨p1, ρ1⟩, e1, ⟨o1, ρ2⟩, e2, ⟨o2, ρ3⟩, e3, w, e4, e5⟩ := e
    cases e5
    refine ⟨W, F, ρ, p1, ρ1, r, e1, fun v H1 F1 r1 s1 u1 d1 => ⟨W, F1, ρ1, o1, ρ2, r1, e2, fun H2 F2 r2 s2 u2 => ⟨W, F2, ρ2, o2, ρ3, r2, e3, fun H3 F3 r3 s3 u3 => ?_⟩⟩⟩
    have d3 := DP.mono d1 (s2.trans s3)
    have u := u1.trans (u2.trans u3)
    have ss := (s1.trans s2).trans s3
    cases d3 with
    | tup h2 h3 =>
      rename_i ad xs ps
      have e4' : PyData.tuple (cutL ps o1 o2) = _ := Option.some.inj e4
      subst e4'
      refine .inl ⟨ad, xs, rfl, SqT.mono h2 r3.fh, fun hw => ?_, fun _ q hq => ?_⟩
      · have hl := DPs.length h3
        rw [cut_whole (by rw [← hl]; exact hw.1) (by rw [← hl]; exact hw.2)] at k
        exact k _ H3 F3 r3 ss u (.tup h2 h3)
      · have fp := r3.fh.free hq
        exact k _ _ _ (r3.laid hq) (ss.trans (same_upd fp)) (u.then (same_upd hq)) (laid_tup (σ := σ) (H := H3) (ρ := ρ3) (cut_ds h3) fp)
    | str x =>
      simp only [sliceP] at e4
      split at e4
      · rename_i hz
        cases e4
        exact .inr ⟨x, rfl, by rw [sizeLine_eq]; exact hz, k _ H3 F3 r3 ss u (.str _)⟩
      · cases e4
    | _ => simp only [sliceP, reduceCtorEq] at e4
/-- a slice of a list: a new list -/
def dSlL (f : EF) (g h : EO) : EL := fun ρ => (f ρ).bind fun x => (g x.2).bind fun y => (h y.2).bind fun z => match x.1 with
  | .list xs => some (cutL xs y.1 z.1, z.2)
  | _ => none
theorem l_sl {lo hi : Option Expr} {g h : EO} {p2 : Pos} (ha : PE X a (tP X.K cm b1 f1)) (hl : PO X lo (tO X.K cm b2 g)) (hu : PO X hi (tO X.K cm b3 h)) : PE X (.Subscript a (.Slice lo hi none p2) pos) (tL X.K cm (b1 && (b2 && b3)) (dSlL f1 g h)) :=
  PE.imp (pe_slice sl_list ha hl hu) fun σ H Q ⟨W, F, ρ, p, ρ', r, e, k⟩ => by
    simp only [dSlL, Option.bind_eq_some_iff] at e
    obtain ⟨⟨p1, ρ1⟩, e1, ⟨o1, ρ2⟩, e2, ⟨o2, ρ3⟩, e3, e4⟩ := e
    refine ⟨W, F, ρ, p1, ρ1, r, e1, fun v H1 F1 r1 s1 u1 d1 => ⟨W, F1, ρ1, o1, ρ2, r1, e2, fun H2 F2 r2 s2 u2 => ⟨W, F2, ρ2, o2, ρ3, r2, e3, fun H3 F3 r3 s3 u3 => ?_⟩⟩⟩
    have d3 := DP.mono d1 (s2.trans s3)
    cases d3 with
    | lst h2 h3 =>
      rename_i ad xs ps
      cases e4
      exact ⟨ad, xs, rfl, (LK.mono h2 r3.fh).seq, fun q hq => k q _ H3 _ F3 r3 ((s1.trans s2).trans s3) (u1.trans (u2.trans u3)) (cut_ds h3) hq rfl⟩
    | _ => simp only [reduceCtorEq] at e4
/-- a slice of any kind, frozen -/
def sliceA : P → Option Int → Option Int → Option P
  | .list xs, lo, hi => some (.list (cutL xs lo hi))
  | p, lo, hi => sliceP p lo hi
def dSlA (f : EF) (g h : EO) : EF := fun ρ => (f ρ).bind fun x => (g x.2).bind fun y => (h y.2).bind fun z => (sliceA x.1 y.1 z.1).map fun w => (w, z.2)
theorem x_slA {lo hi : Option Expr} {g h : EO} {p2 : Pos} (ha : PE X a (tP X.K cm b1 f1)) (hl : PO X lo (tO X.K cm b2 g)) (hu : PO X hi (tO X.K cm b3 h)) : PE X (.Subscript a (.Slice lo hi none p2) pos) (tP X.K cm (b1 && (b2 && b3)) (dSlA f1 g h)) :=
  PE.imp (pe_slice (sl_list.or (sl_tupA.or sl_str)) ha hl hu) fun σ H Q ⟨W, F, ρ, p, ρ', r, e, k⟩ => by
    simp only [dSlA, Option.bind_eq_some_iff, Option.map_eq_some_iff] at e
    obtain ⟨⟨p1, ρ1⟩, e1, ⟨o1, ρ2⟩, e2, ⟨o2, ρ3⟩, e3, w, e4, e5⟩ := e
    cases e5
    refine ⟨W, F, ρ, p1, ρ1, r, e1, fun v H1 F1 r1 s1 u1 d1 => ⟨W, F1, ρ1, o1, ρ2, r1, e2, fun H2 F2 r2 s2 u2 => ⟨W, F2, ρ2, o2, ρ3, r2, e3, fun H3 F3 r3 s3 u3 => ?_⟩⟩⟩
    have d3 := DP.mono d1 (s2.trans s3)
    have u := u1.trans (u2.trans u3)
    have ss := (s1.trans s2).trans s3
    cases d3 with
    | lst h2 h3 =>
      rename_i ad xs ps
      have e4' : PyData.list (cutL ps o1 o2) = _ := Option.some.inj e4
      subst e4'
      refine .inl ⟨ad, xs, rfl, (LK.mono h2 r3.fh).seq, fun q hq => ?_⟩
      have fp := r3.fh.free hq
      exact k _ _ _ (r3.laid hq) (ss.trans (same_upd fp)) (u.then (same_upd hq)) (laid_lst (σ := σ) (H := H3) (ρ := ρ3) (cut_ds h3) fp)
    | tup h2 h3 =>
      rename_i ad xs ps
      have e4' : PyData.tuple (cutL ps o1 o2) = _ := Option.some.inj e4
      subst e4'
      refine .inr (.inl ⟨ad, xs, rfl, SqT.mono h2 r3.fh, fun hw => ?_, fun _ q hq => ?_⟩)
      · have hl := DPs.length h3
        rw [cut_whole (by rw [← hl]; exact hw.1) (by rw [← hl]; exact hw.2)] at k
        exact k _ H3 F3 r3 ss u (.tup h2 h3)
      · have fp := r3.fh.free hq
        exact k _ _ _ (r3.laid hq) (ss.trans (same_upd fp)) (u.then (same_upd hq)) (laid_tup (σ := σ) (H := H3) (ρ := ρ3) (cut_ds h3) fp)
    | str x =>
      simp only [sliceA, sliceP] at e4
      split at e4
      · rename_i hz
        cases e4
        exact .inr (.inr ⟨x, rfl, by rw [sizeLine_eq]; exact hz, k _ H3 F3 r3 ss u (.str _)⟩)
      · cases e4
    | _ => simp only [sliceA, sliceP, reduceCtorEq] at e4

/-! ### calls of built-in functions, by data -/
def VCall (K : PySem.W.Frag) (cm : Str → Addr → Prop) (r : List V → Hp → VK → Prop) (g : List P → Option P) : Prop :=
  ∀ {W : Hp} {σ : L2.St} {H F : Hp} {ρ : Sl} {vs : List V} {ps : List P} {z : P} {Q : VK}, R K cm W σ H F ρ → DPs K F vs ps → g ps = some z →
    (∀ w H' F', R K cm W σ H' F' ρ → Same F F' → Same H H' → DP K F' w z → Q w H') → r vs H Q
def dCall (g : List P → Option P) (f : EL) : EF := fun ρ => (f ρ).bind fun x => (g x.1).map fun z => (z, x.2)
theorem call_imp {r : List V → Hp → VK → Prop} {g : List P → Option P} {f : EL} (hv : VCall X.K cm r g) : ∀ σ H Q, tP X.K cm b (dCall g f) σ H Q → tCB r (tA X.K cm b f) σ H Q := by
  rintro σ H Q ⟨W, F, ρ, p, ρ', r, e, k⟩
  simp only [dCall, Option.bind_eq_some_iff, Option.map_eq_some_iff] at e
  obtain ⟨⟨p1, ρ1⟩, e1, z, e3, e4⟩ := e
  cases e4
  exact ⟨W, F, ρ, p1, ρ1, r, e1, fun vs H1 F1 r1 s1 u1 d1 => hv r1 d1 e3 fun w H' F' r2 s2 s3 d2 => k w H' F' r2 (s1.trans s2) (u1.then s3) d2⟩
theorem x_callB {x : Str} {id : String} {p : Pos} {r : List V → Hp → VK → Prop} {g : List P → Option P} {f : EL} (hc : CallR X (.builtin id) r) (hv : VCall X.K cm r g) (hg : Gl X x) (hm : X.mg x = none) (hb : bootBuiltins x = some (.builtin id)) (ha : PA X (e :: es) (tA X.K cm b f))
    (hn : x ≠ "__name__" := by decide) (hdb : (x == ("__debug__" : Str)) = false := by decide)
    (he : starEach (e :: es) X.env = (false, eval e X.env) :: starEach es X.env := by rfl) (hpl : (backTo pos (starEach es X.env)).any (·.1) = false := by rfl) : PE X (.Call (.Name x p) (e :: es) [] pos) (tP X.K cm b (dCall g f)) :=
  PE.imp (pe_callB hc hg hm hb ha hn hdb he hpl) (call_imp hv)
theorem x_callTy {x : Str} {T : String} {p : Pos} {r : List V → Hp → VK → Prop} {g : List P → Option P} {f : EL} (hc : CallR X (.type T) r) (hv : VCall X.K cm r g) (hg : Gl X x) (hm : X.mg x = none) (hb : bootBuiltins x = some (.type T)) (ha : PA X (e :: es) (tA X.K cm b f))
    (hn : x ≠ "__name__" := by decide) (hdb : (x == ("__debug__" : Str)) = false := by decide)
    (he : starEach (e :: es) X.env = (false, eval e X.env) :: starEach es X.env := by rfl) (hpl : (backTo pos (starEach es X.env)).any (·.1) = false := by rfl) : PE X (.Call (.Name x p) (e :: es) [] pos) (tP X.K cm b (dCall g f)) :=
  PE.imp (pe_callTy hc hg hm hb ha hn hdb he hpl) (call_imp hv)
/-- the result a new list -/
def VCallL (K : PySem.W.Frag) (cm : Str → Addr → Prop) (r : List V → Hp → VK → Prop) (g : List P → Option (List P)) : Prop :=
  ∀ {W : Hp} {σ : L2.St} {H F : Hp} {ρ : Sl} {vs : List V} {ps zs : List P} {Q : VK}, R K cm W σ H F ρ → DPs K F vs ps → g ps = some zs →
    (∀ p us, DPs K F us zs → H p = none → Q (.ref p) (upd H p (.lst us))) → r vs H Q
def dCallL (g : List P → Option (List P)) (f : EL) : EL := fun ρ => (f ρ).bind fun x => (g x.1).map fun z => (z, x.2)
theorem callL_imp {r : List V → Hp → VK → Prop} {g : List P → Option (List P)} {f : EL} (hv : VCallL X.K cm r g) : ∀ σ H Q, tL X.K cm b (dCallL g f) σ H Q → tCB r (tA X.K cm b f) σ H Q := by
  rintro σ H Q ⟨W, F, ρ, p, ρ', r, e, k⟩
  simp only [dCallL, Option.bind_eq_some_iff, Option.map_eq_some_iff] at e
  obtain ⟨⟨p1, ρ1⟩, e1, z, e3, e4⟩ := e
  cases e4
  exact ⟨W, F, ρ, p1, ρ1, r, e1, fun vs H1 F1 r1 s1 u1 d1 => hv r1 d1 e3 fun q us d2 hq => k q us H1 _ F1 r1 s1 u1 d2 hq rfl⟩
theorem l_callB {x : Str} {id : String} {p : Pos} {r : List V → Hp → VK → Prop} {g : List P → Option (List P)} {f : EL} (hc : CallR X (.builtin id) r) (hv : VCallL X.K cm r g) (hg : Gl X x) (hm : X.mg x = none) (hb : bootBuiltins x = some (.builtin id)) (ha : PA X (e :: es) (tA X.K cm b f))
    (hn : x ≠ "__name__" := by decide) (hdb : (x == ("__debug__" : Str)) = false := by decide)
    (he : starEach (e :: es) X.env = (false, eval e X.env) :: starEach es X.env := by rfl) (hpl : (backTo pos (starEach es X.env)).any (·.1) = false := by rfl) : PE X (.Call (.Name x p) (e :: es) [] pos) (tL X.K cm b (dCallL g f)) :=
  PE.imp (pe_callB hc hg hm hb ha hn hdb he hpl) (callL_imp hv)
theorem l_callTy {x : Str} {T : String} {p : Pos} {r : List V → Hp → VK → Prop} {g : List P → Option (List P)} {f : EL} (hc : CallR X (.type T) r) (hv : VCallL X.K cm r g) (hg : Gl X x) (hm : X.mg x = none) (hb : bootBuiltins x = some (.type T)) (ha : PA X (e :: es) (tA X.K cm b f))
    (hn : x ≠ "__name__" := by decide) (hdb : (x == ("__debug__" : Str)) = false := by decide)
    (he : starEach (e :: es) X.env = (false, eval e X.env) :: starEach es X.env := by rfl) (hpl : (backTo pos (starEach es X.env)).any (·.1) = false := by rfl) : PE X (.Call (.Name x p) (e :: es) [] pos) (tL X.K cm b (dCallL g f)) :=
  PE.imp (pe_callTy hc hg hm hb ha hn hdb he hpl) (callL_imp hv)

/-! the functions -/
def lenP : List P → Option P
  | [.list xs] => some (.int xs.length)
  | [.tuple xs] => some (.int xs.length)
  | [.str x] => if x.length ≤ 16777216 then some (.int x.length) else none
  | _ => none
theorem vc_len {K : PySem.W.Frag} : VCall K cm (fun xs H Q => ∃ x n, xs = [x] ∧ LenV K x H n ∧ Q (.int n) H) lenP := by
  intro W σ H F ρ vs ps z Q r d e k
  cases d with
  | nil => cases e
  | cons a t =>
    cases t with
    | cons _ _ => cases a <;> cases e
    | nil =>
      cases a with
      | lst h1 h2 =>
        cases e
        exact ⟨_, _, rfl, .inl ⟨_, (LK.mono h1 r.fh).seq, rfl⟩, by rw [DPs.length h2]; exact k _ H F r (Same.refl F) (Same.refl H) (.int _)⟩
      | tup h1 h2 =>
        cases e
        exact ⟨_, _, rfl, .inr ⟨_, SqT.mono h1 r.fh, rfl⟩, by rw [DPs.length h2]; exact k _ H F r (Same.refl F) (Same.refl H) (.int _)⟩
      | str x =>
        simp only [lenP] at e
        split at e
        · rename_i hz
          cases e
          exact ⟨_, _, rfl, ⟨by rw [sizeLine_eq]; exact hz, rfl⟩, k _ H F r (Same.refl F) (Same.refl H) (.int _)⟩
        · cases e
      | _ => cases e
def absP : List P → Option P
  | [.int i] => some (.int (if i < 0 then -i else i))
  | _ => none
def max2P : List P → Option P
  | [.int i, .int j] => some (.int (if j > i then j else i))
  | _ => none
def min2P : List P → Option P
  | [.int i, .int j] => some (.int (if j < i then j else i))
  | _ => none
def intP : List P → Option P
  | [.int i] => some (.int i)
  | [.bool k] => some (.int (if k then 1 else 0))
  | _ => none
theorem vc_abs {K : PySem.W.Frag} : VCall K cm (fun xs H Q => ∃ i, xs = [.int i] ∧ Q (.int (if i < 0 then -i else i)) H) absP := by
  intro W σ H F ρ vs ps z Q r d e k
  unfold absP at e
  split at e
  · cases e
    cases d with | cons a t => cases a; cases t; exact ⟨_, rfl, k _ H F r (Same.refl F) (Same.refl H) (.int _)⟩
  · cases e
theorem vc_max2 {K : PySem.W.Frag} : VCall K cm (fun xs H Q => ∃ i j, xs = [.int i, .int j] ∧ Q (.int (if j > i then j else i)) H) max2P := by
  intro W σ H F ρ vs ps z Q r d e k
  unfold max2P at e
  split at e
  · cases e
    cases d with | cons a t => cases a; cases t with | cons a t => cases a; cases t; exact ⟨_, _, rfl, k _ H F r (Same.refl F) (Same.refl H) (.int _)⟩
  · cases e
theorem vc_min2 {K : PySem.W.Frag} : VCall K cm (fun xs H Q => ∃ i j, xs = [.int i, .int j] ∧ Q (.int (if j < i then j else i)) H) min2P := by
  intro W σ H F ρ vs ps z Q r d e k
  unfold min2P at e
  split at e
  · cases e
    cases d with | cons a t => cases a; cases t with | cons a t => cases a; cases t; exact ⟨_, _, rfl, k _ H F r (Same.refl F) (Same.refl H) (.int _)⟩
  · cases e
theorem vc_int {K : PySem.W.Frag} : VCall K cm (fun xs H Q => (∃ i, xs = [.int i] ∧ Q (.int i) H) ∨ ∃ k, xs = [.bl k] ∧ Q (.int (if k then 1 else 0)) H) intP := by
  intro W σ H F ρ vs ps z Q r d e k
  unfold intP at e
  split at e
  · cases e
    cases d with | cons a t => cases a; cases t; exact .inl ⟨_, rfl, k _ H F r (Same.refl F) (Same.refl H) (.int _)⟩
  · cases e
    cases d with | cons a t => cases a; cases t; exact .inr ⟨_, rfl, k _ H F r (Same.refl F) (Same.refl H) (.int _)⟩
  · cases e
def intsP : List P → Option (List Int)
  | [] => some []
  | .int i :: r => (intsP r).map (i :: ·)
  | _ => none
def bolsP : List P → Option (List Bool)
  | [] => some []
  | .bool i :: r => (bolsP r).map (i :: ·)
  | _ => none
theorem ints_vs {K : PySem.W.Frag} {F : Hp} : ∀ {vs : List V} {ps : List P} {ns : List Int}, DPs K F vs ps → intsP ps = some ns → vs = ns.map V.int
  | _, _, _, .nil, e => by cases e; rfl
  | _, _, _, .cons a t, e => by
    cases a <;> simp only [intsP, reduceCtorEq] at e
    obtain ⟨ms, e1, rfl⟩ := Option.map_eq_some_iff.mp e
    rw [ints_vs t e1, List.map_cons]
theorem bols_vs {K : PySem.W.Frag} {F : Hp} : ∀ {vs : List V} {ps : List P} {ns : List Bool}, DPs K F vs ps → bolsP ps = some ns → vs = ns.map V.bl
  | _, _, _, .nil, e => by cases e; rfl
  | _, _, _, .cons a t, e => by
    cases a <;> simp only [bolsP, reduceCtorEq] at e
    obtain ⟨ms, e1, rfl⟩ := Option.map_eq_some_iff.mp e
    rw [bols_vs t e1, List.map_cons]
theorem intsP_map (ns : List Int) : intsP (ns.map .int) = some ns := by
  induction ns with
  | nil => rfl
  | cons n ns ih => simp [intsP, ih]
theorem bolsP_map (ns : List Bool) : bolsP (ns.map .bool) = some ns := by
  induction ns with
  | nil => rfl
  | cons n ns ih => simp [bolsP, ih]
def sumP : List P → Option P
  | [.list xs] => (intsP xs).map fun ns => .int ns.sum
  | _ => none
def anyP : List P → Option P
  | [.list xs] => (bolsP xs).map fun ns => .bool (ns.any id)
  | _ => none
def allP : List P → Option P
  | [.list xs] => (bolsP xs).map fun ns => .bool (ns.all id)
  | _ => none
theorem one_lst {K : PySem.W.Frag} {F : Hp} {vs : List V} {xs : List P} (d : DPs K F vs [.list xs]) : ∃ a us, vs = [.ref a] ∧ LK K F a us ∧ DPs K F us xs := by
  cases d with | cons a t => cases t; cases a; exact ⟨_, _, rfl, by assumption, by assumption⟩
theorem vc_sum {K : PySem.W.Frag} : VCall K cm (rSum K) sumP := by
  intro W σ H F ρ vs ps z Q r d e k
  unfold sumP at e
  split at e
  · obtain ⟨ns, e1, rfl⟩ := Option.map_eq_some_iff.mp e
    obtain ⟨a, us, rfl, h1, h2⟩ := one_lst d
    have e2 := ints_vs h2 e1
    subst e2
    exact ⟨a, ns, rfl, (LK.mono h1 r.fh).seq, k _ H F r (Same.refl F) (Same.refl H) (.int _)⟩
  · cases e
theorem vc_any {K : PySem.W.Frag} : VCall K cm (rAny K) anyP := by
  intro W σ H F ρ vs ps z Q r d e k
  unfold anyP at e
  split at e
  · obtain ⟨ns, e1, rfl⟩ := Option.map_eq_some_iff.mp e
    obtain ⟨a, us, rfl, h1, h2⟩ := one_lst d
    have e2 := bols_vs h2 e1
    subst e2
    exact ⟨a, ns, rfl, (LK.mono h1 r.fh).seq, k _ H F r (Same.refl F) (Same.refl H) (.bl _)⟩
  · cases e
theorem vc_all {K : PySem.W.Frag} : VCall K cm (rAll K) allP := by
  intro W σ H F ρ vs ps z Q r d e k
  unfold allP at e
  split at e
  · obtain ⟨ns, e1, rfl⟩ := Option.map_eq_some_iff.mp e
    obtain ⟨a, us, rfl, h1, h2⟩ := one_lst d
    have e2 := bols_vs h2 e1
    subst e2
    exact ⟨a, ns, rfl, (LK.mono h1 r.fh).seq, k _ H F r (Same.refl F) (Same.refl H) (.bl _)⟩
  · cases e
/-- list(x), tuple(x) -/
def listP : List P → Option (List P)
  | [.list xs] => some xs
  | [.tuple xs] => some xs
  | _ => none
def tupleP : List P → Option P
  | [.list xs] => some (.tuple xs)
  | [.tuple xs] => some (.tuple xs)
  | _ => none
theorem one_tup {K : PySem.W.Frag} {F : Hp} {vs : List V} {xs : List P} (d : DPs K F vs [.tuple xs]) : ∃ a us, vs = [.ref a] ∧ SqT K F a us ∧ DPs K F us xs := by
  cases d with | cons a t => cases t; cases a; exact ⟨_, _, rfl, by assumption, by assumption⟩
theorem vc_list {K : PySem.W.Frag} : VCallL K cm (fun xs H Q => ∃ p ys, xs = [.ref p] ∧ (SqL K H p ys ∨ SqT K H p ys) ∧ ∀ l, H l = none → Q (.ref l) (upd H l (.lst ys))) listP := by
  intro W σ H F ρ vs ps zs Q r d e k
  unfold listP at e
  split at e
  · cases e
    obtain ⟨a, us, rfl, h1, h2⟩ := one_lst d
    exact ⟨a, us, rfl, .inl ((LK.mono h1 r.fh).seq), fun l hl => k l us h2 hl⟩
  · cases e
    obtain ⟨a, us, rfl, h1, h2⟩ := one_tup d
    exact ⟨a, us, rfl, .inr (SqT.mono h1 r.fh), fun l hl => k l us h2 hl⟩
  · cases e
theorem vc_tuple {K : PySem.W.Frag} : VCall K cm (fun xs H Q => ∃ p ys, xs = [.ref p] ∧ ((SqL K H p ys ∧ ∀ l, H l = none → Q (.ref l) (upd H l (.tup ys))) ∨ (SqT K H p ys ∧ Q (.ref p) H))) tupleP := by
  intro W σ H F ρ vs ps zs Q r d e k
  unfold tupleP at e
  split at e
  · cases e
    obtain ⟨a, us, rfl, h1, h2⟩ := one_lst d
    refine ⟨a, us, rfl, .inl ⟨(LK.mono h1 r.fh).seq, fun l hl => ?_⟩⟩
    have fp := r.fh.free hl
    exact k _ _ _ (r.laid hl) (same_upd fp) (same_upd hl) (laid_tup (σ := σ) (H := H) (ρ := ρ) h2 fp)
  · cases e
    obtain ⟨a, us, rfl, h1, h2⟩ := one_tup d
    exact ⟨a, us, rfl, .inr ⟨SqT.mono h1 r.fh, k _ H F r (Same.refl F) (Same.refl H) (.tup h1 h2)⟩⟩
  · cases e
section
variable {p : Pos} {f : EL}
abbrev MgN (X : Cx) (x : Str) : Prop := X.mg x = none
theorem x_len (hm : MgN X "len") (ha : PA X (e :: es) (tA X.K cm b f)) (hg : Gl X "len" := by rfl)
    (he : starEach (e :: es) X.env = (false, eval e X.env) :: starEach es X.env := by rfl) (hpl : (backTo pos (starEach es X.env)).any (·.1) = false := by rfl) : PE X (.Call (.Name "len" p) (e :: es) [] pos) (tP X.K cm b (dCall lenP f)) := x_callB call_len vc_len hg hm PySem.boot_len ha (by decide) (by decide) he hpl
theorem x_abs (hm : MgN X "abs") (ha : PA X (e :: es) (tA X.K cm b f)) (hg : Gl X "abs" := by rfl)
    (he : starEach (e :: es) X.env = (false, eval e X.env) :: starEach es X.env := by rfl) (hpl : (backTo pos (starEach es X.env)).any (·.1) = false := by rfl) : PE X (.Call (.Name "abs" p) (e :: es) [] pos) (tP X.K cm b (dCall absP f)) := x_callB call_abs vc_abs hg hm (by decide +kernel) ha (by decide) (by decide) he hpl
theorem x_max2 (hc : X.calm = true) (hm : MgN X "max") (ha : PA X (e :: es) (tA X.K cm b f)) (hg : Gl X "max" := by rfl)
    (he : starEach (e :: es) X.env = (false, eval e X.env) :: starEach es X.env := by rfl) (hpl : (backTo pos (starEach es X.env)).any (·.1) = false := by rfl) : PE X (.Call (.Name "max" p) (e :: es) [] pos) (tP X.K cm b (dCall max2P f)) := x_callB (call_max2 hc) vc_max2 hg hm (by decide +kernel) ha (by decide) (by decide) he hpl
theorem x_min2 (hc : X.calm = true) (hm : MgN X "min") (ha : PA X (e :: es) (tA X.K cm b f)) (hg : Gl X "min" := by rfl)
    (he : starEach (e :: es) X.env = (false, eval e X.env) :: starEach es X.env := by rfl) (hpl : (backTo pos (starEach es X.env)).any (·.1) = false := by rfl) : PE X (.Call (.Name "min" p) (e :: es) [] pos) (tP X.K cm b (dCall min2P f)) := x_callB (call_min2 hc) vc_min2 hg hm (by decide +kernel) ha (by decide) (by decide) he hpl
theorem x_sum (hc : X.calm = true) (hm : MgN X "sum") (ha : PA X (e :: es) (tA X.K cm b f)) (hg : Gl X "sum" := by rfl)
    (he : starEach (e :: es) X.env = (false, eval e X.env) :: starEach es X.env := by rfl) (hpl : (backTo pos (starEach es X.env)).any (·.1) = false := by rfl) : PE X (.Call (.Name "sum" p) (e :: es) [] pos) (tP X.K cm b (dCall sumP f)) := x_callB (cr_sum hc) vc_sum hg hm (by decide +kernel) ha (by decide) (by decide) he hpl
theorem x_any (hc : X.calm = true) (hm : MgN X "any") (ha : PA X (e :: es) (tA X.K cm b f)) (hg : Gl X "any" := by rfl)
    (he : starEach (e :: es) X.env = (false, eval e X.env) :: starEach es X.env := by rfl) (hpl : (backTo pos (starEach es X.env)).any (·.1) = false := by rfl) : PE X (.Call (.Name "any" p) (e :: es) [] pos) (tP X.K cm b (dCall anyP f)) := x_callB (cr_any hc) vc_any hg hm (by decide +kernel) ha (by decide) (by decide) he hpl
theorem x_all (hc : X.calm = true) (hm : MgN X "all") (ha : PA X (e :: es) (tA X.K cm b f)) (hg : Gl X "all" := by rfl)
    (he : starEach (e :: es) X.env = (false, eval e X.env) :: starEach es X.env := by rfl) (hpl : (backTo pos (starEach es X.env)).any (·.1) = false := by rfl) : PE X (.Call (.Name "all" p) (e :: es) [] pos) (tP X.K cm b (dCall allP f)) := x_callB (cr_all hc) vc_all hg hm (by decide +kernel) ha (by decide) (by decide) he hpl
theorem x_int1 (hm : MgN X "int") (ha : PA X (e :: es) (tA X.K cm b f)) (hg : Gl X "int" := by rfl)
    (he : starEach (e :: es) X.env = (false, eval e X.env) :: starEach es X.env := by rfl) (hpl : (backTo pos (starEach es X.env)).any (·.1) = false := by rfl) : PE X (.Call (.Name "int" p) (e :: es) [] pos) (tP X.K cm b (dCall intP f)) := x_callTy call_int1 vc_int hg hm (by decide +kernel) ha (by decide) (by decide) he hpl
theorem x_tuple (hm : MgN X "tuple") (ha : PA X (e :: es) (tA X.K cm b f)) (hg : Gl X "tuple" := by rfl)
    (he : starEach (e :: es) X.env = (false, eval e X.env) :: starEach es X.env := by rfl) (hpl : (backTo pos (starEach es X.env)).any (·.1) = false := by rfl) : PE X (.Call (.Name "tuple" p) (e :: es) [] pos) (tP X.K cm b (dCall tupleP f)) := x_callTy call_tuple_of vc_tuple hg hm (by decide +kernel) ha (by decide) (by decide) he hpl
theorem l_list (hm : MgN X "list") (ha : PA X (e :: es) (tA X.K cm b f)) (hg : Gl X "list" := by rfl)
    (he : starEach (e :: es) X.env = (false, eval e X.env) :: starEach es X.env := by rfl) (hpl : (backTo pos (starEach es X.env)).any (·.1) = false := by rfl) : PE X (.Call (.Name "list" p) (e :: es) [] pos) (tL X.K cm b (dCallL listP f)) := l_callTy call_list_of vc_list hg hm (by decide +kernel) ha (by decide) (by decide) he hpl
end
end
end
end HW

namespace HW
open PySem PySem.Spec PyProof.Rows L2
noncomputable section

/-! ### what is walked -/
def Stp (K : PySem.W.Frag) (F H F' H' : Hp) : Prop := Same F F' ∧ Same H H' ∧ ∀ (cm : Str → Addr → Prop) (W : Hp) (σ : L2.St) (ρ : Sl), R K cm W σ H F ρ → R K cm W σ H' F' ρ
theorem Stp.refl {K : PySem.W.Frag} {F H : Hp} : Stp K F H F H := ⟨Same.refl F, Same.refl H, fun _ _ _ _ r => r⟩
theorem Stp.laid {K : PySem.W.Frag} {F H : Hp} {p : Addr} {o : HO} (s : Same F H) (hp : H p = none) : Stp K F H (upd F p o) (upd H p o) := ⟨same_upd (s.free hp), same_upd hp, fun _ _ _ _ r => r.laid hp⟩
def WalkD (K : PySem.W.Frag) (F0 : Hp) (J : It) (ps : List P) : Prop := ∀ (i : Nat) (F H : Hp), Same F0 F → Same F H →
  (∀ p, ps[i]? = some p → J.go i H ∧ ∀ x H', J.yld i H x H' → ∃ F', Stp K F H F' H' ∧ DP K F' x p) ∧ (ps.length ≤ i → J.stop i H)
theorem WalkD.mono {K : PySem.W.Frag} {F0 F1 : Hp} {J : It} {ps : List P} (w : WalkD K F0 J ps) (s : Same F0 F1) : WalkD K F1 J ps := fun i F H h1 h2 => w i F H (s.trans h1) h2
def tI (K : PySem.W.Frag) (cm : Str → Addr → Prop) (b : Bool) (f : EL) : TI := fun σ H Rk => ∃ W F ρ ps ρ', R K cm W σ H F ρ ∧ f ρ = some (ps, ρ') ∧ ∀ J H' F', R K cm W σ H' F' ρ' → Same F F' → Pu b ρ ρ' H H' → WalkD K F' J ps → Rk J H'
theorem PI.imp {X : Cx} {tg e : Expr} {t t' : TI} (h : PI X tg e t) (m : ∀ σ H Q, t' σ H Q → t σ H Q) : PI X tg e t' := ⟨fun pins s σ H Q I q => h.run pins s σ H Q I (m _ _ _ q)⟩
section
variable {X : Cx} {cm : Str → Addr → Prop} {W : Hp} {pos : Pos} {a c e tg : Expr} {es : List Expr} {f f1 f2 : EF} {b b1 b2 b3 : Bool}
theorem walk_list {K : PySem.W.Frag} {F : Hp} {ad : Addr} {vs : List V} {ps : List P} (h : LK K F ad vs) (d : DPs K F vs ps) : WalkD K F (Itl K ad) ps := fun i F1 H s1 s2 => by
  have hq : SqL K H ad vs := ((h.mono s1).mono s2).seq
  refine ⟨fun p hp => ?_, fun hl => ⟨vs, hq, by rw [DPs.length d]; exact hl⟩⟩
  obtain ⟨v, hv, dv⟩ := DPs.get d hp
  refine ⟨⟨vs, v, hq, hv⟩, fun x H' y => ?_⟩
  obtain ⟨rfl, y⟩ := y
  have e : x = v := Option.some.inj ((y vs hq).symm.trans hv)
  subst e
  exact ⟨F1, Stp.refl, DP.mono dv s1⟩
theorem walk_tup {K : PySem.W.Frag} {F : Hp} {ad : Addr} {vs : List V} {ps : List P} (h : SqT K F ad vs) (d : DPs K F vs ps) : WalkD K F (Itt K ad) ps := fun i F1 H s1 s2 => by
  have hq : SqT K H ad vs := SqT.mono (SqT.mono h s1) s2
  refine ⟨fun p hp => ?_, fun hl => ⟨vs, hq, by rw [DPs.length d]; exact hl⟩⟩
  obtain ⟨v, hv, dv⟩ := DPs.get d hp
  refine ⟨⟨vs, v, hq, hv⟩, fun x H' y => ?_⟩
  obtain ⟨rfl, y⟩ := y
  have e : x = v := Option.some.inj ((y vs hq).symm.trans hv)
  subst e
  exact ⟨F1, Stp.refl, DP.mono dv s1⟩
def signs (x : Str) : List P := x.cps.toList.map fun c => .str ⟨#[c]⟩
theorem walk_str {K : PySem.W.Frag} {F : Hp} (x : Str) : WalkD K F (Its x) (signs x) := fun i F1 H s1 s2 => by
  refine ⟨fun p hp => ?_, fun hl => (show x.cps.size ≤ i by simpa [signs] using hl)⟩
  unfold signs at hp
  rw [List.getElem?_map] at hp
  obtain ⟨c, hc, rfl⟩ := Option.map_eq_some_iff.mp hp
  have hc' : x.cps[i]? = some c := by simpa using hc
  refine ⟨(Array.getElem?_eq_some_iff.mp hc').1, fun v H' y => ?_⟩
  obtain ⟨rfl, c', e1, rfl⟩ := y
  rw [hc'] at e1
  cases e1
  exact ⟨F1, Stp.refl, .str _⟩
def rngL (lo : Int) (n : Nat) : List P := (List.range n).map fun (i : Nat) => .int (lo + (i : Int))
theorem walk_rng {K : PySem.W.Frag} {F : Hp} (lo : Int) (n : Nat) : WalkD K F (Itr lo n) (rngL lo n) := fun i F1 H s1 s2 => by
  refine ⟨fun p hp => ?_, fun hl => (show n ≤ i by simpa [rngL] using hl)⟩
  unfold rngL at hp
  rw [List.getElem?_map] at hp
  obtain ⟨j, hj, rfl⟩ := Option.map_eq_some_iff.mp hp
  obtain ⟨h1, h2⟩ := List.getElem?_eq_some_iff.mp hj
  rw [List.getElem_range] at h2
  subst h2
  refine ⟨(show i < n by simpa using h1), fun v H' y => ?_⟩
  obtain ⟨rfl, rfl⟩ := y
  exact ⟨F1, Stp.refl, .int _⟩
def rngC (lo c : Int) (n : Nat) : List P := (List.range n).map fun (i : Nat) => .int (lo + (i : Int) * c)
theorem walk_rngC {K : PySem.W.Frag} {F : Hp} (lo c : Int) (n : Nat) : WalkD K F (Itc lo c n) (rngC lo c n) := fun i F1 H s1 s2 => by
  refine ⟨fun p hp => ?_, fun hl => (show n ≤ i by simpa [rngC] using hl)⟩
  unfold rngC at hp
  rw [List.getElem?_map] at hp
  obtain ⟨j, hj, rfl⟩ := Option.map_eq_some_iff.mp hp
  obtain ⟨h1, h2⟩ := List.getElem?_eq_some_iff.mp hj
  rw [List.getElem_range] at h2
  subst h2
  refine ⟨(show i < n by simpa using h1), fun v H' y => ?_⟩
  obtain ⟨rfl, rfl⟩ := y
  exact ⟨F1, Stp.refl, .int _⟩
/-- a value is walked: a list, a tuple, a text -/
def itP : P → Option (List P)
  | .list xs => some xs
  | .tuple xs => some xs
  | .str x => some (signs x)
  | _ => none
def dIt (f : EF) : EL := fun ρ => (f ρ).bind fun x => (itP x.1).map fun y => (y, x.2)
/-- the iterator of a value -/
theorem iter_val {K : PySem.W.Frag} {pins : List (Addr × Obj)} {s1 : Shared} {σ : L2.St} {H1 F : Hp} {v : Value} {x : V} {p : P} {ps : List P} {Rk : It → Hp → Prop} {E : Value → Shared → Prop} (I1 : Inv X pins σ H1 s1) (hK : X.K = K) (rx : RelV x v) (s : Same F H1) (d : DP K F x p) (e : itP p = some ps)
    (k : ∀ J, WalkD K F J ps → Rk J H1) : wpAny (model X.prog X.w) X.A (pyIter v) (PIE X pins σ tg Rk) E s1 := by
  subst hK
  cases d with
  | lst h1 h2 =>
    rename_i ad xs qs
    cases e
    cases rx
    have hq : SqL X.K H1 ad xs := (LK.mono h1 s).seq
    obtain ⟨its, rv, p, hz⟩ := I1.list hq
    refine wpAny_pyIter_list p.isList ?_
    refine ⟨s1.heap.objs.size, [s1.heap.objs.size], _, _, H1, rfl, I1.kept (t' := s1.toks) fun b o e => Heap.get?_push_of_some _ e, turn_list ad _, ⟨_, Heap.get?_push_size _ rfl, rfl, rfl⟩, fun b hb => ?_, k _ (walk_list h1 h2)⟩
    have e : b = s1.heap.objs.size := by simpa using hb
    subst e
    exact I1.fpOk (Nat.le_refl _) (I1.hok.fresh (Nat.le_refl _))
  | tup h1 h2 =>
    rename_i ad xs qs
    cases e
    cases rx
    have hq : SqT X.K H1 ad xs := SqT.mono h1 s
    obtain ⟨its, rv, p, hz⟩ := I1.tuple hq
    refine wpAny_pyIter_tuple (show s1.heap.IsTuple ad its.toArray from p) ?_
    refine ⟨s1.heap.objs.size, [s1.heap.objs.size], _, _, H1, rfl, I1.kept (t' := s1.toks) fun b o e => Heap.get?_push_of_some _ e, turn_tuple ad _, ⟨_, Heap.get?_push_size _ rfl, rfl, rfl⟩, fun b hb => ?_, k _ (walk_tup h1 h2)⟩
    have e : b = s1.heap.objs.size := by simpa using hb
    subst e
    exact I1.fpOk (Nat.le_refl _) (I1.hok.fresh (Nat.le_refl _))
  | str x =>
    cases e
    obtain ⟨t, rfl⟩ := rx
    cases ha : x.cps.all (· < 128)
    · exact wpAny_pyIter_wide ha (pi_one (tk := s1.toks) I1 _ (turn_str _ x t "str_iterator" (.inr rfl)) ⟨_, Heap.get?_push_size _ rfl, rfl, rfl⟩ (k _ (walk_str x)))
    · exact wpAny_pyIter_ascii ha (pi_one (tk := s1.toks) I1 _ (turn_str _ x t "str_ascii_iterator" (.inl rfl)) ⟨_, Heap.get?_push_size _ rfl, rfl, rfl⟩ (k _ (walk_str x)))
  | _ => cases e
theorem i_val (ha : PE X e (tP X.K cm b f)) : PI X tg e (tI X.K cm b (dIt f)) := by
  refine ⟨fun pins s σ H Rk I ⟨W, F, ρ, ps, ρ', r, e, k⟩ => ?_⟩
  simp only [dIt, Option.bind_eq_some_iff, Option.map_eq_some_iff] at e
  obtain ⟨⟨p1, ρ1⟩, e1, ys, e2, e3⟩ := e
  cases e3
  refine thn (ha.run pins s σ H (fun v H' => ∃ F', R X.K cm W σ H' F' ρ1 ∧ Same F F' ∧ Pu b ρ ρ1 H H' ∧ DP X.K F' v p1) I ⟨W, F, ρ, p1, ρ1, r, e1, fun v H1 F1 r1 s1 u1 d1 => ⟨F1, r1, s1, u1, d1⟩⟩) fun v s1 ⟨x, H1, I1, rx, F1, r1, ss1, u1, d1⟩ => ?_
  exact iter_val I1 rfl rx r1.fh d1 e2 fun J w => k J H1 F1 r1 ss1 u1 w
/-- range -/
def rng1P : List P → Option (List P)
  | [.int j] => @ite _ (-(2 ^ 62) ≤ j ∧ j < 2 ^ 62) (Classical.propDecidable _) (some (rngL 0 j.toNat)) none
  | _ => none
def rng2P : List P → Option (List P)
  | [.int i, .int j] => @ite _ (-(2 ^ 62) ≤ i ∧ i < 2 ^ 62 ∧ -(2 ^ 62) ≤ j ∧ j < 2 ^ 62) (Classical.propDecidable _) (some (rngL i (j - i).toNat)) none
  | _ => none
def dItA (g : List P → Option (List P)) (f : EL) : EL := fun ρ => (f ρ).bind fun x => (g x.1).map fun y => (y, x.2)
theorem i_range1 {p : Pos} {f : EL} (hm : MgN X "range") (ha : PA X [a] (tA X.K cm b f)) (hg : Gl X "range" := by rfl) (hs : starEach [a] X.env = [(false, eval a X.env)] := by rfl) : PI X tg (.Call (.Name "range" p) [a] [] pos) (tI X.K cm b (dItA rng1P f)) :=
  HW.PI.imp (pi_range1 hg hm ha hs) fun σ H Rk ⟨W, F, ρ, ps, ρ', r, e, k⟩ => by
    simp only [dItA, Option.bind_eq_some_iff, Option.map_eq_some_iff] at e
    obtain ⟨⟨p1, ρ1⟩, e1, ys, e2, e3⟩ := e
    cases e3
    refine ⟨W, F, ρ, p1, ρ1, r, e1, fun vs H1 F1 r1 s1 u1 d1 => ?_⟩
    have e2' : rng1P p1 = some _ := e2
    unfold rng1P at e2'
    split at e2'
    · rename_i j
      split at e2'
      · rename_i hj
        cases e2'
        cases d1 with | cons x t => cases t; cases x; exact ⟨j, rfl, hj.1, hj.2, k _ H1 F1 r1 s1 u1 (walk_rng _ _)⟩
      · cases e2'
    · cases e2'
theorem i_range2 {p : Pos} {f : EL} (hm : MgN X "range") (ha : PA X [a, c] (tA X.K cm b f)) (hg : Gl X "range" := by rfl) (hs : starEach [a, c] X.env = [(false, eval a X.env), (false, eval c X.env)] := by rfl) (hs2 : starEach [c] X.env = [(false, eval c X.env)] := by rfl) : PI X tg (.Call (.Name "range" p) [a, c] [] pos) (tI X.K cm b (dItA rng2P f)) :=
  HW.PI.imp (pi_range2 hg hm ha hs hs2) fun σ H Rk ⟨W, F, ρ, ps, ρ', r, e, k⟩ => by
    simp only [dItA, Option.bind_eq_some_iff, Option.map_eq_some_iff] at e
    obtain ⟨⟨p1, ρ1⟩, e1, ys, e2, e3⟩ := e
    cases e3
    refine ⟨W, F, ρ, p1, ρ1, r, e1, fun vs H1 F1 r1 s1 u1 d1 => ?_⟩
    have e2' : rng2P p1 = some _ := e2
    unfold rng2P at e2'
    split at e2'
    · rename_i i j
      split at e2'
      · rename_i hj
        cases e2'
        cases d1 with | cons x t => cases t with | cons y t => cases t; cases x; cases y; exact ⟨i, j, rfl, hj, k _ H1 F1 r1 s1 u1 (walk_rng _ _)⟩
      · cases e2'
    · cases e2'
def rng3P : List P → Option (List P)
  | [.int i, .int j, .int c] =>
    @ite _ (-(2 ^ 62) ≤ i ∧ i < 2 ^ 62 ∧ -(2 ^ 62) ≤ j ∧ j < 2 ^ 62) (Classical.propDecidable _)
      (if c = -1 then some (rngC i (-1) (i - j).toNat)
      else @ite _ (c ≠ 0 ∧ c.natAbs < 1073741824 ∧ Builtin.Range.small i j c = true ∧ 0 ≤ Builtin.Range.rangeSize i j c) (Classical.propDecidable _) (some (rngC i c (Builtin.Range.rangeSize i j c).toNat)) none)
    none
  | _ => none
/-- range with a step -/
theorem rng3_some {ps zs : List P} (h : rng3P ps = some zs) : ∃ (i j c : Int) (n : Nat), ps = [.int i, .int j, .int c] ∧ RgC i j c n ∧ zs = rngC i c n := by
  unfold rng3P at h
  split at h
  · rename_i i j c
    split at h
    · rename_i hb
      split at h
      · rename_i hc
        cases h
        subst hc
        exact ⟨i, j, -1, _, rfl, RgC.neg hb.1 hb.2.1 hb.2.2.1 hb.2.2.2, rfl⟩
      · split at h
        · rename_i hc
          cases h
          exact ⟨i, j, c, _, rfl, ⟨hc.1, hc.2.1, hc.2.2.1, by have := hc.2.2.2; omega⟩, rfl⟩
        · cases h
    · cases h
  · cases h
theorem i_range3 {d : Expr} {p : Pos} {f : EL} (hm : MgN X "range") (ha : PA X [a, c, d] (tA X.K cm b f)) (hg : Gl X "range" := by rfl) (hs : starEach [a, c, d] X.env = (false, eval a X.env) :: starEach [c, d] X.env := by rfl) (hpl : (backTo pos (starEach [c, d] X.env)).any (·.1) = false := by rfl) : PI X tg (.Call (.Name "range" p) [a, c, d] [] pos) (tI X.K cm b (dItA rng3P f)) :=
  HW.PI.imp (pi_range3 hg hm ha hs hpl) fun σ H Rk ⟨W, F, ρ, ps, ρ', r, e, k⟩ => by
    simp only [dItA, Option.bind_eq_some_iff, Option.map_eq_some_iff] at e
    obtain ⟨⟨p1, ρ1⟩, e1, ys, e2, e3⟩ := e
    cases e3
    refine ⟨W, F, ρ, p1, ρ1, r, e1, fun vs H1 F1 r1 s1 u1 d1 => ?_⟩
    obtain ⟨i, j, c, n, h1, h2, h3⟩ := rng3_some e2
    have h1' : p1 = [.int i, .int j, .int c] := h1
    subst h1'
    subst h3
    cases d1 with | cons x t => cases t with | cons y t => cases t with | cons z t => cases t; cases x; cases y; cases z; exact ⟨i, j, c, n, rfl, h2, k _ H1 F1 r1 s1 u1 (walk_rngC _ _ _)⟩
/-- enumerate(list) -/
def enumL : Nat → List P → List P
  | _, [] => []
  | n, p :: ps => .tuple [.int n, p] :: enumL (n + 1) ps
theorem enumL_get : ∀ {ps : List P} {n i : Nat} {q : P}, (enumL n ps)[i]? = some q → ∃ p, ps[i]? = some p ∧ q = .tuple [.int ((n + i : Nat) : Int), p]
  | [], _, _, _, h => by simp [enumL] at h
  | p :: ps, n, 0, q, h => by
    simp [enumL] at h
    exact ⟨p, rfl, h.symm⟩
  | p :: ps, n, i + 1, q, h => by
    obtain ⟨r, h1, h2⟩ := enumL_get (ps := ps) (n := n + 1) (i := i) (by simpa [enumL] using h)
    exact ⟨r, by simpa using h1, by rw [h2, show n + 1 + i = n + (i + 1) by omega]⟩
theorem enumL_len : ∀ (ps : List P) (n : Nat), (enumL n ps).length = ps.length
  | [], _ => rfl
  | _ :: ps, n => by simp [enumL, enumL_len ps]
theorem walk_enum {K : PySem.W.Frag} {F : Hp} {ad : Addr} {vs : List V} {ps : List P} (h : LK K F ad vs) (d : DPs K F vs ps) : WalkD K F (Ite K ad) (enumL 0 ps) := fun i F1 H s1 s2 => by
  have hq : SqL K H ad vs := ((h.mono s1).mono s2).seq
  refine ⟨fun p hp => ?_, fun hl => ⟨vs, hq, by rw [DPs.length d]; rw [enumL_len] at hl; exact hl⟩⟩
  obtain ⟨p0, h0, rfl⟩ := enumL_get hp
  obtain ⟨v, hv, dv⟩ := DPs.get d h0
  refine ⟨⟨vs, v, hq, hv⟩, fun x H' y => ?_⟩
  obtain ⟨T, x0, rfl, hT, rfl, y⟩ := y
  have e : x0 = v := Option.some.inj ((y vs hq).symm.trans hv)
  subst e
  refine ⟨upd F1 T (.tup [.int (i : Nat), x0]), Stp.laid s2 hT, ?_⟩
  rw [Nat.zero_add]
  exact laid_tup (σ := []) (H := H) (ρ := []) (.cons (.int _) (.cons (DP.mono dv s1) .nil)) (s2.free hT)
def enumP : List P → Option (List P)
  | [.list xs] => some (enumL 0 xs)
  | _ => none
theorem i_enum {p tpos : Pos} {elts : List Expr} {kk : Nat} {f : EL} (hm : MgN X "enumerate") (ha : PA X [a] (tA X.K cm b f)) (hg : Gl X "enumerate" := by rfl) (hs : starEach [a] X.env = [(false, eval a X.env)] := by rfl) : PI X (.Tuple elts kk tpos) (.Call (.Name "enumerate" p) [a] [] pos) (tI X.K cm b (dItA enumP f)) :=
  HW.PI.imp (pi_enum hg hm ha hs) fun σ H Rk ⟨W, F, ρ, ps, ρ', r, e, k⟩ => by
    simp only [dItA, Option.bind_eq_some_iff, Option.map_eq_some_iff] at e
    obtain ⟨⟨p1, ρ1⟩, e1, ys, e2, e3⟩ := e
    cases e3
    refine ⟨W, F, ρ, p1, ρ1, r, e1, fun vs H1 F1 r1 s1 u1 d1 => ?_⟩
    have e2' : enumP p1 = some _ := e2
    unfold enumP at e2'
    split at e2'
    · cases e2'
      obtain ⟨ad, us, rfl, h1, h2⟩ := one_lst d1
      exact ⟨ad, us, rfl, (LK.mono h1 r1.fh).seq, k _ H1 F1 r1 s1 u1 (walk_enum h1 h2)⟩
    · cases e2'
/-- zip(list, list) -/
def zipL : List P → List P → List P
  | p :: ps, q :: qs => .tuple [p, q] :: zipL ps qs
  | _, _ => []
theorem zipL_get : ∀ {ps qs : List P} {i : Nat} {z : P}, (zipL ps qs)[i]? = some z → ∃ p q, ps[i]? = some p ∧ qs[i]? = some q ∧ z = .tuple [p, q]
  | [], _, _, _, h => by simp [zipL] at h
  | _ :: _, [], _, _, h => by simp [zipL] at h
  | p :: ps, q :: qs, 0, z, h => by
    simp [zipL] at h
    exact ⟨p, q, rfl, rfl, h.symm⟩
  | p :: ps, q :: qs, i + 1, z, h => by simpa using zipL_get (ps := ps) (qs := qs) (i := i) (by simpa [zipL] using h)
theorem zipL_len : ∀ (ps qs : List P), (zipL ps qs).length = min ps.length qs.length
  | [], _ => by simp [zipL]
  | _ :: _, [] => by simp [zipL]
  | _ :: ps, _ :: qs => by simp [zipL, zipL_len ps qs]
theorem walk_zip {K : PySem.W.Frag} {F : Hp} {ad bd : Addr} {vs us : List V} {ps qs : List P} (h : LK K F ad vs) (d : DPs K F vs ps) (h' : LK K F bd us) (d' : DPs K F us qs) : WalkD K F (Itz K ad bd) (zipL ps qs) := fun i F1 H s1 s2 => by
  have hq : SqL K H ad vs := ((h.mono s1).mono s2).seq
  have hq' : SqL K H bd us := ((h'.mono s1).mono s2).seq
  refine ⟨fun p hp => ?_, fun hl => ⟨vs, us, hq, hq', by rw [DPs.length d, DPs.length d']; rw [zipL_len] at hl; omega⟩⟩
  obtain ⟨p0, q0, h0, h1, rfl⟩ := zipL_get hp
  obtain ⟨v, hv, dv⟩ := DPs.get d h0
  obtain ⟨u, hu, du⟩ := DPs.get d' h1
  refine ⟨⟨vs, us, v, u, hq, hq', hv, hu⟩, fun x H' y => ?_⟩
  obtain ⟨T, x0, y0, rfl, hT, rfl, y1, y2⟩ := y
  have e : x0 = v := Option.some.inj ((y1 vs hq).symm.trans hv)
  subst e
  have e : y0 = u := Option.some.inj ((y2 us hq').symm.trans hu)
  subst e
  exact ⟨upd F1 T (.tup [x0, y0]), Stp.laid s2 hT, laid_tup (σ := []) (H := H) (ρ := []) (.cons (DP.mono dv s1) (.cons (DP.mono du s1) .nil)) (s2.free hT)⟩
def zipP : List P → Option (List P)
  | [.list xs, .list ys] => some (zipL xs ys)
  | _ => none
theorem i_zip {p tpos : Pos} {elts : List Expr} {kk : Nat} {f : EL} (hm : MgN X "zip") (ha : PA X [a, c] (tA X.K cm b f)) (hg : Gl X "zip" := by rfl) (hs : starEach [a, c] X.env = (false, eval a X.env) :: starEach [c] X.env := by rfl) (hpl : (backTo pos (starEach [c] X.env)).any (·.1) = false := by rfl) : PI X (.Tuple elts kk tpos) (.Call (.Name "zip" p) [a, c] [] pos) (tI X.K cm b (dItA zipP f)) :=
  HW.PI.imp (pi_zip hg hm ha hs hpl) fun σ H Rk ⟨W, F, ρ, ps, ρ', r, e, k⟩ => by
    simp only [dItA, Option.bind_eq_some_iff, Option.map_eq_some_iff] at e
    obtain ⟨⟨p1, ρ1⟩, e1, ys, e2, e3⟩ := e
    cases e3
    refine ⟨W, F, ρ, p1, ρ1, r, e1, fun vs H1 F1 r1 s1 u1 d1 => ?_⟩
    have e2' : zipP p1 = some _ := e2
    unfold zipP at e2'
    split at e2'
    · cases e2'
      cases d1 with | cons x t =>
        obtain ⟨bd, us', rfl, h3, h4⟩ := one_lst t
        cases x with | lst h1 h2 =>
          exact ⟨_, _, _, _, rfl, (LK.mono h1 r1.fh).seq, (LK.mono h3 r1.fh).seq, k _ H1 F1 r1 s1 u1 (walk_zip h1 h2 h3 h4)⟩
    · cases e2'

/-! ### targets -/
inductive Tg where
  | nm (i : Nat)
  | tnil
  | tcons (a : Tg) (r : Tg)
def bindT : Tg → P → Sl → Option Sl
  | .nm i, p, ρ => some (ρ.set i (.pd p))
  | .tnil, .tuple [], ρ => some ρ
  | .tcons a r, .tuple (p :: ps), ρ => (bindT a p ρ).bind fun ρ1 => bindT r (.tuple ps) ρ1
  | _, _, _ => none
def Tg.len : Tg → Nat
  | .tcons _ r => r.len + 1
  | _ => 0
/-- outside of some slots nothing changes -/
def Out (as : Nat → Bool) (σ σ' : L2.St) : Prop := ∀ i, as i = false → σ'[i]? = σ[i]?
theorem Out.refl {as : Nat → Bool} {σ : L2.St} : Out as σ σ := fun _ _ => rfl
theorem Out.trans {as : Nat → Bool} {σ σ1 σ2 : L2.St} (x : Out as σ σ1) (y : Out as σ1 σ2) : Out as σ σ2 := fun i h => (y i h).trans (x i h)
theorem Out.set {as : Nat → Bool} {σ : L2.St} {i : Nat} {v : Option V} (h : as i = true) : Out as σ (σ.set i v) := fun j hj => by
  rw [List.getElem?_set_ne]
  intro e
  subst e
  rw [h] at hj
  cases hj
def tTg (K : PySem.W.Frag) (cm : Str → Addr → Prop) (as : Nat → Bool) (tg : Tg) : TG := fun v σ H Q => ∃ W F ρ p ρ', R K cm W σ H F ρ ∧ DP K F v p ∧ bindT tg p ρ = some ρ' ∧ ∀ σ', R K cm W σ' H F ρ' → Out as σ σ' → Q σ' H
def tTgs (K : PySem.W.Frag) (cm : Str → Addr → Prop) (as : Nat → Bool) (tg : Tg) : TGs := fun vs σ H Q => ∃ W F ρ ps ρ', R K cm W σ H F ρ ∧ DPs K F vs ps ∧ bindT tg (.tuple ps) ρ = some ρ' ∧ ∀ σ', R K cm W σ' H F ρ' → Out as σ σ' → Q σ' H
theorem PG.imp {e : Expr} {t t' : TG} (h : PG X e t) (m : ∀ v σ H Q, t' v σ H Q → t v σ H Q) : PG X e t' := ⟨fun pins s σ H x u Q I r q => h.run pins s σ H x u Q I r (m _ _ _ _ q)⟩
theorem PGs.imp {e : List Expr} {t t' : TGs} (h : PGs X e t) (m : ∀ v σ H Q, t' v σ H Q → t v σ H Q) : PGs X e t' := ⟨fun pins s σ H x u Q I r q => h.run pins s σ H x u Q I r (m _ _ _ _ q)⟩
theorem R.setPd' {K : PySem.W.Frag} {σ : L2.St} {H F : Hp} {ρ : Sl} (r : R K cm W σ H F ρ) {v : V} {q : P} (h : DP K F v q) {i : Nat} : R K cm W (σ.set i (some v)) H F (ρ.set i (.pd q)) := by
  by_cases hi : i < σ.length
  · exact r.setPd h hi
  · have h2 : ρ.length ≤ i := by rw [← r.length]; omega
    rw [List.set_eq_of_length_le (by omega), List.set_eq_of_length_le h2]
    exact r
theorem g_nm (i : Nat) {as : Nat → Bool} {x : Str} {p : Pos} (hN : X.N.Nodup) (hi : X.N[i]? = some x := by rfl) (hx : Loc X.env.scope x := by first | exact .inl rfl | exact .inr rfl) (hf : X.fn x = true ∨ X.env.scope.names.lookup x = some .local := by first | exact .inl rfl | exact .inr rfl | assumption) (ha : as i = true := by rfl) : PG X (.Name x p) (tTg X.K cm as (.nm i)) :=
  HW.PG.imp (pg_name hN hi hx hf) fun v σ H Q ⟨W, F, ρ, p, ρ', r, d, e, k⟩ => by
    cases e
    exact k _ (r.setPd' d) (Out.set ha)
theorem gs_nil {as : Nat → Bool} : PGs X [] (tTgs X.K cm as .tnil) :=
  HW.PGs.imp pgs_nil fun vs σ H Q ⟨W, F, ρ, ps, ρ', r, d, e, k⟩ => by
    cases d with
    | nil => cases e; exact ⟨rfl, k _ r Out.refl⟩
    | cons _ _ => cases e
theorem gs_cons {as : Nat → Bool} {t r : Tg} (h1 : PG X e (tTg X.K cm as t)) (h2 : PGs X es (tTgs X.K cm as r))
    (hs : (assignEach (e :: es) X.env).map (·.2) = assign e X.env :: (assignEach es X.env).map (·.2) := by rfl) : PGs X (e :: es) (tTgs X.K cm as (.tcons t r)) :=
  HW.PGs.imp (pgs_cons h1 h2 hs) fun vs σ H Q ⟨W, F, ρ, ps, ρ', r', d, e, k⟩ => by
    cases d with
    | nil => cases e
    | cons a t =>
      simp only [bindT, Option.bind_eq_some_iff] at e
      obtain ⟨ρ1, e1, e2⟩ := e
      refine ⟨_, _, rfl, W, F, ρ, _, ρ1, r', a, e1, fun σ1 r1 o1 => ⟨W, F, ρ1, _, ρ', r1, t, e2, fun σ2 r2 o2 => k σ2 r2 ?_⟩⟩
      exact o1.trans o2
def Tg.isTup : Tg → Bool
  | .nm _ => false
  | .tnil => true
  | .tcons _ r => r.isTup
theorem Tg.tup_len : ∀ (t : Tg), t.isTup = true → ∀ p ρ ρ', bindT t p ρ = some ρ' → ∃ ps, p = .tuple ps ∧ ps.length = t.len
  | .nm _, h => by cases h
  | .tnil, _ => fun p ρ ρ' e => by
    unfold bindT at e
    split at e <;> first | (cases e; done) | skip
    all_goals (first | (rename_i h; cases h; done) | exact ⟨[], rfl, rfl⟩)
  | .tcons a r, h => fun p ρ ρ' e => by
    cases p with
    | tuple ps =>
      cases ps with
      | nil => cases e
      | cons p ps =>
        simp only [bindT, Option.bind_eq_some_iff] at e
        obtain ⟨ρ1, e1, e2⟩ := e
        obtain ⟨qs, h1, h2⟩ := Tg.tup_len r h _ _ _ e2
        cases h1
        exact ⟨_, rfl, by simp [Tg.len, h2]⟩
    | _ => cases e
theorem g_tup {as : Nat → Bool} {k : Nat} {t : Tg} (hc : X.calm = true) (h : PGs X es (tTgs X.K cm as t)) (hn : (assignEach es X.env).length = t.len := by rfl) (hst : (assignEach es X.env).findIdx? (·.1) = none := by rfl)
    (hl : ∀ p ρ ρ', bindT t p ρ = some ρ' → ∃ ps, p = .tuple ps ∧ ps.length = t.len := by exact Tg.tup_len _ rfl) : PG X (.Tuple es k pos) (tTg X.K cm as t) :=
  HW.PG.imp (pg_tup hc h hn hst) fun v σ H Q ⟨W, F, ρ, p, ρ', r', d, e, k⟩ => by
    obtain ⟨ps, rfl, e1⟩ := hl _ _ _ e
    cases d with
    | tup h1 h2 => exact ⟨_, _, rfl, SqT.mono h1 r'.fh, by rw [DPs.length h2]; exact e1, W, F, ρ, ps, ρ', r', h2, e, k⟩
end
end
end HW

namespace HW
open PySem PySem.Spec PyProof.Rows L2
noncomputable section

/-! ### frames -/
section
variable {K : PySem.W.Frag} {cm : Str → Addr → Prop} {W W' F F' H H' : Hp} {σ : L2.St} {ρ : Sl} {L : Addr} {o o' : HO}
theorem R.weakW (s : Same W W') (r : R K cm W' σ H F ρ) : R K cm W σ H F ρ := by
  obtain ⟨fp, h, n, m⟩ := r.ex
  refine ⟨r.fh, fun a o q => r.wh a o (s a o q), fun a o q => r.wf a o (s a o q), fp, h, n, fun a ha => ⟨(m a ha).1, ?_⟩⟩
  cases e : W a with
  | none => rfl
  | some u =>
    have q := s a u e
    rw [(m a ha).2] at q
    cases q
theorem R.framed (r : R K cm W σ H F ρ) (hD : H L = none) : R K cm (upd W L o) σ (upd H L o) F ρ := by
  obtain ⟨fp, h, n, m⟩ := r.ex
  have fD : F L = none := r.fh.free hD
  have ne : ∀ a ∈ fp, a ≠ L := fun a ha e => by
    subst e
    obtain ⟨u, hu⟩ := h.there a ha
    rw [hD] at hu
    cases hu
  refine ⟨fun a u q => ?_, fun a u q => ?_, fun a u q => ?_, fp, h.mono (Same.refl F) (fun a _ u q => same_upd hD a u q), n, fun a ha => ⟨(m a ha).1, by rw [upd_ne (ne a ha)]; exact (m a ha).2⟩⟩
  · exact same_upd hD _ _ (r.fh a u q)
  · by_cases e : a = L
    · subst e; rw [upd_same] at q ⊢; exact q
    · rw [upd_ne e] at q ⊢; exact r.wh a u q
  · by_cases e : a = L
    · subst e; exact fD
    · rw [upd_ne e] at q; exact r.wf a u q
theorem R.bump (r : R K cm (upd W L o) σ H F ρ) : R K cm (upd W L o') σ (upd H L o') F ρ := by
  obtain ⟨fp, h, n, m⟩ := r.ex
  have fD : F L = none := r.wf L o upd_same
  have ne : ∀ a ∈ fp, a ≠ L := fun a ha e => by
    subst e
    have q := (m a ha).2
    rw [upd_same] at q
    cases q
  refine ⟨fun a u q => ?_, fun a u q => ?_, fun a u q => ?_, fp, h.mono (Same.refl F) (fun a ha u q => by rw [upd_ne (ne a ha)]; exact q), n, fun a ha => ⟨(m a ha).1, ?_⟩⟩
  · rw [upd_ne (ne_of_none q fD)]; exact r.fh a u q
  · by_cases e : a = L
    · subst e; rw [upd_same] at q ⊢; exact q
    · rw [upd_ne e] at q ⊢; exact r.wh a u (by rw [upd_ne e]; exact q)
  · by_cases e : a = L
    · subst e; exact fD
    · rw [upd_ne e] at q; exact r.wf a u (by rw [upd_ne e]; exact q)
  · have q := (m a ha).2
    rw [upd_ne (ne a ha)] at q ⊢
    exact q
def del (H : Hp) (L : Addr) : Hp := fun a => if a = L then none else H a
theorem del_same : del H L L = none := if_pos rfl
theorem del_ne {a : Addr} (h : a ≠ L) : del H L a = H a := if_neg h
theorem upd_del (h : H L = some o) : upd (del H L) L o = H := by
  funext a
  by_cases e : a = L
  · subst e; rw [upd_same, h]
  · rw [upd_ne e, del_ne e]
theorem R.unframe (r : R K cm (upd W L o) σ H F ρ) (hW : W L = none) : R K cm W σ (del H L) F ρ := by
  obtain ⟨fp, h, n, m⟩ := r.ex
  have fD : F L = none := r.wf L o upd_same
  have ne : ∀ a ∈ fp, a ≠ L := fun a ha e => by
    subst e
    have q := (m a ha).2
    rw [upd_same] at q
    cases q
  refine ⟨fun a u q => ?_, fun a u q => ?_, fun a u q => ?_, fp, h.mono (Same.refl F) (fun a ha u q => by rw [del_ne (ne a ha)]; exact q), n, fun a ha => ⟨(m a ha).1, ?_⟩⟩
  · rw [del_ne (ne_of_none q fD)]; exact r.fh a u q
  · have e := ne_of_none q hW
    rw [del_ne e]; exact r.wh a u (by rw [upd_ne e]; exact q)
  · have e := ne_of_none q hW
    exact r.wf a u (by rw [upd_ne e]; exact q)
  · have q := (m a ha).2
    rw [upd_ne (ne a ha)] at q
    exact q

/-! ### a comprehension's own slots -/
def wipeR (ρ : Sl) : List Nat → Sl
  | [] => ρ
  | v :: vs => (wipeR ρ vs).set v .hole
def fillR (ρ1 : Sl) (ρ : Sl) : List Nat → Sl
  | [] => ρ
  | v :: vs => (fillR ρ1 ρ vs).set v ((ρ1[v]?).getD .hole)
def isPd : D → Bool
  | .pd _ => true
  | .hole => true
  | _ => false
def ownOk (ρ : Sl) (vs : List Nat) : Bool := vs.all fun v => isPd ((ρ[v]?).getD .hole)
theorem RE.setNo {fp : List Addr} (h : RE K cm F H σ ρ fp) : ∀ (i : Nat), ∃ g, RE K cm F H (σ.set i none) (ρ.set i .hole) g ∧ Sub g fp := by
  induction h with
  | nil => intro i; exact ⟨[], by simpa using .nil, Sub.refl _⟩
  | @no x0 σ0 ρ0 g0 r ih =>
    intro i
    cases i with
    | zero => exact ⟨g0, .no r, Sub.refl _⟩
    | succ i => obtain ⟨g, h1, h2⟩ := ih i; exact ⟨g, .no h1, h2⟩
  | @yes v0 d0 σ0 ρ0 f0 g0 x r ih =>
    intro i
    cases i with
    | zero => exact ⟨g0, .no r, Sub.right f0 g0⟩
    | succ i => obtain ⟨g, h1, h2⟩ := ih i; exact ⟨f0 ++ g, .yes x h1, (Sub.refl f0).app h2⟩
theorem RE.unset : ∀ {i : Nat} {τ : L2.St} {ρ : Sl} {fp : List Addr}, RE K cm F H (τ.set i none) ρ fp → RE K cm F H τ ρ fp
  | _, [], _, _, h => by simpa using h
  | 0, x :: τ, _, _, h => by
    rw [List.set_cons_zero] at h
    cases h with
    | no r => exact .no r
  | i + 1, x :: τ, _, _, h => by
    rw [List.set_cons_succ] at h
    cases h with
    | no r => exact .no (RE.unset r)
    | yes a r => exact .yes a (RE.unset r)
theorem R.setNo (r : R K cm W σ H F ρ) (i : Nat) : R K cm W (σ.set i none) H F (ρ.set i .hole) := by
  obtain ⟨fp, e, nd, m⟩ := r.ex
  obtain ⟨g, h1, h2⟩ := e.setNo i
  exact .ofRE r.fh r.wh r.wf nd m h1 h2
theorem R.unset {i : Nat} (r : R K cm W (σ.set i none) H F ρ) : R K cm W σ H F ρ := by
  obtain ⟨fp, e, nd, m⟩ := r.ex
  exact ⟨r.fh, r.wh, r.wf, fp, e.unset, nd, m⟩
theorem R.wipe (r : R K cm W σ H F ρ) : ∀ vs : List Nat, R K cm W (L2.wipe σ vs) H F (wipeR ρ vs)
  | [] => r
  | v :: vs => (R.wipe r vs).setNo v
theorem R.unwipe : ∀ {vs : List Nat}, R K cm W (L2.wipe σ vs) H F ρ → R K cm W σ H F ρ
  | [], r => r
  | v :: vs, r => R.unwipe (vs := vs) (R.unset r)
theorem R.fill {H1 F1 : Hp} {ρ1 : Sl} {W1 : Hp} (r1 : R K cm W1 σ H1 F1 ρ1) (s : Same F1 F) : ∀ {vs : List Nat}, ownOk ρ1 vs = true → R K cm W σ H F ρ → R K cm W σ H F (fillR ρ1 ρ vs)
  | [], _, r => r
  | v :: vs, h, r => by
    unfold ownOk at h
    rw [List.all_cons, Bool.and_eq_true] at h
    have q := R.fill r1 s (vs := vs) h.2 r
    show R K cm W σ H F ((fillR ρ1 ρ vs).set v ((ρ1[v]?).getD .hole))
    cases e : ρ1[v]? with
    | none => exact q.drop v
    | some d =>
      rw [e] at h
      cases d with
      | hole => exact q.drop v
      | pd p =>
        obtain ⟨x, h1, h2⟩ := r1.get e
        exact (q.pd (DP.mono h2 s)).back h1
      | _ => exact absurd h.1 (by simp [isPd])
theorem wipeR_len (ρ : Sl) : ∀ vs : List Nat, (wipeR ρ vs).length = ρ.length
  | [] => rfl
  | v :: vs => by simp [wipeR, wipeR_len ρ vs]
theorem fillR_len (ρ1 ρ : Sl) : ∀ vs : List Nat, (fillR ρ1 ρ vs).length = ρ.length
  | [] => rfl
  | v :: vs => by simp [fillR, fillR_len ρ1 ρ vs]
theorem fill_wipe (ρ : Sl) : ∀ vs ws : List Nat, (∀ v ∈ ws, v ∈ vs) → fillR ρ (wipeR ρ ws) vs = ρ := by
  intro vs ws hs
  have w : ∀ (ws : List Nat) i, i ∉ ws → (wipeR ρ ws)[i]? = ρ[i]? := by
    intro ws
    induction ws with
    | nil => intro i _; rfl
    | cons v vs ih =>
      intro i hi
      simp only [List.mem_cons, not_or] at hi
      show ((wipeR ρ vs).set v .hole)[i]? = _
      rw [List.getElem?_set_ne (Ne.symm hi.1), ih i hi.2]
  have f : ∀ (vs : List Nat) i, (fillR ρ (wipeR ρ ws) vs)[i]? = if i ∈ vs then ρ[i]? else (wipeR ρ ws)[i]? := by
    intro vs
    induction vs with
    | nil => intro i; simp [fillR]
    | cons v vs ih =>
      intro i
      show ((fillR ρ (wipeR ρ ws) vs).set v ((ρ[v]?).getD .hole))[i]? = _
      by_cases e : v = i
      · subst e
        rw [if_pos (by simp)]
        by_cases hv : v < ρ.length
        · rw [List.getElem?_set_self (by rw [fillR_len, wipeR_len]; exact hv), List.getElem?_eq_getElem hv]
          rfl
        · rw [List.getElem?_eq_none (by rw [List.length_set, fillR_len, wipeR_len]; omega), List.getElem?_eq_none (by omega)]
      · rw [List.getElem?_set_ne e, ih]
        have : (i ∈ v :: vs) ↔ i ∈ vs := by simp [Ne.symm e]
        simp only [this]
  apply List.ext_getElem?
  intro i
  rw [f]
  split
  · rfl
  · rename_i h
    exact w ws i fun q => h (hs i q)
theorem wipeR_get (ρ : Sl) : ∀ {vs : List Nat} {i : Nat}, (wipeR ρ vs)[i]? = if i ∈ vs then (if i < ρ.length then some .hole else none) else ρ[i]?
  | [], i => by simp [wipeR]
  | v :: vs, i => by
    show ((wipeR ρ vs).set v .hole)[i]? = _
    by_cases e : v = i
    · subst e
      rw [if_pos (by simp), List.getElem?_set_self']
      by_cases hv : v < ρ.length
      · rw [if_pos hv, List.getElem?_eq_getElem (by rw [wipeR_len]; exact hv)]
        rfl
      · rw [if_neg hv, List.getElem?_eq_none (by rw [wipeR_len]; omega)]
        rfl
    · rw [List.getElem?_set_ne e, wipeR_get]
      have : (i ∈ v :: vs) ↔ i ∈ vs := by simp [Ne.symm e]
      simp only [this]
theorem wipeR_twice (ρ : Sl) (vs : List Nat) : wipeR (wipeR ρ vs) vs = wipeR ρ vs := by
  apply List.ext_getElem?
  intro i
  rw [wipeR_get, wipeR_get, wipeR_len]
  split <;> rfl
theorem bindT_len : ∀ {t : Tg} {p : P} {ρ ρ' : Sl}, bindT t p ρ = some ρ' → ρ'.length = ρ.length
  | .nm _, _, _, _, h => by cases h; simp
  | .tnil, p, ρ, ρ', h => by
    cases p with
    | tuple ps => cases ps with
      | nil => cases h; rfl
      | cons _ _ => cases h
    | _ => cases h
  | .tcons a r, p, ρ, ρ', h => by
    cases p with
    | tuple ps => cases ps with
      | nil => cases h
      | cons _ _ =>
        simp only [bindT, Option.bind_eq_some_iff] at h
        obtain ⟨ρ1, e1, e2⟩ := h
        rw [bindT_len e2, bindT_len e1]
    | _ => cases h
theorem wipe_get {σ : L2.St} : ∀ {vs : List Nat} {i : Nat}, (wipe σ vs)[i]? = if i ∈ vs then (if i < σ.length then some none else none) else σ[i]?
  | [], i => by simp [L2.wipe]
  | v :: vs, i => by
    show ((L2.wipe σ vs).set v none)[i]? = _
    by_cases e : v = i
    · subst e
      rw [if_pos (by simp), List.getElem?_set_self']
      by_cases hv : v < σ.length
      · rw [if_pos hv, List.getElem?_eq_getElem (by rw [wipe_length]; exact hv)]
        rfl
      · rw [if_neg hv, List.getElem?_eq_none (by rw [wipe_length]; omega)]
        rfl
    · rw [List.getElem?_set_ne e, wipe_get]
      have : (i ∈ v :: vs) ↔ i ∈ vs := by simp [Ne.symm e]
      simp only [this]
theorem wipe_out {σ σ2 : L2.St} {vs : List Nat} (hl : σ2.length = σ.length) (o : Out (fun i => vs.contains i) (L2.wipe σ vs) σ2) : L2.wipe σ2 vs = L2.wipe σ vs := by
  apply List.ext_getElem?
  intro i
  rw [wipe_get, wipe_get, hl]
  split
  · rfl
  · rename_i h
    have q := o i (by simpa using h)
    rw [q, wipe_get, if_neg h]
end

/-! ### comprehensions -/
def compL (vs : List Nat) (tg : Tg) (cnd : EB) (elt : EF) : List P → Sl → Option (List P × Sl)
  | [], ρ => some ([], ρ)
  | p :: ps, ρ => (bindT tg p ρ).bind fun ρ1 => (cnd ρ1).bind fun c =>
    if c.1 then (elt c.2).bind fun q => (compL vs tg cnd elt ps (wipeR q.2 vs)).map fun r => (q.1 :: r.1, r.2) else compL vs tg cnd elt ps (wipeR c.2 vs)
def dComp (it : EL) (vs : List Nat) (tg : Tg) (cnd : EB) (elt : EF) : EL := fun ρ => (it ρ).bind fun x =>
  if x.1.length ≤ 16777216 ∧ ownOk x.2 vs = true then (compL vs tg cnd elt x.1 (wipeR x.2 vs)).map fun y => (y.1, fillR x.2 y.2 vs) else none
def dYes : EB := fun ρ => some (true, ρ)
theorem PTs.imp {X : Cx} {e : List Expr} {t t' : TT} (h : PTs X e t) (m : ∀ σ H Q, t' σ H Q → t σ H Q) : PTs X e t' := ⟨fun pins s σ H Q I q => h.run pins s σ H Q I (m _ _ _ q)⟩
section
variable {X : Cx} {cm : Str → Addr → Prop} {pos : Pos} {b b1 b2 b3 : Bool}
theorem c_yes : PTs X [] (tT X.K cm true dYes) := HW.PTs.imp pts_nil fun σ H Q ⟨W, F, ρ, p, ρ', r, e, k⟩ => by
  cases e
  exact k H F r (Same.refl F) Pu.refl
theorem c_one {c : Expr} {f : EB} (h : PT X c (tT X.K cm b f)) : PTs X [c] (tT X.K cm b f) := pts_one h
theorem compL_len {vs : List Nat} {tg : Tg} {cnd : EB} {elt : EF} : ∀ {ps : List P} {ρ ρ' : Sl} {qs : List P}, compL vs tg cnd elt ps ρ = some (qs, ρ') → qs.length ≤ ps.length
  | [], _, _, _, h => by cases h; simp
  | p :: ps, ρ, ρ', qs, h => by
    simp only [compL, Option.bind_eq_some_iff] at h
    obtain ⟨ρ1, e1, ⟨c, ρ2⟩, e2, e3⟩ := h
    split at e3
    · simp only [Option.bind_eq_some_iff, Option.map_eq_some_iff] at e3
      obtain ⟨⟨q, ρ3⟩, e4, ⟨rs, ρ4⟩, e5, e6⟩ := e3
      cases e6
      have := compL_len e5
      simp; omega
    · have := compL_len e3
      simp; omega
def tgIn (vs : List Nat) : Tg → Bool
  | .nm i => vs.contains i
  | .tnil => true
  | .tcons a r => tgIn vs a && tgIn vs r
theorem wipe_set {ρ : Sl} {d : D} {vs : List Nat} {i : Nat} (h : i ∈ vs) : wipeR (ρ.set i d) vs = wipeR ρ vs := by
  apply List.ext_getElem?
  intro j
  rw [wipeR_get, wipeR_get, List.length_set]
  split
  · rfl
  · rename_i hj
    rw [List.getElem?_set_ne (fun z : i = j => hj (by rw [← z]; exact h))]
theorem bindT_wipe {vs : List Nat} : ∀ {t : Tg} {p : P} {ρ ρ' : Sl}, tgIn vs t = true → bindT t p ρ = some ρ' → wipeR ρ' vs = wipeR ρ vs
  | .nm i, p, ρ, ρ', h, e => by
    cases e
    exact wipe_set (by simpa [tgIn] using h)
  | .tnil, p, ρ, ρ', h, e => by
    cases p with
    | tuple ps => cases ps with
      | nil => cases e; rfl
      | cons _ _ => cases e
    | _ => cases e
  | .tcons a r, p, ρ, ρ', h, e => by
    unfold tgIn at h
    rw [Bool.and_eq_true] at h
    cases p with
    | tuple ps => cases ps with
      | nil => cases e
      | cons _ _ =>
        simp only [bindT, Option.bind_eq_some_iff] at e
        obtain ⟨ρ1, e1, e2⟩ := e
        rw [bindT_wipe h.2 e2, bindT_wipe h.1 e1]
    | _ => cases e
/-- the loop of a comprehension -/
theorem lc_imp {K : PySem.W.Frag} {vs : List Nat} {it : EL} {t : Tg} {cnd : EB} {el : EF} (htg : tgIn vs t = true) : ∀ σ H Q, tL K cm (b1 && (b2 && b3)) (dComp it vs t cnd el) σ H Q →
    tLc (tI K cm b1 it) (tTg K cm (fun i => vs.contains i) t) (tT K cm b2 cnd) (tP K cm b3 el) vs σ H Q :=
  fun σ H Q ⟨W, F, ρ, qs, ρ', r, e, k⟩ => by
    simp only [dComp, Option.bind_eq_some_iff] at e
    obtain ⟨⟨ps, ρ1⟩, e1, e2⟩ := e
    split at e2
    · rename_i hlen
      have hl : ps.length ≤ 16777216 := hlen.1
      obtain ⟨⟨qs', ρf⟩, e3, e4⟩ := Option.map_eq_some_iff.mp e2
      cases e4
      refine ⟨W, F, ρ, ps, ρ1, r, e1, fun J H1 F1 r1 s1 u1 w => fun D hD => ?_⟩
      have WD : W D = none := r1.wh.free hD
      refine ⟨fun i m H2 => m = ps.length - i ∧ i ≤ ps.length ∧ ∃ acc accP F2 ρ2 rest, R K cm (upd W D (.lst acc)) (L2.wipe σ vs) H2 F2 ρ2 ∧ Same F1 F2 ∧ DPs K F2 acc accP ∧ acc.length ≤ i ∧
        compL vs t cnd el (ps.drop i) ρ2 = some (rest, ρf) ∧ accP ++ rest = qs' ∧ ((b2 && b3) = true → ρ2 = wipeR ρ1 vs ∧ Same H1 H2), ⟨ps.length, by simp, Nat.zero_le _, [], [], F1, wipeR ρ1 vs, qs', ?_, Same.refl _, .nil, Nat.le_refl _, (by rw [List.drop_zero]; exact e3), rfl, fun _ => ⟨rfl, same_upd hD⟩⟩, ?_⟩
      · exact (r1.wipe _).framed hD
      · rintro i m H2 ⟨rfl, hi2, acc, accP, F2, ρ2, rest, r2, s2, d2, l2, e5, e6, pu⟩
        obtain ⟨wa, wb⟩ := w i F2 H2 s2 r2.fh
        by_cases hlt : i < ps.length
        · right
          obtain ⟨go, yl⟩ := wa ps[i] (List.getElem?_eq_getElem hlt)
          refine ⟨go, fun H' => ∃ acc accP F2 ρ2 rest, R K cm (upd W D (.lst acc)) (L2.wipe σ vs) H' F2 ρ2 ∧ Same F1 F2 ∧ DPs K F2 acc accP ∧ acc.length ≤ i + 1 ∧
            compL vs t cnd el (ps.drop (i + 1)) ρ2 = some (rest, ρf) ∧ accP ++ rest = qs' ∧ ((b2 && b3) = true → ρ2 = wipeR ρ1 vs ∧ Same H1 H'), fun H' h' => ⟨ps.length - (i + 1), by omega, rfl, hlt, h'⟩, fun x H' y => ?_⟩
          obtain ⟨F3, ⟨st1, st2, st3⟩, dx⟩ := yl x H' y
          rw [List.drop_eq_getElem_cons hlt] at e5
          simp only [compL, Option.bind_eq_some_iff] at e5
          obtain ⟨ρ3, e7, ⟨c, ρ4⟩, e8, e9⟩ := e5
          have r3 := st3 _ _ _ _ r2
          refine ⟨_, F3, ρ2, ps[i], ρ3, r3, dx, e7, fun σ2 r4 o2 => ⟨wipe_out (by rw [r4.length, ← wipe_length σ, r3.length]; exact bindT_len e7) o2, _, F3, ρ3, c, ρ4, r4, e8, fun H4 F4 r5 s5 u5 => ?_⟩⟩
          have hw2 : L2.wipe σ2 vs = L2.wipe σ vs := wipe_out (by rw [r4.length, ← wipe_length σ, r3.length]; exact bindT_len e7) o2
          cases c with
          | false =>
            rw [if_neg Bool.false_ne_true] at e9
            have r6 := r5.wipe vs
            rw [hw2] at r6
            refine iteF ⟨acc, accP, F4, _, rest, r6, (s2.trans st1).trans s5, DPs.mono d2 (st1.trans s5), Nat.le_succ_of_le l2, e9, e6, fun h => ?_⟩
            obtain ⟨p1, p2⟩ := pu h
            obtain ⟨p3, p4⟩ := u5 (by rw [Bool.and_eq_true] at h; exact h.1)
            exact ⟨by rw [p3, bindT_wipe htg e7, p1, wipeR_twice], (p2.trans st2).trans p4⟩
          | true =>
            rw [if_pos rfl] at e9
            simp only [Option.bind_eq_some_iff, Option.map_eq_some_iff] at e9
            obtain ⟨⟨q, ρ5⟩, e10, ⟨rs, ρ6⟩, e11, e12⟩ := e9
            cases e12
            refine iteT ⟨_, F4, ρ4, q, ρ5, r5, e10, fun v H5 F5 r7 s7 u7 d7 => ⟨acc, r7.wh D _ upd_same, ?_, acc ++ [v], accP ++ [q], F5, _, rs, ?_, ((s2.trans st1).trans s5).trans s7, (DPs.mono d2 ((st1.trans s5).trans s7)).append (.cons d7 .nil), by simp; omega, e11, by rw [List.append_assoc]; exact e6, fun h => ?_⟩⟩
            · rw [sizeLine_eq]; omega
            · have r8 := (r7.wipe vs).bump (o' := .lst (acc ++ [v]))
              rw [hw2] at r8
              exact r8
            · obtain ⟨p1, p2⟩ := pu h
              rw [Bool.and_eq_true] at h
              obtain ⟨p3, p4⟩ := u5 h.1
              obtain ⟨p5, p6⟩ := u7 h.2
              refine ⟨by rw [p5, p3, bindT_wipe htg e7, p1, wipeR_twice], fun a o q => ?_⟩
              rw [upd_ne (ne_of_none q hD)]
              exact p6 a o (p4 a o (st2 a o (p2 a o q)))
        · have hi3 : i = ps.length := by omega
          subst hi3
          left
          refine ⟨wb (Nat.le_refl _), ?_⟩
          rw [List.drop_length] at e5
          cases e5
          rw [List.append_nil] at e6
          subst e6
          refine k D acc (del H2 D) H2 F2 ?_ (s1.trans s2) (fun h => ?_) d2 del_same (upd_del (r2.wh D _ upd_same)).symm
          · exact R.fill r1 s2 hlen.2 (R.unwipe (r2.unframe WD))
          · simp only [Bool.and_eq_true] at h
            obtain ⟨p1, p2⟩ := pu (by rw [Bool.and_eq_true]; exact h.2)
            obtain ⟨p3, p4⟩ := u1 h.1
            refine ⟨by rw [p1, fill_wipe _ _ _ (fun v h => h), p3], fun a o q => ?_⟩
            have q2 := p4 a o q
            rw [del_ne (ne_of_none q2 hD)]
            exact p2 a o q2
    · cases e2
theorem l_comp {elt tg iter : Expr} {ifs : List Expr} {scope : Scope} {own : List (Str × Nat)} {it : EL} {t : Tg} {cnd : EB} {el : EF} (hc : X.calm = true) (hN : X.N.Nodup) (ok : BlkOk X.N X.env.scope scope own) (hi : PI X tg iter (tI X.K cm b1 it))
    (hg : ∀ (s : Shared) (H : Hp) (C : Addr) (cl : List (Str × Addr)) (fp : List Addr), PG (X.blk s H scope (compEnvC scope cl C X.env) fp) tg (tTg X.K cm (fun i => (own.map (·.2)).contains i) t))
    (ht : ∀ (s : Shared) (H : Hp) (C : Addr) (cl : List (Str × Addr)) (fp : List Addr), PTs (X.blk s H scope (compEnvC scope cl C X.env) fp) ifs (tT X.K cm b2 cnd))
    (he : ∀ (s : Shared) (H : Hp) (C : Addr) (cl : List (Str × Addr)) (fp : List Addr), PE (X.blk s H scope (compEnvC scope cl C X.env) fp) elt (tP X.K cm b3 el))
    (htg : tgIn (own.map (·.2)) t = true := by rfl)
    (hs : ∀ x, foldedSetIterable iter X.env x = pure x := by intro _; rfl) :
    PE X (.ListComp elt [⟨tg, iter, ifs, 0⟩] scope pos) (tL X.K cm (b1 && (b2 && b3)) (dComp it (own.map (·.2)) t cnd el)) :=
  PE.imp (pe_lc hc hN hi ok hg ht he hs) (lc_imp htg)
end
end
end HW

namespace HW
open PySem PySem.Spec PyProof.Rows L2
noncomputable section

/-! ### statements -/
inductive Fl where
  | nx
  | bk
  | ct
  | rt (d : D)
abbrev SF := Sl → Option (Fl × Sl)
def Fi (K : PySem.W.Frag) (cm : Str → Addr → Prop) (as : Nat → Bool) (W : Hp) (σ : L2.St) (F : Hp) (Dn : Ends) (fl : Fl) (ρ' : Sl) : Prop :=
  match fl with
  | .nx => ∀ σ' H' F', R K cm W σ' H' F' ρ' → Same F F' → Out as σ σ' → Dn.nx σ' H'
  | .bk => ∀ σ' H' F', R K cm W σ' H' F' ρ' → Same F F' → Out as σ σ' → Dn.bk σ' H'
  | .ct => ∀ σ' H' F', R K cm W σ' H' F' ρ' → Same F F' → Out as σ σ' → Dn.ct σ' H'
  | .rt d => ∀ v σ' H' F', R K cm W (some v :: σ') H' F' (d :: ρ') → Same F F' → Out as σ σ' → Dn.rt v H'
theorem Fi.from {K : PySem.W.Frag} {cm : Str → Addr → Prop} {as : Nat → Bool} {W : Hp} {σ σ1 : L2.St} {F F1 : Hp} {Dn : Ends} {fl : Fl} {ρ' : Sl} (h : Fi K cm as W σ F Dn fl ρ') (s : Same F F1) (o : Out as σ σ1) : Fi K cm as W σ1 F1 Dn fl ρ' := by
  cases fl with
  | nx => exact fun σ' H' F' r s' o' => h σ' H' F' r (s.trans s') (o.trans o')
  | bk => exact fun σ' H' F' r s' o' => h σ' H' F' r (s.trans s') (o.trans o')
  | ct => exact fun σ' H' F' r s' o' => h σ' H' F' r (s.trans s') (o.trans o')
  | rt d => exact fun v σ' H' F' r s' o' => h v σ' H' F' r (s.trans s') (o.trans o')
def tS (K : PySem.W.Frag) (cm : Str → Addr → Prop) (as : Nat → Bool) (f : SF) : TS := fun Dn σ H => ∃ W F ρ fl ρ', R K cm W σ H F ρ ∧ f ρ = some (fl, ρ') ∧ Fi K cm as W σ F Dn fl ρ'

def dNx : SF := fun ρ => some (.nx, ρ)
def dSeq (f g : SF) : SF := fun ρ => (f ρ).bind fun x => match x.1 with
  | .nx => g x.2
  | fl => some (fl, x.2)
def dIfS (c : EB) (f g : SF) : SF := fun ρ => (c ρ).bind fun x => if x.1 then f x.2 else g x.2
def dRet (f : ED) : SF := fun ρ => (f ρ).map fun x => (.rt x.1, x.2)
def dSet (i : Nat) (f : ED) : SF := fun ρ => (f ρ).map fun x => (.nx, x.2.set i x.1)
def dTgt (t : Tg) (f : EF) : SF := fun ρ => (f ρ).bind fun x => (bindT t x.1 x.2).map fun y => (.nx, y)
def forL (t : Tg) (body : SF) : List P → Sl → Option (Fl × Sl)
  | [], ρ => some (.nx, ρ)
  | p :: ps, ρ => (bindT t p ρ).bind fun ρ1 => (body ρ1).bind fun x => match x.1 with
    | .nx => forL t body ps x.2
    | .ct => forL t body ps x.2
    | .bk => some (.nx, x.2)
    | .rt d => some (.rt d, x.2)
def dFor (it : EL) (t : Tg) (body : SF) : SF := fun ρ => (it ρ).bind fun x => forL t body x.1 x.2
def whileL (c : EB) (body : SF) : Nat → Sl → Option (Fl × Sl)
  | 0, _ => none
  | n + 1, ρ => (c ρ).bind fun x => if x.1 then (body x.2).bind fun y => match y.1 with
      | .nx => whileL c body n y.2
      | .ct => whileL c body n y.2
      | .bk => some (.nx, y.2)
      | .rt d => some (.rt d, y.2)
    else some (.nx, x.2)
def FU : Nat := 1099511627776
def dWhile (c : EB) (body : SF) : SF := fun ρ => whileL c body FU ρ
def dMove (i : Nat) : ED := fun ρ => match ρ[i]? with
  | some .hole => none
  | some d => some (d, ρ.set i .hole)
  | none => none

section
variable {X : Cx} {cm : Str → Addr → Prop} {as : Nat → Bool} {pos : Pos} {b b1 b2 : Bool} {st : Stmt} {sts : List Stmt} {f g : SF}
theorem ss_nil : PSs X [] (tS X.K cm as dNx) := HW.PSs.imp pss_nil fun Dn σ H ⟨W, F, ρ, fl, ρ', r, e, k⟩ => by
  cases e
  exact k σ H F r (Same.refl F) Out.refl
theorem seq_imp : ∀ Dn σ H, tS X.K cm as (dSeq f g) Dn σ H → tSeq (tS X.K cm as f) (tS X.K cm as g) Dn σ H := by
  rintro Dn σ H ⟨W, F, ρ, fl, ρ', r, e, k⟩
  simp only [dSeq, Option.bind_eq_some_iff] at e
  obtain ⟨⟨fl1, ρ1⟩, e1, e2⟩ := e
  refine ⟨W, F, ρ, fl1, ρ1, r, e1, ?_⟩
  cases fl1 with
  | nx => exact fun σ' H' F' r' s o => ⟨W, F', ρ1, fl, ρ', r', e2, k.from s o⟩
  | bk => cases e2; exact k
  | ct => cases e2; exact k
  | rt d => cases e2; exact k
theorem ss_cons (h1 : PS X st (tS X.K cm as f)) (h2 : PSs X sts (tS X.K cm as g)) : PSs X (st :: sts) (tS X.K cm as (dSeq f g)) := HW.PSs.imp (pss_cons h1 h2) seq_imp
theorem ss_one (h1 : PS X st (tS X.K cm as f)) : PSs X [st] (tS X.K cm as f) := pss_one h1
theorem s_if {c : Expr} {x y : List Stmt} {q : EB} (hc : PT X c (tT X.K cm b q)) (ha : PSs X x (tS X.K cm as f)) (hb : PSs X y (tS X.K cm as g)) : PS X (.If c x y pos) (tS X.K cm as (dIfS q f g)) :=
  HW.PS.imp (ps_if hc ha hb) fun Dn σ H ⟨W, F, ρ, fl, ρ', r, e, k⟩ => by
    simp only [dIfS, Option.bind_eq_some_iff] at e
    obtain ⟨⟨c1, ρ1⟩, e1, e2⟩ := e
    refine ⟨W, F, ρ, c1, ρ1, r, e1, fun H1 F1 r1 s1 u1 => ?_⟩
    cases c1 with
    | true => rw [if_pos rfl] at e2; exact iteT ⟨W, F1, ρ1, fl, ρ', r1, e2, k.from s1 Out.refl⟩
    | false => rw [if_neg Bool.false_ne_true] at e2; exact iteF ⟨W, F1, ρ1, fl, ρ', r1, e2, k.from s1 Out.refl⟩
theorem s_pass : PS X (.Pass pos) (tS X.K cm as dNx) := HW.PS.imp ps_pass fun Dn σ H ⟨W, F, ρ, fl, ρ', r, e, k⟩ => by
  cases e
  exact k σ H F r (Same.refl F) Out.refl
def dBk : SF := fun ρ => some (.bk, ρ)
theorem s_break : PS X (.Break pos) (tS X.K cm as dBk) := HW.PS.imp ps_break fun Dn σ H ⟨W, F, ρ, fl, ρ', r, e, k⟩ => by
  cases e
  exact k σ H F r (Same.refl F) Out.refl
/-- a statement that is never come to (a raise) -/
def dNever : SF := fun _ => none
theorem s_never : PS X st (tS X.K cm as dNever) := HW.PS.imp ps_never fun Dn σ H ⟨W, F, ρ, fl, ρ', r, e, k⟩ => by cases e
theorem s_doc {x j} {p : Pos} : PS X (.Expr (.Constant (.str x) j p) pos) (tS X.K cm as dNx) := HW.PS.imp ps_doc fun Dn σ H ⟨W, F, ρ, fl, ρ', r, e, k⟩ => by
  cases e
  exact k σ H F r (Same.refl F) Out.refl
theorem s_ret {e : Expr} {q : ED} (h : PE X e (tD X.K cm b q)) : PS X (.Return (some e) pos) (tS X.K cm as (dRet q)) :=
  HW.PS.imp (ps_ret h) fun Dn σ H ⟨W, F, ρ, fl, ρ', r, e, k⟩ => by
    obtain ⟨⟨d, ρ1⟩, e1, e2⟩ := Option.map_eq_some_iff.mp e
    cases e2
    exact ⟨W, F, ρ, d, ρ1, r, e1, fun v H1 F1 r1 s1 u1 => k v σ H1 F1 r1 s1 Out.refl⟩
theorem R.put' {K : PySem.W.Frag} {W : Hp} {σ : L2.St} {H F : Hp} {ρ : Sl} {v : V} {d : D} {i : Nat} (r : R K cm W (some v :: σ) H F (d :: ρ)) : R K cm W (σ.set i (some v)) H F (ρ.set i d) := by
  by_cases hi : i < σ.length
  · exact r.put hi
  · have h2 := r.tail
    have h3 := h2.length
    rw [List.set_eq_of_length_le (by omega), List.set_eq_of_length_le (by omega)]
    exact h2
/-- the value is moved out of a slot -/
theorem d_mv (i : Nat) {x : Str} {p : Pos} (hN : X.N[i]? = some x := by rfl) (hv : Vis X.env.scope x := by first | exact Or.inl rfl | exact Or.inr (Or.inl rfl) | exact Or.inr (Or.inr rfl)) (hd : (x == ("__debug__" : Str)) = false := by decide)
    (hcd : (x == ("__classdict__" : Str)) = false := by decide) : PE X (.Name x p) (tD X.K cm false (dMove i)) :=
  PE.imp (pe_var hN hv hd hcd) fun σ H Q ⟨W, F, ρ, d, ρ', r, e, k⟩ => by
    unfold dMove at e
    cases hd : ρ[i]? with
    | none => rw [hd] at e; cases e
    | some d' =>
      rw [hd] at e
      have ne : d' ≠ .hole := fun z => by subst z; cases e
      have e' : some (d', ρ.set i .hole) = some (d, ρ') := by
        cases d' <;> first | exact e | exact absurd rfl ne
      cases e'
      obtain ⟨v, h1, h2⟩ := r.take hd ne
      exact ⟨v, h1, k v H F h2 (Same.refl F) fun h => by cases h⟩
/-- name = value -/
theorem s_set {e : Expr} {q : ED} (i : Nat) {x : Str} {p : Pos} (h : PE X e (tD X.K cm b q)) (hN : X.N.Nodup) (hi : X.N[i]? = some x := by rfl) (hx : Loc X.env.scope x := by first | exact .inl rfl | exact .inr rfl) (ha : as i = true := by rfl)
    (hs : swapsWith e (some (.Name x p)) pos.line X.env = pure false := by rfl) (hf : X.fn x = true ∨ X.env.scope.names.lookup x = some .local := by first | exact .inl rfl | exact .inr rfl | assumption) : PS X (.Assign [.Name x p] e pos) (tS X.K cm as (dSet i q)) :=
  HW.PS.imp (ps_set hN hi hx h hs hf) fun Dn σ H ⟨W, F, ρ, fl, ρ', r, e, k⟩ => by
    obtain ⟨⟨d, ρ1⟩, e1, e2⟩ := Option.map_eq_some_iff.mp e
    cases e2
    exact ⟨W, F, ρ, d, ρ1, r, e1, fun v H1 F1 r1 s1 u1 => k _ H1 F1 (R.put' r1) s1 (Out.set ha)⟩
/-- targets = value -/
theorem s_tgt {e tg : Expr} {q : EF} {t : Tg} (h : PE X e (tP X.K cm b q)) (hg : PG X tg (tTg X.K cm as t)) (hs : swapsWithSole [tg] e pos.line X.env = pure false := by rfl) (hw : swappedStores [tg] e X.env = pure none := by rfl)
    (h1 : (assignEach [tg] X.env).map (·.2) = [assign tg X.env] := by rfl) : PS X (.Assign [tg] e pos) (tS X.K cm as (dTgt t q)) :=
  HW.PS.imp (ps_asg h hg hs hw h1) fun Dn σ H ⟨W, F, ρ, fl, ρ', r, e, k⟩ => by
    simp only [dTgt, Option.bind_eq_some_iff, Option.map_eq_some_iff] at e
    obtain ⟨⟨p, ρ1⟩, e1, ρ2, e2, e3⟩ := e
    cases e3
    exact ⟨W, F, ρ, p, ρ1, r, e1, fun v H1 F1 r1 s1 u1 d1 => ⟨W, F1, ρ1, p, _, r1, d1, e2, fun σ' r2 o => k σ' H1 F1 r2 s1 o⟩⟩
/-- a, b = x, y -/
def dPar (i j : Nat) (f : EL) : SF := fun ρ => (f ρ).bind fun x => match x.1 with
  | [p, q] => some (.nx, (x.2.set i (.pd p)).set j (.pd q))
  | _ => none
theorem s_par {x y : Str} {e1 e2 : Expr} {q : EL} {px py pt : Pos} {kt k2 pt2} (i j : Nat) (hc : X.calm = true) (hN : X.N.Nodup) (ha : PA X [e1, e2] (tA X.K cm b q)) (hi : X.N[i]? = some x := by rfl) (hj : X.N[j]? = some y := by rfl) (hij : i ≠ j := by decide)
    (hx : X.env.scope.names.lookup x = some .local := by rfl) (hy : X.env.scope.names.lookup y = some .local := by rfl) (ai : as i = true := by rfl) (aj : as j = true := by rfl)
    (hw : swappedStores [.Tuple [.Name x px, .Name y py] kt pt] (.Tuple [e1, e2] k2 pt2) X.env = pure (some [x, y]) := by rfl)
    (hs : swapsWithSole [.Tuple [.Name x px, .Name y py] kt pt] (.Tuple [e1, e2] k2 pt2) pos.line X.env = pure false := by rfl) :
    PS X (.Assign [.Tuple [.Name x px, .Name y py] kt pt] (.Tuple [e1, e2] k2 pt2) pos) (tS X.K cm as (dPar i j q)) :=
  HW.PS.imp (ps_par hc hN hi hj hij hx hy ha hw hs) fun Dn σ H ⟨W, F, ρ, fl, ρ', r, e, k⟩ => by
    simp only [dPar, Option.bind_eq_some_iff] at e
    obtain ⟨⟨ps, ρ1⟩, e3, e4⟩ := e
    refine ⟨W, F, ρ, ps, ρ1, r, e3, fun vs H1 F1 r1 s1 u1 d1 => ?_⟩
    cases d1 with
    | nil => cases e4
    | cons a t => cases t with
      | nil => cases e4
      | cons c t => cases t with
        | cons _ _ => cases e4
        | nil =>
          cases e4
          exact ⟨_, _, rfl, k _ H1 F1 ((r1.setPd' a).setPd' c) s1 ((Out.set ai).trans (Out.set aj))⟩
def dPar3 (i j l : Nat) (f : EL) : SF := fun ρ => (f ρ).bind fun x => match x.1 with
  | [p, q, s] => some (.nx, ((x.2.set i (.pd p)).set j (.pd q)).set l (.pd s))
  | _ => none
theorem s_par3 {x y z : Str} {e1 e2 e3 : Expr} {q : EL} {px py pz pt : Pos} {kt k2 pt2} (i j l : Nat) (hc : X.calm = true) (hN : X.N.Nodup) (ha : PA X [e1, e2, e3] (tA X.K cm b q)) (hi : X.N[i]? = some x := by rfl) (hj : X.N[j]? = some y := by rfl) (hl : X.N[l]? = some z := by rfl) (hij : i ≠ j := by decide) (hil : i ≠ l := by decide) (hjl : j ≠ l := by decide)
    (hx : X.env.scope.names.lookup x = some .local := by rfl) (hy : X.env.scope.names.lookup y = some .local := by rfl) (hz : X.env.scope.names.lookup z = some .local := by rfl) (ai : as i = true := by rfl) (aj : as j = true := by rfl) (al : as l = true := by rfl)
    (hw : swappedStores [.Tuple [.Name x px, .Name y py, .Name z pz] kt pt] (.Tuple [e1, e2, e3] k2 pt2) X.env = pure (some [x, y, z]) := by rfl)
    (hs : swapsWithSole [.Tuple [.Name x px, .Name y py, .Name z pz] kt pt] (.Tuple [e1, e2, e3] k2 pt2) pos.line X.env = pure false := by rfl) :
    PS X (.Assign [.Tuple [.Name x px, .Name y py, .Name z pz] kt pt] (.Tuple [e1, e2, e3] k2 pt2) pos) (tS X.K cm as (dPar3 i j l q)) :=
  HW.PS.imp (ps_par3 hc hN hi hj hl hij hil hjl hx hy hz ha hw hs) fun Dn σ H ⟨W, F, ρ, fl, ρ', r, e, k⟩ => by
    simp only [dPar3, Option.bind_eq_some_iff] at e
    obtain ⟨⟨ps, ρ1⟩, e3, e4⟩ := e
    refine ⟨W, F, ρ, ps, ρ1, r, e3, fun vs H1 F1 r1 s1 u1 d1 => ?_⟩
    cases d1 with
    | nil => cases e4
    | cons a t => cases t with
      | nil => cases e4
      | cons c t => cases t with
        | nil => cases e4
        | cons d t => cases t with
          | cons _ _ => cases e4
          | nil =>
            cases e4
            exact ⟨_, _, _, rfl, k _ H1 F1 (((r1.setPd' a).setPd' c).setPd' d) s1 (((Out.set ai).trans (Out.set aj)).trans (Out.set al))⟩

/-! ### loops -/
theorem s_for {tg iter : Expr} {body : List Stmt} {it : EL} {t : Tg} (hc : X.calm = true) (hi : PI X tg iter (tI X.K cm b it)) (hg : PG X tg (tTg X.K cm as t)) (hb : PSs X body (tS X.K cm as f))
    (hp : PassesOwn (model X.prog X.w) X.A X.env X.xe := by exact PassesOwn.never) (hs : ∀ x, foldedSetIterable iter X.env x = pure x := by intro _; rfl) : PS X (.For tg iter body [] pos) (tS X.K cm as (dFor it t f)) :=
  HW.PS.imp (ps_for hp hc hi hg hb hs) fun Dn σ H ⟨W, F, ρ, fl, ρ', r, e, k⟩ => by
    simp only [dFor, Option.bind_eq_some_iff] at e
    obtain ⟨⟨ps, ρ1⟩, e1, e2⟩ := e
    refine ⟨W, F, ρ, ps, ρ1, r, e1, fun J H1 F1 r1 s1 u1 w => ?_⟩
    refine ⟨fun i m σ2 H2 => m = ps.length - i ∧ i ≤ ps.length ∧ ∃ F2 ρ2, R X.K cm W σ2 H2 F2 ρ2 ∧ Same F1 F2 ∧ Out as σ σ2 ∧ forL t f (ps.drop i) ρ2 = some (fl, ρ'), ⟨ps.length, by simp, Nat.zero_le _, F1, ρ1, r1, Same.refl _, Out.refl, by rw [List.drop_zero]; exact e2⟩, ?_⟩
    rintro i m σ2 H2 ⟨rfl, hi2, F2, ρ2, r2, s2, o2, e3⟩
    obtain ⟨wa, wb⟩ := w i F2 H2 s2 r2.fh
    by_cases hlt : i < ps.length
    · right
      obtain ⟨go, yl⟩ := wa ps[i] (List.getElem?_eq_getElem hlt)
      refine ⟨go, fun σ3 H3 => ∃ F2 ρ2, R X.K cm W σ3 H3 F2 ρ2 ∧ Same F1 F2 ∧ Out as σ σ3 ∧ forL t f (ps.drop (i + 1)) ρ2 = some (fl, ρ'), fun σ3 H3 h3 => ⟨ps.length - (i + 1), by omega, rfl, hlt, h3⟩, fun x H3 y => ?_⟩
      obtain ⟨F3, ⟨st1, st2, st3⟩, dx⟩ := yl x H3 y
      rw [List.drop_eq_getElem_cons hlt] at e3
      simp only [forL, Option.bind_eq_some_iff] at e3
      obtain ⟨ρ3, e7, ⟨fl1, ρ4⟩, e8, e9⟩ := e3
      refine ⟨W, F3, ρ2, ps[i], ρ3, st3 _ _ _ _ r2, dx, e7, fun σ4 r4 o4 => ⟨W, F3, ρ3, fl1, ρ4, r4, e8, ?_⟩⟩
      cases fl1 with
      | nx => exact fun σ5 H5 F5 r5 s5 o5 => ⟨F5, ρ4, r5, (s2.trans st1).trans s5, (o2.trans o4).trans o5, e9⟩
      | ct => exact fun σ5 H5 F5 r5 s5 o5 => ⟨F5, ρ4, r5, (s2.trans st1).trans s5, (o2.trans o4).trans o5, e9⟩
      | bk => cases e9; exact fun σ5 H5 F5 r5 s5 o5 => k σ5 H5 F5 r5 (((s1.trans s2).trans st1).trans s5) ((o2.trans o4).trans o5)
      | rt d => cases e9; exact fun v σ5 H5 F5 r5 s5 o5 => k v σ5 H5 F5 r5 (((s1.trans s2).trans st1).trans s5) ((o2.trans o4).trans o5)
    · have hi3 : i = ps.length := by omega
      subst hi3
      left
      refine ⟨wb (Nat.le_refl _), ?_⟩
      rw [List.drop_length] at e3
      cases e3
      exact k σ2 H2 F2 r2 (s1.trans s2) o2
theorem s_while {c : Expr} {body : List Stmt} {q : EB} (hc : PT X c (tT X.K cm b q)) (hb : PSs X body (tS X.K cm as f)) (hp : PassesOwn (model X.prog X.w) X.A X.env X.xe := by exact PassesOwn.never) : PS X (.While c body [] pos) (tS X.K cm as (dWhile q f)) :=
  HW.PS.imp (ps_while hp hc hb) fun Dn σ H ⟨W, F, ρ, fl, ρ', r, e, k⟩ => by
    refine ⟨fun m σ2 H2 => ∃ F2 ρ2, R X.K cm W σ2 H2 F2 ρ2 ∧ Same F F2 ∧ Out as σ σ2 ∧ whileL q f m ρ2 = some (fl, ρ'), ⟨FU, F, ρ, r, Same.refl _, Out.refl, e⟩, ?_⟩
    rintro m σ2 H2 ⟨F2, ρ2, r2, s2, o2, e3⟩
    cases m with
    | zero => cases e3
    | succ m =>
      simp only [whileL, Option.bind_eq_some_iff] at e3
      obtain ⟨⟨c1, ρ3⟩, e4, e5⟩ := e3
      refine ⟨W, F2, ρ2, c1, ρ3, r2, e4, fun H3 F3 r3 s3 u3 => ?_⟩
      cases c1 with
      | false =>
        rw [if_neg Bool.false_ne_true] at e5
        cases e5
        exact iteF (k σ2 H3 F3 r3 (s2.trans s3) o2)
      | true =>
        rw [if_pos rfl] at e5
        simp only [Option.bind_eq_some_iff] at e5
        obtain ⟨⟨fl1, ρ4⟩, e8, e9⟩ := e5
        refine iteT ⟨fun σ3 H3 => ∃ F2 ρ2, R X.K cm W σ3 H3 F2 ρ2 ∧ Same F F2 ∧ Out as σ σ3 ∧ whileL q f m ρ2 = some (fl, ρ'), fun σ3 H3 h3 => ⟨m, Nat.lt_succ_self m, h3⟩, W, F3, ρ3, fl1, ρ4, r3, e8, ?_⟩
        cases fl1 with
        | nx => exact fun σ5 H5 F5 r5 s5 o5 => ⟨F5, ρ4, r5, (s2.trans s3).trans s5, o2.trans o5, e9⟩
        | ct => exact fun σ5 H5 F5 r5 s5 o5 => ⟨F5, ρ4, r5, (s2.trans s3).trans s5, o2.trans o5, e9⟩
        | bk => cases e9; exact fun σ5 H5 F5 r5 s5 o5 => k σ5 H5 F5 r5 ((s2.trans s3).trans s5) (o2.trans o5)
        | rt d => cases e9; exact fun v σ5 H5 F5 r5 s5 o5 => k v σ5 H5 F5 r5 ((s2.trans s3).trans s5) (o2.trans o5)
end
end
end HW

namespace HW
open PySem PySem.Spec PyProof.Rows L2
noncomputable section

/-! ### lists that change -/
section
variable {K : PySem.W.Frag} {cm : Str → Addr → Prop} {W F H : Hp} {σ : L2.St} {ρ : Sl} {u : V} {e : D}
theorem RDs.append {vs us : List V} {ds es : List D} {f g : List Addr} (h : RDs K cm F H vs ds f) (t : RDs K cm F H us es g) : RDs K cm F H (vs ++ us) (ds ++ es) (f ++ g) := by
  induction vs generalizing ds f with
  | nil => cases h; exact t
  | cons v vs ih => cases h with | cons a b => rw [List.cons_append, List.cons_append, List.append_assoc]; exact .cons a (ih b)
theorem RDs.ofDPs {vs : List V} {ps : List P} (h : DPs K F vs ps) : RDs K cm F H vs (ps.map .pd) [] := by
  induction vs generalizing ps with
  | nil => cases h; exact .nil
  | cons v vs ih => cases h with | cons a b => exact .cons (f := []) (g := []) (.pd a) (ih b)
theorem RDs.setAt {vs : List V} {ds : List D} {f g : List Addr} (h : RDs K cm F H vs ds f) (t : RD K cm F H u e g) : ∀ (k : Nat), ∃ fp, RDs K cm F H (vs.set k u) (ds.set k e) fp ∧ Sub fp (f ++ g) := by
  induction vs generalizing ds f with
  | nil => cases h; exact fun k => ⟨[], .nil, ⟨g, by simp⟩⟩
  | cons v vs ih =>
    cases h with
    | @cons _ _ d ds f1 f2 a b =>
      intro k
      cases k with
      | zero => exact ⟨g ++ f2, .cons t b, ⟨f1, by
          refine (List.perm_append_comm (l₁ := f1 ++ f2) (l₂ := g)).trans ?_
          rw [List.append_assoc]
          exact List.Perm.append_left g List.perm_append_comm⟩⟩
      | succ k =>
        obtain ⟨fp, h1, h2⟩ := ih b k
        exact ⟨f1 ++ fp, .cons a h1, by rw [List.append_assoc]; exact (Sub.refl f1).app h2⟩
theorem RDs.dropLast {vs : List V} {ds : List D} {f : List Addr} (h : RDs K cm F H vs ds f) : ∃ fp, RDs K cm F H vs.dropLast ds.dropLast fp ∧ Sub fp f := by
  induction vs generalizing ds f with
  | nil => cases h; exact ⟨[], .nil, Sub.refl _⟩
  | cons v vs ih =>
    cases h with
    | @cons _ _ d ds f1 f2 a b =>
      cases vs with
      | nil => cases b; exact ⟨[], .nil, ⟨f1 ++ [], by simp⟩⟩
      | cons v2 vs =>
        obtain ⟨fp, h1, h2⟩ := ih b
        cases b with
        | cons a2 b2 => exact ⟨f1 ++ fp, .cons a h1, (Sub.refl f1).app h2⟩
theorem RDs.eraseAt {vs : List V} {ds : List D} {f : List Addr} (h : RDs K cm F H vs ds f) : ∀ k, ∃ fp, RDs K cm F H (vs.eraseIdx k) (ds.eraseIdx k) fp ∧ Sub fp f := by
  induction vs generalizing ds f with
  | nil => cases h; exact fun k => ⟨[], .nil, Sub.refl _⟩
  | cons v vs ih =>
    cases h with
    | @cons _ _ d ds f1 f2 a b =>
      intro k
      cases k with
      | zero => exact ⟨f2, b, Sub.right _ _⟩
      | succ k =>
        obtain ⟨fp, h1, h2⟩ := ih b k
        exact ⟨f1 ++ fp, .cons a h1, (Sub.refl f1).app h2⟩
theorem RDs.get {vs : List V} {ds : List D} {f : List Addr} (h : RDs K cm F H vs ds f) {k : Nat} {d : D} (e : ds[k]? = some d) : ∃ v g, vs[k]? = some v ∧ RD K cm F H v d g ∧ Sub g f := by
  induction vs generalizing ds f k with
  | nil => cases h; simp at e
  | cons v vs ih =>
    cases h with
    | @cons _ _ d0 ds f1 f2 a b =>
      cases k with
      | zero => simp at e; subst e; exact ⟨v, f1, rfl, a, Sub.left _ _⟩
      | succ k =>
        obtain ⟨w, g, h1, h2, h3⟩ := ih b (by simpa using e)
        exact ⟨w, g, by simpa using h1, h2, h3.trans (Sub.right _ _)⟩
/-- an owned list of a slot is looked at -/
theorem R.seeL (r : R K cm W σ H F ρ) {i : Nat} {ds : List D} (h : ρ[i]? = some (.ol ds)) : ∃ a vs fp, σ[i]? = some (some (.ref a)) ∧ H a = some (.lst vs) ∧ RDs K cm F H vs ds fp := by
  obtain ⟨fp, e, nd, m⟩ := r.ex
  obtain ⟨v, f, g, h1, h2, h3, h4⟩ := e.take h (by simp)
  cases h2 with
  | ol h5 h6 => exact ⟨_, _, _, h1, h5, h6⟩
theorem set_twice {α : Type} (xs : List α) (i : Nat) (a b : α) : (xs.set i a).set i b = xs.set i b := by simp
/-- the owned list of a slot changes; an extra value may go into it -/
theorem R.modL {x : Option V} (r : R K cm W (x :: σ) H F (e :: ρ)) {i : Nat} {ds : List D} (h : ρ[i]? = some (.ol ds)) : ∃ a vs, σ[i]? = some (some (.ref a)) ∧ H a = some (.lst vs) ∧ vs.length = ds.length ∧
    ∀ vs' ds', (∀ fp fe, RDs K cm F H vs ds fp → (∀ u, x = some u → RD K cm F H u e fe) → ∃ fp', RDs K cm F H vs' ds' fp' ∧ Sub fp' (fp ++ fe)) → R K cm W σ (upd H a (.lst vs')) F (ρ.set i (.ol ds')) := by
  obtain ⟨fa, e0, nd, m⟩ := r.ex
  have E : ∃ fe g, (∀ u, x = some u → RD K cm F H u e fe) ∧ RE K cm F H σ ρ g ∧ Sub (g ++ fe) fa := by
    cases e0 with
    | no r1 => exact ⟨[], fa, fun u _ => .hole, r1, by simpa using Sub.refl fa⟩
    | @yes _ _ _ _ f g a r1 => exact ⟨f, g, fun u q => by cases q; exact a, r1, .of_perm List.perm_append_comm⟩
  obtain ⟨fe, g, hu, re, sg⟩ := E
  obtain ⟨v, f, g', h1, h2, h3, h4⟩ := re.take h (by simp)
  cases h2 with
  | @ol a vs _ fp h5 h6 =>
    refine ⟨a, vs, h1, h5, h6.length, fun vs' ds' k => ?_⟩
    obtain ⟨fp', k1, k2⟩ := k fp fe h6 hu
    have S : Sub (a :: fp ++ g' ++ fe) fa := ((h4.app (Sub.refl fe))).trans sg
    have nd2 := S.nodup nd
    rw [List.cons_append, List.cons_append, List.nodup_cons] at nd2
    have na := nd2.1
    simp only [List.mem_append, not_or] at na
    have ha : F a = none ∧ W a = none := m a (S.mem (by simp))
    have np : a ∉ fp' := fun z => by
      have := k2.mem z
      simp only [List.mem_append] at this
      rcases this with q | q
      · exact na.1.1 q
      · exact na.2 q
    have mv : ∀ {l : List Addr}, a ∉ l → ∀ b ∈ l, ∀ o, H b = some o → upd H a (.lst vs') b = some o := fun hl b hb o q => by
      rw [upd_ne (fun z => by subst z; exact hl hb)]; exact q
    have r2 : RD K cm F (upd H a (.lst vs')) (.ref a) (.ol ds') (a :: fp') := .ol upd_same (k1.mono (Same.refl F) (mv np))
    have r3 : RE K cm F (upd H a (.lst vs')) σ (ρ.set i .hole) g' := h3.mono (Same.refl F) (mv na.1.2)
    have hi : i < σ.length := (List.getElem?_eq_some_iff.mp h1).1
    obtain ⟨gg, k3, k4⟩ := r3.put hi r2
    have e3 : σ.set i (some (.ref a)) = σ := by
      obtain ⟨hi, q⟩ := List.getElem?_eq_some_iff.mp h1
      rw [← q]; exact List.set_getElem_self hi
    rw [e3, set_twice] at k3
    refine .ofRE (fun b o q => ?_) (fun b o q => ?_) r.wf nd m k3 (k4.trans (Sub.trans ?_ S))
    · rw [upd_ne (ne_of_none q ha.1)]; exact r.fh b o q
    · rw [upd_ne (ne_of_none q ha.2)]; exact r.wh b o q
    · show Sub (a :: fp' ++ g') (a :: fp ++ g' ++ fe)
      obtain ⟨y, py⟩ := k2
      refine ⟨y, ?_⟩
      rw [List.cons_append, List.cons_append, List.cons_append, List.cons_append]
      refine List.Perm.cons a ?_
      have q1 : (fp ++ g' ++ fe).Perm (fp ++ fe ++ g') := by
        rw [List.append_assoc, List.append_assoc]
        exact List.Perm.append_left fp List.perm_append_comm
      refine q1.trans ((py.append_right g').trans ?_)
      rw [List.append_assoc, List.append_assoc]
      exact List.Perm.append_left fp' List.perm_append_comm
end

section
variable {X : Cx} {cm : Str → Addr → Prop} {as : Nat → Bool} {pos : Pos} {b b1 b2 : Bool}
def someL (ρ : Sl) (i : Nat) : Bool := match ρ[i]? with
  | some (.ol _) => true
  | _ => false
theorem someL_is {ρ : Sl} {i : Nat} (h : someL ρ i = true) : ∃ ds, ρ[i]? = some (.ol ds) := by
  unfold someL at h
  split at h
  · exact ⟨_, by assumption⟩
  · cases h
/-- x.append(value) -/
def dApp (i : Nat) (f : ED) : SF := fun ρ => if someL ρ i = true then (f ρ).bind fun x => match x.2[i]? with
    | some (.ol ds) => if ds.length < 16777216 then some (.nx, x.2.set i (.ol (ds ++ [x.1]))) else none
    | _ => none
  else none
theorem s_app {x : Str} {e : Expr} {p ap cp : Pos} {q : ED} (i : Nat) (he : PE X e (tD X.K cm b q)) (hN : X.N[i]? = some x := by rfl) (hv : Vis X.env.scope x := by first | exact Or.inl rfl | exact Or.inr (Or.inl rfl) | exact Or.inr (Or.inr rfl)) (hd : (x == ("__debug__" : Str)) = false := by decide)
    (hcd : (x == ("__classdict__" : Str)) = false := by decide) (hbase : attributeBase (.Name x p) "append" X.env (eval (.Name x p) X.env) = eval (.Name x p) X.env := by rfl)
    (hfew : ((backTo cp (starEach [e] X.env)).all (fun x => !x.1) && (backToKw cp (keywordEach [] X.env)).all (fun x => x.1.isSome)
      && decide ([e].length + ([] : List Keyword).length + (if ([] : List Keyword).isEmpty then 0 else 1) < 30)) = true := by rfl)
    (hline : (ap.endLine == cp.line) = true := by rfl) (hs : starEach [e] X.env = (false, eval e X.env) :: starEach [] X.env := by rfl) (hplain : (backTo cp (starEach [] X.env)).any (·.1) = false := by rfl)
    (hsw : swapsWith (.Call (.Attribute (.Name x p) "append" ap) [e] [] cp) none pos.line X.env = pure false := by rfl) :
    PS X (.Expr (.Call (.Attribute (.Name x p) "append" ap) [e] [] cp) pos) (tS X.K cm as (dApp i q)) :=
  HW.PS.imp (ps_expr (pe_bm PySem.F.plainAttrs_list PySem.F.slot_list_append PySem.F.type_list_append mt_append (pe_var hN hv hd hcd) (pa_cons he pa_nil hs) hbase hfew hline hs hplain) hsw) fun Dn σ H ⟨W, F, ρ, fl, ρ', r, e0, k⟩ => by
    unfold dApp at e0
    split at e0
    · rename_i h0
      obtain ⟨ds0, h0⟩ := someL_is h0
      simp only [Option.bind_eq_some_iff] at e0
      obtain ⟨⟨d, ρ1⟩, e1, e2⟩ := e0
      obtain ⟨a0, vs0, fp0, h1, h2, h3⟩ := r.seeL h0
      refine ⟨_, h1, .inl ⟨rfl, vs0, .inl (.inl h2)⟩, W, F, ρ, d, ρ1, r, e1, fun v H1 F1 r1 s1 u1 => ?_⟩
      split at e2
      · rename_i ds h4
        split at e2
        · rename_i hl
          cases e2
          obtain ⟨a, vs, h5, h6, h7, h8⟩ := r1.modL h4
          rw [h1] at h5
          cases h5
          refine ⟨_, vs, v, rfl, rfl, h6, by rw [sizeLine_eq, h7]; omega, k σ _ F1 (h8 _ _ fun fp fe m1 m2 => ⟨fp ++ (fe ++ []), m1.append (.cons (m2 v rfl) .nil), by simpa using Sub.refl _⟩) s1 Out.refl⟩
        · cases e2
      · cases e2
    · cases e0
/-- x.extend(a new list) -/
def dExt (i : Nat) (f : EL) : SF := fun ρ => if someL ρ i = true then (f ρ).bind fun x => match x.2[i]? with
    | some (.ol ds) => if ds.length + x.1.length ≤ 16777216 then some (.nx, x.2.set i (.ol (ds ++ x.1.map .pd))) else none
    | _ => none
  else none
theorem s_ext {x : Str} {e : Expr} {p ap cp : Pos} {q : EL} (i : Nat) (he : PE X e (tL X.K cm b q)) (hN : X.N[i]? = some x := by rfl) (hv : Vis X.env.scope x := by first | exact Or.inl rfl | exact Or.inr (Or.inl rfl) | exact Or.inr (Or.inr rfl)) (hd : (x == ("__debug__" : Str)) = false := by decide)
    (hcd : (x == ("__classdict__" : Str)) = false := by decide) (hbase : attributeBase (.Name x p) "extend" X.env (eval (.Name x p) X.env) = eval (.Name x p) X.env := by rfl)
    (hfew : ((backTo cp (starEach [e] X.env)).all (fun x => !x.1) && (backToKw cp (keywordEach [] X.env)).all (fun x => x.1.isSome)
      && decide ([e].length + ([] : List Keyword).length + (if ([] : List Keyword).isEmpty then 0 else 1) < 30)) = true := by rfl)
    (hline : (ap.endLine == cp.line) = true := by rfl) (hs : starEach [e] X.env = (false, eval e X.env) :: starEach [] X.env := by rfl) (hplain : (backTo cp (starEach [] X.env)).any (·.1) = false := by rfl)
    (hsw : swapsWith (.Call (.Attribute (.Name x p) "extend" ap) [e] [] cp) none pos.line X.env = pure false := by rfl) :
    PS X (.Expr (.Call (.Attribute (.Name x p) "extend" ap) [e] [] cp) pos) (tS X.K cm as (dExt i q)) :=
  HW.PS.imp (ps_expr (pe_bm PySem.F.plainAttrs_list PySem.F.slot_list_extend PySem.F.type_list_extend mt_extend (pe_var hN hv hd hcd) (pa_cons he pa_nil hs) hbase hfew hline hs hplain) hsw) fun Dn σ H ⟨W, F, ρ, fl, ρ', r, e0, k⟩ => by
    unfold dExt at e0
    split at e0
    · rename_i h0
      obtain ⟨ds0, h0⟩ := someL_is h0
      simp only [Option.bind_eq_some_iff] at e0
      obtain ⟨⟨ps, ρ1⟩, e1, e2⟩ := e0
      obtain ⟨a0, vs0, fp0, h1, h2, h3⟩ := r.seeL h0
      refine ⟨_, h1, .inl ⟨rfl, vs0, .inl (.inl h2)⟩, W, F, ρ, ps, ρ1, r, e1, fun q vs1 H0 H1 F1 r1 s1 u1 d1 hq hH => ?_⟩
      subst hH
      split at e2
      · rename_i ds h4
        split at e2
        · rename_i hl
          cases e2
          have r2 := r1.same (same_upd (o := .lst vs1) hq)
          obtain ⟨a, vs, h5, h6, h7, h8⟩ := (r2.pd (v := .non) .non).modL h4
          rw [h1] at h5
          cases h5
          refine ⟨_, q, vs, vs1, rfl, rfl, h6, upd_same, by rw [sizeLine_eq, h7, d1.length]; omega, k σ _ F1 (h8 _ _ fun fp fe m1 m2 => ⟨fp ++ [], m1.append (RDs.ofDPs d1), by rw [List.append_nil]; exact Sub.left fp fe⟩) s1 Out.refl⟩
        · cases e2
      · cases e2
    · cases e0
/-- x.pop() as a statement -/
def dPop (i : Nat) : SF := fun ρ => match ρ[i]? with
  | some (.ol (d :: ds)) => some (.nx, ρ.set i (.ol (d :: ds).dropLast))
  | _ => none
theorem s_pop {x : Str} {p ap cp : Pos} (i : Nat) (hN : X.N[i]? = some x := by rfl) (hv : Vis X.env.scope x := by first | exact Or.inl rfl | exact Or.inr (Or.inl rfl) | exact Or.inr (Or.inr rfl)) (hd : (x == ("__debug__" : Str)) = false := by decide)
    (hcd : (x == ("__classdict__" : Str)) = false := by decide) (hbase : attributeBase (.Name x p) "pop" X.env (eval (.Name x p) X.env) = eval (.Name x p) X.env := by rfl)
    (hline : (ap.endLine == cp.line) = true := by rfl) (hsw : swapsWith (.Call (.Attribute (.Name x p) "pop" ap) [] [] cp) none pos.line X.env = pure false := by rfl) :
    PS X (.Expr (.Call (.Attribute (.Name x p) "pop" ap) [] [] cp) pos) (tS X.K cm as (dPop i)) :=
  HW.PS.imp (ps_expr (pe_bm0 PySem.F.plainAttrs_list PySem.F.slot_list_pop PySem.F.type_list_pop mt_pop (pe_var hN hv hd hcd) hbase hline) hsw) fun Dn σ H ⟨W, F, ρ, fl, ρ', r, e0, k⟩ => by
    unfold dPop at e0
    split at e0
    · rename_i d ds h0
      cases e0
      obtain ⟨a, vs, h5, h6, h7, h8⟩ := (r.pd (v := .non) .non).modL h0
      have hn : vs.length - 1 < vs.length := by rw [h7]; simp
      exact ⟨_, h5, .inl ⟨rfl, vs, .inl (.inl h6)⟩, a, vs, vs[vs.length - 1], rfl, rfl, h6, List.getElem?_eq_getElem hn, k σ _ F (h8 _ _ fun fp fe m1 m2 => by
        obtain ⟨g, m3, m4⟩ := m1.dropLast
        exact ⟨g, m3, m4.trans (Sub.left _ _)⟩) (Same.refl F) Out.refl⟩
    · cases e0
/-- x.pop(0) as a statement -/
def dPop0 (i : Nat) : SF := fun ρ => match ρ[i]? with
  | some (.ol (d :: ds)) => some (.nx, ρ.set i (.ol ds))
  | _ => none
theorem s_pop0 {x : Str} {p ap cp ep : Pos} {j} (i : Nat) (hN : X.N[i]? = some x := by rfl) (hv : Vis X.env.scope x := by first | exact Or.inl rfl | exact Or.inr (Or.inl rfl) | exact Or.inr (Or.inr rfl)) (hd : (x == ("__debug__" : Str)) = false := by decide)
    (hcd : (x == ("__classdict__" : Str)) = false := by decide) (hbase : attributeBase (.Name x p) "pop" X.env (eval (.Name x p) X.env) = eval (.Name x p) X.env := by rfl)
    (hfew : ((backTo cp (starEach [.Constant (.int 0) j ep] X.env)).all (fun x => !x.1) && (backToKw cp (keywordEach [] X.env)).all (fun x => x.1.isSome)
      && decide ([Expr.Constant (.int 0) j ep].length + ([] : List Keyword).length + (if ([] : List Keyword).isEmpty then 0 else 1) < 30)) = true := by rfl)
    (hline : (ap.endLine == cp.line) = true := by rfl) (hs : starEach [.Constant (.int 0) j ep] X.env = (false, eval (.Constant (.int 0) j ep) X.env) :: starEach [] X.env := by rfl) (hplain : (backTo cp (starEach [] X.env)).any (·.1) = false := by rfl)
    (hsw : swapsWith (.Call (.Attribute (.Name x p) "pop" ap) [.Constant (.int 0) j ep] [] cp) none pos.line X.env = pure false := by rfl) :
    PS X (.Expr (.Call (.Attribute (.Name x p) "pop" ap) [.Constant (.int 0) j ep] [] cp) pos) (tS X.K cm as (dPop0 i)) :=
  HW.PS.imp (ps_expr (pe_bm PySem.F.plainAttrs_list PySem.F.slot_list_pop PySem.F.type_list_pop mt_popAt (pe_var hN hv hd hcd) (pa_cons pe_int pa_nil hs) hbase hfew hline hs hplain) hsw) fun Dn σ H ⟨W, F, ρ, fl, ρ', r, e0, k⟩ => by
    unfold dPop0 at e0
    split at e0
    · rename_i d ds h0
      cases e0
      obtain ⟨a, vs, h5, h6, h7, h8⟩ := (r.pd (v := .non) .non).modL h0
      have hn : 0 < vs.length := by rw [h7]; simp
      refine ⟨_, h5, .inl ⟨rfl, vs, .inl (.inl h6)⟩, a, vs, 0, 0, vs[0], rfl, rfl, h6, by decide, by decide, ?_, List.getElem?_eq_getElem hn, k σ _ F (h8 _ _ fun fp fe m1 m2 => by
        obtain ⟨g, m3, m4⟩ := m1.eraseAt 0
        exact ⟨g, m3, m4.trans (Sub.left _ _)⟩) (Same.refl F) Out.refl⟩
      unfold seqIndex?
      simp [h7]
    · cases e0
/-- x[k] = value -/
def dSetI (i : Nat) (f : EF) (g : EF) : SF := fun ρ => (f ρ).bind fun x => if someL x.2 i = true then (g x.2).bind fun y => match y.1, y.2[i]? with
    | .int k, some (.ol ds) => (ixN ds.length k).map fun j => (.nx, y.2.set i (.ol (ds.set j (.pd x.1))))
    | _, _ => none
  else none
theorem s_setI {x : Str} {e ix : Expr} {p tp : Pos} {q g : EF} (i : Nat) (he : PE X e (tP X.K cm b1 q)) (hi : PE X ix (tP X.K cm b2 g)) (hN : X.N[i]? = some x := by rfl) (hv : Vis X.env.scope x := by first | exact Or.inl rfl | exact Or.inr (Or.inl rfl) | exact Or.inr (Or.inr rfl)) (hd : (x == ("__debug__" : Str)) = false := by decide)
    (hcd : (x == ("__classdict__" : Str)) = false := by decide)
    (ha : ∀ v, assign (.Subscript (.Name x p) ix tp) X.env v = (do
      let ov ← holding [v] (eval (.Name x p) X.env)
      let iv ← holding [v, ov] (eval ix X.env)
      standAt tp
      holding [v, ov, iv] (setItem ov iv v)
      release [v, ov, iv] []) := by intro _; rfl)
    (hs : swapsWithSole [.Subscript (.Name x p) ix tp] e pos.line X.env = pure false := by rfl) (hw : swappedStores [.Subscript (.Name x p) ix tp] e X.env = pure none := by rfl)
    (h1 : (assignEach [.Subscript (.Name x p) ix tp] X.env).map (·.2) = [assign (.Subscript (.Name x p) ix tp) X.env] := by rfl) :
    PS X (.Assign [.Subscript (.Name x p) ix tp] e pos) (tS X.K cm as (dSetI i q g)) :=
  HW.PS.imp (ps_asg he (pg_sub (pe_var hN hv hd hcd) hi set_list ha) hs hw h1) fun Dn σ H ⟨W, F, ρ, fl, ρ', r, e0, k⟩ => by
    simp only [dSetI, Option.bind_eq_some_iff] at e0
    obtain ⟨⟨pv, ρ1⟩, e1, e2⟩ := e0
    refine ⟨W, F, ρ, pv, ρ1, r, e1, fun v H1 F1 r1 s1 u1 d1 => ?_⟩
    split at e2
    · rename_i h0
      obtain ⟨ds0, h0⟩ := someL_is h0
      obtain ⟨a0, vs0, fp0, h1, h2, h3⟩ := r1.seeL h0
      simp only [Option.bind_eq_some_iff] at e2
      obtain ⟨⟨pk, ρ2⟩, e3, e4⟩ := e2
      refine ⟨_, h1, W, F1, ρ1, pk, ρ2, r1, e3, fun kv H2 F2 r2 s2 u2 d2 => ?_⟩
      split at e4
      · rename_i k' ds e5 h4
        dsimp only at e5
        subst e5
        obtain ⟨j, e6, e7⟩ := Option.map_eq_some_iff.mp e4
        cases e7
        cases d2
        obtain ⟨a, vs, h5, h6, h7, h8⟩ := (r2.pd (DP.mono d1 s2)).modL h4
        rw [h1] at h5
        cases h5
        exact ⟨_, vs, k', j, rfl, rfl, h6, by rw [h7]; exact e6, k σ _ F2 (h8 _ _ fun fp fe m1 m2 => m1.setAt (m2 v rfl) j) (s1.trans s2) Out.refl⟩
      · cases e4
    · cases e2
end

/-! ### freezing -/
mutual
def frz : D → Option P
  | .pd p => some p
  | .ol ds => (frzs ds).map .list
  | _ => none
def frzs : List D → Option (List P)
  | [] => some []
  | d :: ds => (frz d).bind fun p => (frzs ds).map (p :: ·)
end
def ovr (F H : Hp) (fp : List Addr) : Hp := fun a => if a ∈ fp then H a else F a
section
variable {K : PySem.W.Frag} {cm : Str → Addr → Prop} {W F F2 H : Hp} {σ : L2.St} {ρ : Sl}
mutual
theorem RD.frz : ∀ {v : V} {d : D} {fp : List Addr} {p : P}, RD K cm F H v d fp → HW.frz d = some p → Same F F2 → (∀ a ∈ fp, ∀ o, H a = some o → F2 a = some o) → DP K F2 v p
  | _, _, _, _, .hole, e, _, _ => by simp [HW.frz] at e
  | _, _, _, _, .pd h, e, s, _ => by simp [HW.frz] at e; subst e; exact DP.mono h s
  | _, _, _, _, .ol h r, e, s, k => by
    simp only [HW.frz, Option.map_eq_some_iff] at e
    obtain ⟨ps, e1, rfl⟩ := e
    exact .lst (.inl (.inl (k _ (by simp) _ h))) (RDs.frz r e1 s fun a m => k a (by simp [m]))
  | _, _, _, _, .odK _ _ _ _, e, _, _ => by simp [HW.frz] at e
  | _, _, _, _, .odT _ _ _ _, e, _, _ => by simp [HW.frz] at e
  | _, _, _, _, .ob _ _ _ _ _, e, _, _ => by simp [HW.frz] at e
  | _, _, _, _, .kv, e, _, _ => by simp [HW.frz] at e
theorem RDs.frz : ∀ {vs : List V} {ds : List D} {fp : List Addr} {ps : List P}, RDs K cm F H vs ds fp → frzs ds = some ps → Same F F2 → (∀ a ∈ fp, ∀ o, H a = some o → F2 a = some o) → DPs K F2 vs ps
  | _, _, _, _, .nil, e, _, _ => by simp [frzs] at e; subst e; exact .nil
  | _, _, _, _, .cons a b, e, s, k => by
    simp only [frzs, Option.bind_eq_some_iff, Option.map_eq_some_iff] at e
    obtain ⟨p, e1, ps, e2, rfl⟩ := e
    exact .cons (RD.frz a e1 s fun x m => k x (by simp [m])) (RDs.frz b e2 s fun x m => k x (by simp [m]))
end
/-- a held thing freezes -/
theorem R.freeze {v : V} {d : D} {p : P} (r : R K cm W (some v :: σ) H F (d :: ρ)) (e : frz d = some p) : ∃ F', Same F F' ∧ DP K F' v p ∧ R K cm W (some v :: σ) H F' (.pd p :: ρ) := by
  obtain ⟨fa, e0, nd, m⟩ := r.ex
  cases e0 with
  | no _ => simp [HW.frz] at e
  | @yes _ _ _ _ f g a r1 =>
    have s : Same F (ovr F H f) := fun x o q => by
      unfold ovr
      rw [if_neg (fun z => by rw [(m x (by simp [z])).1] at q; cases q)]
      exact q
    have d2 : DP K (ovr F H f) v p := RD.frz a e s fun x hx o q => by unfold ovr; rw [if_pos hx]; exact q
    have nn := List.nodup_append.mp nd
    refine ⟨ovr F H f, s, d2, fun x o q => ?_, r.wh, fun x o q => ?_, [] ++ g, .yes (.pd d2) (r1.mono s fun _ _ _ q => q), by simpa using nn.2.1, fun x hx => ?_⟩
    · unfold ovr at q
      split at q
      · exact q
      · exact r.fh x o q
    · unfold ovr
      rw [if_neg (fun z => by have q2 := (m x (by simp [z])).2; rw [q2] at q; cases q)]
      exact r.wf x o q
    · have hx : x ∈ g := by simpa using hx
      refine ⟨?_, (m x (by simp [hx])).2⟩
      unfold ovr
      rw [if_neg (fun z => nn.2.2 x z x hx rfl)]
      exact (m x (by simp [hx])).1
/-- a slot freezes in its place -/
def frzAt (ρ : Sl) (i : Nat) : Option Sl := match ρ[i]? with
  | some d => (frz d).map fun p => ρ.set i (.pd p)
  | none => none
theorem R.frzAt (r : R K cm W σ H F ρ) {i : Nat} {ρ1 : Sl} (h : HW.frzAt ρ i = some ρ1) : ∃ F', Same F F' ∧ R K cm W σ H F' ρ1 := by
  unfold HW.frzAt at h
  split at h
  · rename_i d h0
    obtain ⟨p, e1, rfl⟩ := Option.map_eq_some_iff.mp h
    have ne : d ≠ .hole := fun z => by subst z; simp [HW.frz] at e1
    obtain ⟨v, h1, h2⟩ := r.take h0 ne
    obtain ⟨F', s, d', r'⟩ := h2.freeze e1
    refine ⟨F', s, ?_⟩
    have := r'.back h1
    rw [set_twice] at this
    exact this
  · cases h
end
section
variable {X : Cx} {cm : Str → Addr → Prop} {as : Nat → Bool} {pos : Pos} {b b1 b2 : Bool}
/-- before a statement: slot i freezes -/
def dFz (i : Nat) (f : SF) : SF := fun ρ => (frzAt ρ i).bind f
theorem fz_imp {f : SF} {i : Nat} {K : PySem.W.Frag} : ∀ Dn σ H, tS K cm as (dFz i f) Dn σ H → tS K cm as f Dn σ H := by
  rintro Dn σ H ⟨W, F, ρ, fl, ρ', r, e, k⟩
  simp only [dFz, Option.bind_eq_some_iff] at e
  obtain ⟨ρ1, e1, e2⟩ := e
  obtain ⟨F', s, r'⟩ := r.frzAt e1
  exact ⟨W, F', ρ1, fl, ρ', r', e2, k.from s Out.refl⟩
theorem s_fz (i : Nat) {st : Stmt} {f : SF} (h : PS X st (tS X.K cm as f)) : PS X st (tS X.K cm as (dFz i f)) := HW.PS.imp h fz_imp
theorem ss_fz (i : Nat) {st : List Stmt} {f : SF} (h : PSs X st (tS X.K cm as f)) : PSs X st (tS X.K cm as (dFz i f)) := HW.PSs.imp h fz_imp
theorem flat_dp {K : PySem.W.Frag} {F F' : Hp} {v : V} {p : P} (h : flatP p = true) (d : DP K F v p) : DP K F' v p := by
  cases d with
  | non => exact .non
  | bl b => exact .bl b
  | int i => exact .int i
  | str x => exact .str x
  | _ => cases h
/-- a pure expression that reckons something flat looks at slot i as if it were frozen -/
def dPk (i : Nat) (f : EF) : EF := fun ρ => (frzAt ρ i).bind fun ρ1 => (f ρ1).bind fun x => if flatP x.1 = true then some (x.1, ρ) else none
theorem x_pk (i : Nat) {e : Expr} {f : EF} (h : PE X e (tP X.K cm true f)) : PE X e (tP X.K cm true (dPk i f)) :=
  HW.PE.imp h fun σ H Q ⟨W, F, ρ, p, ρ', r, e, k⟩ => by
    simp only [dPk, Option.bind_eq_some_iff] at e
    obtain ⟨ρ1, e1, ⟨q, ρ2⟩, e2, e3⟩ := e
    split at e3
    · rename_i hf
      cases e3
      obtain ⟨F', s, r'⟩ := r.frzAt e1
      refine ⟨W, F', ρ1, _, ρ2, r', e2, fun v H1 F1 r1 s1 u1 d1 => ?_⟩
      obtain ⟨_, s2⟩ := u1 rfl
      exact k v H1 F (r.same s2) (Same.refl F) (Pu.same s2) (flat_dp hf d1)
    · cases e3
def dPkT (i : Nat) (f : EB) : EB := fun ρ => (frzAt ρ i).bind fun ρ1 => (f ρ1).map fun x => (x.1, ρ)
theorem pkT_imp {K : PySem.W.Frag} (i : Nat) {f : EB} : ∀ σ H Q, tT K cm true (dPkT i f) σ H Q → tT K cm true f σ H Q := by
  rintro σ H Q ⟨W, F, ρ, p, ρ', r, e, k⟩
  simp only [dPkT, Option.bind_eq_some_iff, Option.map_eq_some_iff] at e
  obtain ⟨ρ1, e1, ⟨q, ρ2⟩, e2, e3⟩ := e
  cases e3
  obtain ⟨F', s, r'⟩ := r.frzAt e1
  refine ⟨W, F', ρ1, _, ρ2, r', e2, fun H1 F1 r1 s1 u1 => ?_⟩
  obtain ⟨_, s2⟩ := u1 rfl
  exact k H1 F (r.same s2) (Same.refl F) (Pu.same s2)
theorem t_pk (i : Nat) {e : Expr} {f : EB} (h : PT X e (tT X.K cm true f)) : PT X e (tT X.K cm true (dPkT i f)) := PT.imp h (pkT_imp i)
theorem w_pk (i : Nat) {e : Expr} {f : EB} (h : PW X e (tT X.K cm true f)) : PW X e (tT X.K cm true (dPkT i f)) := PW.imp h (pkT_imp i)
/-- for statements in general: slot i freezes for good before the expression is reckoned -/
def dFzE (i : Nat) {α : Type} (f : Sl → Option (α × Sl)) : Sl → Option (α × Sl) := fun ρ => (frzAt ρ i).bind f
theorem x_fz (i : Nat) {e : Expr} {f : EF} (h : PE X e (tP X.K cm b f)) : PE X e (tP X.K cm false (dFzE i f)) :=
  HW.PE.imp h fun σ H Q ⟨W, F, ρ, p, ρ', r, e, k⟩ => by
    simp only [dFzE, Option.bind_eq_some_iff] at e
    obtain ⟨ρ1, e1, e2⟩ := e
    obtain ⟨F', s, r'⟩ := r.frzAt e1
    exact ⟨W, F', ρ1, p, ρ', r', e2, fun v H1 F1 r1 s1 u1 d1 => k v H1 F1 r1 (s.trans s1) (fun h => by cases h) d1⟩
/-- what an owned list of a slot holds, if it is frozen -/
def dGetO (i : Nat) (g : EF) : EF := fun ρ => (g ρ).bind fun y => match y.1, y.2[i]? with
    | .int k, some (.ol ds) => match atI ds k with
      | some (.pd p) => if someL ρ i = true then some (p, y.2) else none
      | _ => none
    | _, _ => none
theorem x_getO {x : Str} {ix : Expr} {p : Pos} {g : EF} (i : Nat) (hi : PE X ix (tP X.K cm b g)) (hN : X.N[i]? = some x := by rfl) (hv : Vis X.env.scope x := by first | exact Or.inl rfl | exact Or.inr (Or.inl rfl) | exact Or.inr (Or.inr rfl)) (hd : (x == ("__debug__" : Str)) = false := by decide)
    (hcd : (x == ("__classdict__" : Str)) = false := by decide) (hp : PlainIx ix := by exact fun _ _ => rfl) : PE X (.Subscript (.Name x p) ix pos) (tP X.K cm b (dGetO i g)) :=
  HW.PE.imp (pe_ix ix_list (pe_var hN hv hd hcd) hi hp) fun σ H Q ⟨W, F, ρ, q, ρ', r, e, k⟩ => by
    simp only [dGetO, Option.bind_eq_some_iff] at e
    obtain ⟨⟨pk, ρ1⟩, e1, e2⟩ := e
    split at e2
    · rename_i k' ds e3 h4
      dsimp only at e3
      subst e3
      split at e2
      · rename_i pp h5
        split at e2
        · rename_i h0
          cases e2
          obtain ⟨ds0, h0⟩ := someL_is h0
          obtain ⟨a0, vs0, fp0, h1, h2, h3⟩ := r.seeL h0
          refine ⟨_, h1, W, F, ρ, _, ρ1, r, e1, fun kv H1 F1 r1 s1 u1 d1 => ?_⟩
          cases d1
          obtain ⟨a, vs, fp, h6, h7, h8⟩ := r1.seeL h4
          rw [h1] at h6
          cases h6
          unfold atI at h5
          obtain ⟨j, h9, h10⟩ := Option.bind_eq_some_iff.mp h5
          obtain ⟨v, g', h11, h12, _⟩ := h8.get h10
          refine ⟨_, vs, k', v, rfl, rfl, .inl (.inl h7), ?_, k v H1 F1 r1 s1 u1 (by cases h12 with | pd d => exact d)⟩
          unfold atI
          rw [h8.length, h9]
          exact h11
        · cases e2
      · cases e2
    · cases e2
end
end
end HW

namespace HW
open PySem PySem.Spec PyProof.Rows L2
noncomputable section

/-! ### calls -/
def rest (F H : Hp) : Hp := fun a => match F a with
  | none => H a
  | some _ => none
def spP (K : PySem.W.Frag) (cm : Str → Addr → Prop) (n : Nat) (fd : List P → Option D) : Sp := fun vs H Q _ => vs.length = n ∧ ∃ F ps d, Same F H ∧ DPs K F vs ps ∧ fd ps = some d ∧
  ∀ v H' F', R K cm (rest F H) [some v] H' F' [d] → Same F F' → Q v H'
def spM (K : PySem.W.Frag) (cm : Str → Addr → Prop) (n : Nat) (fd : D → List P → Option (D × D)) : Sp := fun vs H Q _ => vs.length = n + 1 ∧ ∃ u us W F ps d0 d1 d2, vs = u :: us ∧ R K cm W [some u] H F [d0] ∧ DPs K F us ps ∧ fd d0 ps = some (d1, d2) ∧
  ∀ v H' F', R K cm W [some v, some u] H' F' [d2, d1] → Same F F' → Q v H'
section
variable {K : PySem.W.Frag} {cm : Str → Addr → Prop} {W F F' H H' : Hp} {σ : L2.St} {ρ : Sl} {v u : V} {d d0 d1 d2 : D}
theorem rest_some {a : Addr} {o : HO} (h : rest F H a = some o) : F a = none ∧ H a = some o := by
  unfold rest at h
  split at h
  · exact ⟨by assumption, h⟩
  · cases h
theorem rest_of {a : Addr} (h : F a = none) : rest F H a = H a := by unfold rest; rw [h]
theorem rest_same (s : Same F H) (w : Same (rest F H) H') (s2 : Same F H') : Same H H' := fun a o q => by
  cases e : F a with
  | none => exact w a o (by rw [rest_of e]; exact q)
  | some o' =>
    have q2 := s a o' e
    rw [q] at q2
    cases q2
    exact s2 a _ e
theorem RE.one {x : Option V} {fp : List Addr} (h : RE K cm F H [x] [d] fp) : ∃ g, Sub g fp ∧ (∀ {F' H' : Hp} {σ : L2.St} {ρ : Sl} {g' : List Addr}, Same F F' → (∀ a ∈ fp, ∀ o, H a = some o → H' a = some o) → RE K cm F' H' σ ρ g' → RE K cm F' H' (x :: σ) (d :: ρ) (g ++ g')) := by
  cases h with
  | no r => exact ⟨[], ⟨fp, by simp⟩, fun _ _ t => .no t⟩
  | @yes _ _ _ _ f g a r => exact ⟨f, Sub.left _ _, fun s k t => .yes (a.mono s fun x hx => k x (by simp [hx])) t⟩
theorem R.call (r : R K cm W σ H F ρ) (r' : R K cm (rest F H) [some v] H' F' [d]) (s : Same F F') : R K cm W (some v :: σ) H' F' (d :: ρ) ∧ Same H H' := by
  have sH : Same H H' := rest_same r.fh r'.wh fun a o q => r'.fh a o (s a o q)
  refine ⟨?_, sH⟩
  obtain ⟨fp, e, nd, m⟩ := r.ex
  obtain ⟨gp, e', nd', m'⟩ := r'.ex
  obtain ⟨g, sg, k⟩ := e'.one
  have ng := sg.nodup nd'
  refine ⟨r'.fh, fun a o q => sH a o (r.wh a o q), fun a o q => ?_, g ++ fp, k (Same.refl _) (fun _ _ _ q => q) (e.mono s fun a _ o q => sH a o q), ?_, fun a ha => ?_⟩
  · exact r'.wf a o (by rw [rest_of (r.wf a o q)]; exact r.wh a o q)
  · refine List.nodup_append.mpr ⟨ng, nd, fun a ha b hb e2 => ?_⟩
    subst e2
    obtain ⟨o, ho⟩ := e.there a hb
    have := (m' a (sg.mem ha)).2
    rw [rest_of (m a hb).1, ho] at this
    cases this
  · rcases List.mem_append.mp ha with ha | ha
    · have q := m' a (sg.mem ha)
      refine ⟨q.1, ?_⟩
      cases e2 : W a with
      | none => rfl
      | some o =>
        have q2 := q.2
        rw [rest_of (r.wf a o e2), r.wh a o e2] at q2
        cases q2
    · obtain ⟨o, ho⟩ := e.there a ha
      exact ⟨r'.wf a o (by rw [rest_of (m a ha).1]; exact ho), (m a ha).2⟩
def restM (F H : Hp) (f : List Addr) : Hp := fun a => if a ∈ f then none else rest F H a
theorem restM_some {f : List Addr} {a : Addr} {o : HO} (h : restM F H f a = some o) : a ∉ f ∧ F a = none ∧ H a = some o := by
  unfold restM at h
  split at h
  · cases h
  · exact ⟨by assumption, rest_some h⟩
theorem restM_of {f : List Addr} {a : Addr} (h : a ∉ f) (h2 : F a = none) : restM F H f a = H a := by
  unfold restM; rw [if_neg h, rest_of h2]
theorem R.callM (r : R K cm W σ H F ρ) {i : Nat} (h : ρ[i]? = some d0) (ne : d0 ≠ .hole) : ∃ u W0, σ[i]? = some (some u) ∧ R K cm W0 [some u] H F [d0] ∧
    ∀ v H' F' d1 d2, R K cm W0 [some v, some u] H' F' [d2, d1] → Same F F' → R K cm W (some v :: σ) H' F' (d2 :: ρ.set i d1) := by
  obtain ⟨fp, e, nd, m⟩ := r.ex
  obtain ⟨u, f, g, h1, h2, h3, h4⟩ := e.take h ne
  have nd4 := h4.nodup nd
  have nn := List.nodup_append.mp nd4
  have mm : ∀ a ∈ f ++ g, F a = none ∧ W a = none := fun a ha => m a (h4.mem ha)
  refine ⟨u, restM F H f, h1, ⟨r.fh, fun a o q => (restM_some q).2.2, fun a o q => (restM_some q).2.1, f ++ [], .yes h2 .nil, by simpa using nn.1, fun a ha => ?_⟩, fun v H' F' d1 d2 r' s => ?_⟩
  · have ha : a ∈ f := by simpa using ha
    exact ⟨(mm a (by simp [ha])).1, by unfold restM; rw [if_pos ha]⟩
  · obtain ⟨gp, e', nd', m'⟩ := r'.ex
    -- the rest of the slots stands
    have keep : ∀ a ∈ g, ∀ o, H a = some o → H' a = some o ∧ F' a = none ∧ a ∉ gp := fun a ha o q => by
      have na : a ∉ f := fun z => nn.2.2 a z a ha rfl
      have q2 : restM F H f a = some o := by rw [restM_of na (mm a (by simp [ha])).1]; exact q
      exact ⟨r'.wh a o q2, r'.wf a o q2, fun z => by have := (m' a z).2; rw [q2] at this; cases this⟩
    have re : RE K cm F' H' σ (ρ.set i .hole) g := h3.mono s fun a ha o q => (keep a ha o q).1
    have hi : i < σ.length := (List.getElem?_eq_some_iff.mp h1).1
    have e3 : σ.set i (some u) = σ := by
      obtain ⟨hi, q⟩ := List.getElem?_eq_some_iff.mp h1
      rw [← q]; exact List.set_getElem_self hi
    have E : ∃ fa fb, (∃ gg, RE K cm F' H' σ (ρ.set i d1) gg ∧ Sub gg (fb ++ g)) ∧ (∀ {ρ' : Sl} {gg : List Addr}, RE K cm F' H' σ ρ' gg → RE K cm F' H' (some v :: σ) (d2 :: ρ') (fa ++ gg)) ∧ Sub (fa ++ fb) gp := by
      have put : ∀ {fb : List Addr}, RD K cm F' H' u d1 fb → ∃ gg, RE K cm F' H' σ (ρ.set i d1) gg ∧ Sub gg (fb ++ g) := fun {fb} q => by
        obtain ⟨gg, k3, k4⟩ := re.put hi q
        rw [e3, set_twice] at k3
        exact ⟨gg, k3, k4⟩
      cases e' with
      | no t =>
        cases t with
        | no t => exact ⟨[], [], put .hole, fun q => .no q, ⟨gp, by simp⟩⟩
        | @yes _ _ _ _ fb gb b t => exact ⟨[], fb, put b, fun q => .no q, Sub.left _ _⟩
      | @yes _ _ _ _ fa ga a t =>
        cases t with
        | no t => exact ⟨fa, [], put .hole, fun q => .yes a q, by simpa using Sub.left fa ga⟩
        | @yes _ _ _ _ fb gb b t => exact ⟨fa, fb, put b, fun q => .yes a q, by rw [← List.append_assoc]; exact Sub.left _ _⟩
    obtain ⟨fa, fb, ⟨gg, k1, k2⟩, k3, k4⟩ := E
    have S : Sub (fa ++ gg) (gp ++ g) := by
      refine ((Sub.refl fa).app k2).trans ?_
      rw [← List.append_assoc]
      exact k4.app (Sub.refl g)
    have N : (gp ++ g).Nodup := List.nodup_append.mpr ⟨nd', nn.2.1, fun a ha b hb e2 => by
      subst e2
      obtain ⟨o, ho⟩ := h3.there a hb
      exact (keep a hb o ho).2.2 ha⟩
    refine .ofRE r'.fh (fun a o q => ?_) (fun a o q => ?_) N (fun a ha => ?_) (k3 k1) S
    · have wa := r.wh a o q
      have fa' := r.wf a o q
      have na : a ∉ f := fun z => by have := (mm a (by simp [z])).2; rw [q] at this; cases this
      exact r'.wh a o (by rw [restM_of na fa']; exact wa)
    · have wa := r.wh a o q
      have fa' := r.wf a o q
      have na : a ∉ f := fun z => by have := (mm a (by simp [z])).2; rw [q] at this; cases this
      exact r'.wf a o (by rw [restM_of na fa']; exact wa)
    · rcases List.mem_append.mp ha with ha | ha
      · have q := m' a ha
        refine ⟨q.1, ?_⟩
        cases e2 : W a with
        | none => rfl
        | some o =>
          have na : a ∉ f := fun z => by have := (mm a (by simp [z])).2; rw [e2] at this; cases this
          have q2 := q.2
          rw [restM_of na (r.wf a o e2), r.wh a o e2] at q2
          cases q2
      · obtain ⟨o, ho⟩ := h3.there a ha
        exact ⟨(keep a ha o ho).2.1, (mm a (by simp [ha])).2⟩
end

/-! ### a def of the module -/
structure HasFn (P : Program) (w : World) (K : PySem.W.Frag) (mg : Str → Option Value) (base : Heap) (k : Nat) (x : Str) (ps : List Str) (sp : Sp) : Prop where
  ex : ∃ f fd, FnOk P w K mg base CX0 k f fd ps sp ∧ mg x = some (.ref f) ∧ PySem.W.keepIn K (.ref f) = true ∧ Binds K fd ps []
section
variable {X : Cx} {cm : Str → Addr → Prop} {b : Bool} {k : Nat} {x : Str} {ps : List Str} {p pos : Pos} {e : Expr} {es : List Expr} {f : EL} {n : Nat}
def dFn (fd : List P → Option D) (f : EL) : ED := fun ρ => (f ρ).bind fun x => if x.1.length = x.1.length then (fd x.1).map fun d => (d, x.2) else none
def dFnN (n : Nat) (fd : List P → Option D) (f : EL) : ED := fun ρ => (f ρ).bind fun x => if x.1.length = n then (fd x.1).map fun d => (d, x.2) else none
/-- the result is frozen -/
def dFr (f : ED) : EF := fun ρ => (f ρ).bind fun x => (frz x.1).map fun p => (p, x.2)
theorem x_fr (h : PE X e (tD X.K cm b g)) : PE X e (tP X.K cm b (dFr g)) := HW.PE.imp h fun σ H Q ⟨W, F, ρ, p, ρ', r, e, k⟩ => by
  simp only [dFr, Option.bind_eq_some_iff, Option.map_eq_some_iff] at e
  obtain ⟨⟨d, ρ1⟩, e1, q, e2, e3⟩ := e
  cases e3
  refine ⟨W, F, ρ, d, _, r, e1, fun v H1 F1 r1 s1 u1 => ?_⟩
  obtain ⟨F2, s2, d2, r2⟩ := r1.freeze e2
  exact k v H1 F2 r2.tail (s1.trans s2) u1 d2
theorem x_call {fd : List P → Option D} (h : HasFn X.prog X.w X.K X.mg X.base k x ps (spP X.K cm n fd)) (hr : Room k X.A) (ha : PA X (e :: es) (tA X.K cm b f)) (hg : Gl X x := by rfl) (hdb : (x == ("__debug__" : Str)) = false := by decide)
    (he : starEach (e :: es) X.env = (false, eval e X.env) :: starEach es X.env := by rfl) (hpl : (backTo pos (starEach es X.env)).any (·.1) = false := by rfl) :
    PE X (.Call (.Name x p) (e :: es) [] pos) (tD X.K cm b (dFnN n fd f)) := by
  obtain ⟨fa, fdd, ok, hm, hk, hb⟩ := h.ex
  refine HW.PE.imp (pe_call ok hr hg hm hk hb .nil (E := E0) pass0 ha hdb he hpl) fun σ H Q ⟨W, F, ρ, d, ρ', r, e, k⟩ => ?_
  simp only [dFnN, Option.bind_eq_some_iff] at e
  obtain ⟨⟨ps', ρ1⟩, e1, e2⟩ := e
  split at e2
  · rename_i hn
    obtain ⟨d', e3, e4⟩ := Option.map_eq_some_iff.mp e2
    cases e4
    refine ⟨W, F, ρ, ps', _, r, e1, fun vs H1 F1 r1 s1 u1 d1 => ⟨by rw [List.append_nil, d1.length]; exact hn, F1, ps', d, r1.fh, by rw [List.append_nil]; exact d1, e3, fun v H' F' r' s' => ?_⟩⟩
    obtain ⟨r2, s2⟩ := r1.call r' s'
    exact k v H' F' r2 (s1.trans s') (u1.then s2)
  · cases e2
/-- no arguments -/
theorem x_call0 {fd : List P → Option D} (h : HasFn X.prog X.w X.K X.mg X.base k x ps (spP X.K cm 0 fd)) (hr : Room k X.A) (hg : Gl X x := by rfl) (hdb : (x == ("__debug__" : Str)) = false := by decide) :
    PE X (.Call (.Name x p) [] [] pos) (tD X.K cm true (dFnN 0 fd fun ρ => some ([], ρ))) := by
  obtain ⟨fa, fdd, ok, hm, hk, hb⟩ := h.ex
  refine HW.PE.imp (pe_call0 ok hr hg hm hk hb .nil (E := E0) pass0 hdb) fun σ H Q ⟨W, F, ρ, d, ρ', r, e, k⟩ => ?_
  simp only [dFnN, Option.bind_eq_some_iff] at e
  obtain ⟨⟨ps', ρ1⟩, e1, e2⟩ := e
  cases e1
  dsimp only at e2
  rw [if_pos (show ([] : List P).length = 0 from rfl)] at e2
  obtain ⟨d', e3, e4⟩ := Option.map_eq_some_iff.mp e2
  cases e4
  refine ⟨rfl, F, [], d, r.fh, .nil, e3, fun v H' F' r' s' => ?_⟩
  obtain ⟨r2, s2⟩ := r.call r' s'
  exact k v H' F' r2 s' (Pu.same s2)
/-- the first argument is a slot's own thing, that the callee may change -/
def dFnM (n : Nat) (i : Nat) (fd : D → List P → Option (D × D)) (f : EL) : ED := fun ρ => match ρ[i]? with
  | some .hole => none
  | none => none
  | some _ => (f ρ).bind fun x => if x.1.length = n then match x.2[i]? with
    | some .hole => none
    | none => none
    | some d0 => (fd d0 x.1).map fun y => (y.2, x.2.set i y.1)
    else none
theorem x_callM {fd : D → List P → Option (D × D)} {y : Str} {py : Pos} (i : Nat) (h : HasFn X.prog X.w X.K X.mg X.base k x ps (spM X.K cm n fd)) (hr : Room k X.A) (ha : PA X es (tA X.K cm b f)) (hN : X.N[i]? = some y := by rfl) (hv : Vis X.env.scope y := by first | exact Or.inl rfl | exact Or.inr (Or.inl rfl) | exact Or.inr (Or.inr rfl)) (hd : (y == ("__debug__" : Str)) = false := by decide)
    (hcd : (y == ("__classdict__" : Str)) = false := by decide) (hg : Gl X x := by rfl) (hdb : (x == ("__debug__" : Str)) = false := by decide)
    (he : starEach (.Name y py :: es) X.env = (false, eval (.Name y py) X.env) :: starEach es X.env := by rfl) (hpl : (backTo pos (starEach es X.env)).any (·.1) = false := by rfl) :
    PE X (.Call (.Name x p) (.Name y py :: es) [] pos) (tD X.K cm false (dFnM n i fd f)) := by
  obtain ⟨fa, fdd, ok, hm, hk, hb⟩ := h.ex
  refine HW.PE.imp (pe_call ok hr hg hm hk hb .nil (E := E0) pass0 (pa_cons (pe_var hN hv hd hcd) ha he) hdb he hpl) fun σ H Q ⟨W, F, ρ, d, ρ', r, e, k⟩ => ?_
  unfold dFnM at e
  split at e
  · cases e
  · cases e
  · rename_i dz n0 hz
    have ne0 : dz ≠ .hole := fun z => by subst z; exact n0 rfl
    obtain ⟨u0, h0, _⟩ := r.take hz ne0
    simp only [Option.bind_eq_some_iff] at e
    obtain ⟨⟨ps', ρ1⟩, e1, e2⟩ := e
    split at e2
    · rename_i hn
      split at e2
      · cases e2
      · cases e2
      · rename_i d0 n1 h1
        have ne1 : d0 ≠ .hole := fun z => by subst z; exact n1 rfl
        obtain ⟨⟨d1, d2⟩, e3, e4⟩ := Option.map_eq_some_iff.mp e2
        cases e4
        refine ⟨u0, h0, W, F, ρ, ps', ρ1, r, e1, fun vs H1 F1 r1 s1 u1 dd => ?_⟩
        obtain ⟨u, W0, h2, r2, k2⟩ := r1.callM h1 ne1
        rw [h0] at h2
        cases h2
        refine ⟨by rw [List.append_nil, List.length_cons, dd.length]; exact congrArg (· + 1) hn, _, vs, W0, F1, ps', d0, d1, _, by rw [List.append_nil], r2, dd, e3, fun v H' F' r' s' => ?_⟩
        exact k v H' F' (k2 v H' F' d1 _ r' s') (s1.trans s') fun h => by cases h
    · cases e2
end

/-! ### a def by its body -/
def asAll : Nat → Bool := fun _ => true
def asNo0 : Nat → Bool := fun i => !(i == 0)
def runP (n : Nat) (f : SF) (ps : List P) : Option D := match f (ps.map .pd ++ List.replicate (n - ps.length) .hole) with
  | some (.rt d, _) => some d
  | some (.nx, _) => some (.pd .none)
  | _ => none
def runM (n : Nat) (f : SF) (d0 : D) (ps : List P) : Option (D × D) := match f (d0 :: (ps.map .pd ++ List.replicate (n - (ps.length + 1)) .hole)) with
  | some (.rt d, d1 :: _) => some (d1, d)
  | some (.nx, d1 :: _) => some (d1, .pd .none)
  | _ => none
section
variable {K : PySem.W.Frag} {cm : Str → Addr → Prop} {W F H : Hp} {σ : L2.St} {ρ : Sl} {v u : V} {d d1 : D}
theorem RE.holes : ∀ n : Nat, RE K cm F H (List.replicate n none) (List.replicate n .hole) []
  | 0 => .nil
  | n + 1 => .no (RE.holes n)
theorem RE.pds {vs : List V} {ps : List P} {σ : L2.St} {ρ : Sl} {g : List Addr} (h : DPs K F vs ps) (t : RE K cm F H σ ρ g) : RE K cm F H (vs.map some ++ σ) (ps.map .pd ++ ρ) g := by
  induction vs generalizing ps with
  | nil => cases h; exact t
  | cons v vs ih => cases h with | cons a b => exact .yes (f := []) (.pd a) (ih b)
theorem R.start {N : List Str} {vs : List V} {ps : List P} (fh : Same F H) (wh : Same W H) (wf : ∀ a o, W a = some o → F a = none) (h : DPs K F vs ps) : R K cm W (L2.start N vs) H F (ps.map .pd ++ List.replicate (N.length - ps.length) .hole) := by
  refine ⟨fh, wh, wf, [], ?_, by simp, by simp⟩
  unfold L2.start
  rw [h.length]
  exact RE.pds h (RE.holes _)
theorem R.startM {N : List Str} {vs : List V} {ps : List P} (r : R K cm W [some u] H F [d]) (h : DPs K F vs ps) : R K cm W (L2.start N (u :: vs)) H F (d :: (ps.map .pd ++ List.replicate (N.length - (ps.length + 1)) .hole)) := by
  obtain ⟨fp, e, nd, m⟩ := r.ex
  obtain ⟨g, sg, k⟩ := e.one
  have q := k (Same.refl F) (fun _ _ _ q => q) (RE.pds (cm := cm) (H := H) h (RE.holes (N.length - (ps.length + 1))))
  refine ⟨r.fh, r.wh, r.wf, g ++ [], ?_, by simpa using sg.nodup nd, fun a ha => m a (sg.mem (by simpa using ha))⟩
  unfold L2.start
  rw [List.length_cons, h.length, List.map_cons, List.cons_append]
  exact q
theorem R.head {x : Option V} (r : R K cm W (x :: σ) H F (d :: ρ)) : R K cm W [x] H F [d] := by
  obtain ⟨fp, e, nd, m⟩ := r.ex
  cases e with
  | no t => exact .ofRE r.fh r.wh r.wf nd m (.no .nil) ⟨fp, by simp⟩
  | yes a t => exact .ofRE r.fh r.wh r.wf nd m (.yes a .nil) (by simpa using Sub.left _ _)
theorem R.two {x y : Option V} (r : R K cm W (x :: y :: σ) H F (d :: d1 :: ρ)) : R K cm W [x, y] H F [d, d1] := by
  obtain ⟨fp, e, nd, m⟩ := r.ex
  cases e with
  | no t =>
    cases t with
    | no t => exact .ofRE r.fh r.wh r.wf nd m (.no (.no .nil)) ⟨fp, by simp⟩
    | yes b t => exact .ofRE r.fh r.wh r.wf nd m (.no (.yes b .nil)) (by simpa using Sub.left _ _)
  | yes a t =>
    cases t with
    | no t => exact .ofRE r.fh r.wh r.wf nd m (.yes a (.no .nil)) (by simpa using Sub.left _ _)
    | yes b t => exact .ofRE r.fh r.wh r.wf nd m (.yes a (.yes b .nil)) (by simpa using (Sub.refl _).app (Sub.left _ _))
end
section
variable {P : Program} {w : World} {K : PySem.W.Frag} {mg : Str → Option Value} {base : Heap} {cm : Str → Addr → Prop} {k : Nat} {x qual : Str} {st : Stmt} {fa : Addr} {fd : FuncData} {N ps : List Str} {f : SF}
theorem fn_P (G : L2.Fun K x qual st fa fd) (S : FnScope N ps (defScope st))
    (hb : ∀ (cdv : Value) (A : Around) (outer : List Env) (s : Shared) (H : Hp) (E : XK), Room k (A.deeper (envOfC qual (defScope st) s.heap.objs.size fa cdv)) →
      PSs (cxOf CX0 P w K mg base N qual (defScope st) fa cdv A outer s H E).nox (defBody st) (tS K cm asAll f)) : FnOk P w K mg base CX0 (k + 1) fa fd ps (spP K cm ps.length (runP N.length f)) :=
  G.ok S (fun vs H Q E h => h.1) fun cdv A outer s H vs Q E hr h => by
    obtain ⟨hl, F, qs, d, fh, dd, e, k⟩ := h
    refine ⟨_, hb cdv A outer s H E hr, ?_⟩
    unfold runP at e
    have r0 : R K cm (rest F H) (L2.start N vs) H F _ := R.start fh (fun a o q => (rest_some q).2) (fun a o q => (rest_some q).1) dd
    split at e
    · rename_i d' ρ' e1
      cases e
      exact ⟨_, F, _, _, ρ', r0, e1, fun v σ' H' F' r' s' o' => k v H' F' r'.head s'⟩
    · rename_i ρ' e1
      cases e
      exact ⟨_, F, _, _, ρ', r0, e1, fun σ' H' F' r' s' o' => k .non H' F' (r'.pd .non).head s'⟩
    · cases e
theorem fn_M {n : Nat} (G : L2.Fun K x qual st fa fd) (S : FnScope N ps (defScope st)) (hn : ps.length = n + 1)
    (hb : ∀ (cdv : Value) (A : Around) (outer : List Env) (s : Shared) (H : Hp) (E : XK), Room k (A.deeper (envOfC qual (defScope st) s.heap.objs.size fa cdv)) →
      PSs (cxOf CX0 P w K mg base N qual (defScope st) fa cdv A outer s H E).nox (defBody st) (tS K cm asNo0 f)) : FnOk P w K mg base CX0 (k + 1) fa fd ps (spM K cm n (runM N.length f)) :=
  G.ok S (fun vs H Q E h => h.1.trans hn.symm) fun cdv A outer s H vs Q E hr h => by
    obtain ⟨hl, u, us, W, F, qs, d0, d1, d2, rfl, r, dd, e, k⟩ := h
    refine ⟨_, hb cdv A outer s H E hr, ?_⟩
    unfold runM at e
    have r0 : R K cm W (L2.start N (u :: us)) H F _ := r.startM dd
    have h0 : (L2.start N (u :: us))[0]? = some (some u) := rfl
    split at e
    · rename_i d' d1' ρ' e1
      cases e
      refine ⟨_, F, _, _, _, r0, e1, fun v σ' H' F' r' s' o' => ?_⟩
      have q := o' 0 rfl
      rw [h0] at q
      cases σ' with
      | nil => cases q
      | cons z σ' => cases q; exact k v H' F' r'.two s'
    · rename_i d1' ρ' e1
      cases e
      refine ⟨_, F, _, _, _, r0, e1, fun σ' H' F' r' s' o' => ?_⟩
      have q := o' 0 rfl
      rw [h0] at q
      cases σ' with
      | nil => cases q
      | cons z σ' => cases q; exact k .non H' F' (r'.pd .non).two s'
    · cases e
end
end
end HW

namespace HW
open PySem PySem.Spec PyProof.Rows L2
noncomputable section

/-! ### builtins over data -/
section
variable {X : Cx} {cm : Str → Addr → Prop}
/-- a call by data: the answer is one of the frozen things -/
def rFro (K : PySem.W.Frag) (g : List P → Option P) : List V → Hp → VK → Prop := fun vs H Q => ∃ F ps z, Same F H ∧ DPs K F vs ps ∧ g ps = some z ∧ ∀ w, DP K F w z → Q w H
theorem vc_fro {K : PySem.W.Frag} {g : List P → Option P} : VCall K cm (rFro K g) g := by
  intro W σ H F ρ vs ps z Q r d e k
  exact ⟨F, ps, z, r.fh, d, e, fun w d => k w H F r (Same.refl F) (Same.refl H) d⟩
/-- a call by data: a new list of frozen things -/
def rFroL (K : PySem.W.Frag) (g : List P → Option (List P)) : List V → Hp → VK → Prop := fun vs H Q => ∃ F ps zs, Same F H ∧ DPs K F vs ps ∧ g ps = some zs ∧ ∀ ws p, DPs K F ws zs → H p = none → Q (.ref p) (upd H p (.lst ws))
theorem vc_froL {K : PySem.W.Frag} {g : List P → Option (List P)} : VCallL K cm (rFroL K g) g := by
  intro W σ H F ρ vs ps z Q r d e k
  exact ⟨F, ps, z, r.fh, d, e, fun ws p d hp => k p ws d hp⟩

theorem DPs.readsAll {pins : List (Addr × Obj)} {σ : L2.St} {H F : Hp} {s : Shared} {vs : List V} {ps : List P} {us : List Value} (I : Inv X pins σ H s) (fh : Same F H) (d : DPs X.K F vs ps) (r : Vals vs us) : ∃ as, ReadsAll s.heap us ps as :=
  Dp.readsAll I ps vs us (d.mono fh).dp r
theorem DPs.plain {K : PySem.W.Frag} {F : Hp} {vs : List V} {ps : List P} (d : DPs K F vs ps) : PyData.plainAll ps = true := dps_plain d.dp
theorem DP.plain {K : PySem.W.Frag} {F : Hp} {v : V} {p : P} (d : DP K F v p) : p.plain = true := dp_plain d.dp

/-- all alike, none None: what can be put in order -/
def alikeB (ds : List P) : Bool := ds.all fun x => notNon x && ds.all fun y => PySem.W.alike x y
def ordOk (ds : List P) : Bool := alikeB ds && Nat.ble (PyData.depthAll ds) 100
theorem ordOk_is {ds : List P} (h : ordOk ds = true) : PySem.W.AlikeAll ds ∧ PyData.depthAll ds ≤ 100 := by
  unfold ordOk alikeB at h
  simp only [Bool.and_eq_true, List.all_eq_true] at h
  exact ⟨⟨fun x hx y hy => (h.1 x hx).2 y hy, fun x hx e => by have := (h.1 x hx).1; rw [e] at this; cases this⟩, Nat.le_of_ble_eq_true h.2⟩
def minP : List P → Option P
  | [.list (x :: xs)] => if ordOk (x :: xs) then some (PySem.W.minD x xs) else none
  | [.tuple (x :: xs)] => if ordOk (x :: xs) then some (PySem.W.minD x xs) else none
  | _ => none
def maxP : List P → Option P
  | [.list (x :: xs)] => if ordOk (x :: xs) then some (PySem.W.maxD x xs) else none
  | [.tuple (x :: xs)] => if ordOk (x :: xs) then some (PySem.W.maxD x xs) else none
  | _ => none
theorem one_of {K : PySem.W.Frag} {F : Hp} {vs : List V} {p : P} (d : DPs K F vs [p]) : ∃ v, vs = [v] ∧ DP K F v p := by
  cases d with | cons a t => cases t; exact ⟨_, rfl, a⟩
/-- the item that is found again -/
theorem found_item {pins : List (Addr × Obj)} {σ : L2.St} {H F : Hp} {s : Shared} {xs : List V} {ps : List P} {its : List Value} {h' : Heap} {v : Value} {z : P} {bs : List Addr} {i : Nat} (I : Inv X pins σ H s) (fh : Same F H) (d : DPs X.K F xs ps) (rv : Vals xs its) (hi : its.toArray[i]? = some v) (r : Reads h' v z bs)
    (hk : ∀ b o, s.heap.get? b = some o → h'.get? b = some o) : ∃ w, DP X.K F w z ∧ RelV w v := by
  have hi' : its[i]? = some v := by simpa using hi
  obtain ⟨hlt, e⟩ := List.getElem?_eq_some_iff.mp hi'
  have hx : i < xs.length := by rw [rv.length]; exact hlt
  obtain ⟨u, hu, ru⟩ := rv.get (List.getElem?_eq_getElem hx)
  rw [hi'] at hu
  cases hu
  obtain ⟨p, hp, dp⟩ := DPs.getV d (List.getElem?_eq_getElem hx)
  obtain ⟨as, r1⟩ := Dp.reads I p _ _ (DP.mono dp fh).dp ru
  have r2 := PyProof.Rows.Reads.keeps hk r1
  have := SeqAt.plain_unique _ _ _ _ _ (DP.plain dp) r2 r
  subst this
  exact ⟨_, dp, ru⟩
theorem cr_minD (hc : X.calm = true) (hu : HU X) : CallR X (.builtin "min") (rFro X.K minP) := by
  intro pins s σ H vs us Q I r ⟨F, ps, z, fh, d, e, q⟩
  have hu' : X.A.units + 150 < cLine := hu
  unfold minP at e
  split at e
  · rename_i x xs
    split at e
    · rename_i ho
      cases e
      obtain ⟨h1, h2⟩ := ordOk_is ho
      obtain ⟨v, rfl, dv⟩ := one_of d
      cases dv with
      | lst hr hd =>
        obtain ⟨its, rv, hl, _⟩ := I.list ((LK.mono hr fh).seq)
        rw [Vals.ref1 r]
        obtain ⟨as, ra⟩ := DPs.readsAll I fh hd rv
        refine PySem.W.min_list_data (I.ok.hd hc) hl.isList (by simpa using ra) h1 (by omega) fun i v h' tk bs hi rd hk => ?_
        obtain ⟨w, dw, rw'⟩ := found_item I fh hd rv hi rd hk
        exact ⟨w, H, I.kept hk, rw', q w dw⟩
    · cases e
  · rename_i x xs
    split at e
    · rename_i ho
      cases e
      obtain ⟨h1, h2⟩ := ordOk_is ho
      obtain ⟨v, rfl, dv⟩ := one_of d
      cases dv with
      | tup hr hd =>
        obtain ⟨its, rv, hl, _⟩ := I.tuple (SqT.mono hr fh)
        rw [Vals.ref1 r]
        obtain ⟨as, ra⟩ := DPs.readsAll I fh hd rv
        refine PySem.W.min_tuple_data (I.ok.hd hc) (show s.heap.IsTuple _ its.toArray from hl) (by simpa using ra) h1 (by omega) fun i v h' tk bs hi rd hk => ?_
        obtain ⟨w, dw, rw'⟩ := found_item I fh hd rv hi rd hk
        exact ⟨w, H, I.kept hk, rw', q w dw⟩
    · cases e
  · cases e
theorem cr_maxD (hc : X.calm = true) (hu : HU X) : CallR X (.builtin "max") (rFro X.K maxP) := by
  intro pins s σ H vs us Q I r ⟨F, ps, z, fh, d, e, q⟩
  have hu' : X.A.units + 150 < cLine := hu
  unfold maxP at e
  split at e
  · rename_i x xs
    split at e
    · rename_i ho
      cases e
      obtain ⟨h1, h2⟩ := ordOk_is ho
      obtain ⟨v, rfl, dv⟩ := one_of d
      cases dv with
      | lst hr hd =>
        obtain ⟨its, rv, hl, _⟩ := I.list ((LK.mono hr fh).seq)
        rw [Vals.ref1 r]
        obtain ⟨as, ra⟩ := DPs.readsAll I fh hd rv
        refine PySem.W.max_list_data (I.ok.hd hc) hl.isList (by simpa using ra) h1 (by omega) fun i v h' tk bs hi rd hk => ?_
        obtain ⟨w, dw, rw'⟩ := found_item I fh hd rv hi rd hk
        exact ⟨w, H, I.kept hk, rw', q w dw⟩
    · cases e
  · rename_i x xs
    split at e
    · rename_i ho
      cases e
      obtain ⟨h1, h2⟩ := ordOk_is ho
      obtain ⟨v, rfl, dv⟩ := one_of d
      cases dv with
      | tup hr hd =>
        obtain ⟨its, rv, hl, _⟩ := I.tuple (SqT.mono hr fh)
        rw [Vals.ref1 r]
        obtain ⟨as, ra⟩ := DPs.readsAll I fh hd rv
        refine PySem.W.max_tuple_data (I.ok.hd hc) (show s.heap.IsTuple _ its.toArray from hl) (by simpa using ra) h1 (by omega) fun i v h' tk bs hi rd hk => ?_
        obtain ⟨w, dw, rw'⟩ := found_item I fh hd rv hi rd hk
        exact ⟨w, H, I.kept hk, rw', q w dw⟩
    · cases e
  · cases e
/-! sorted -/
def sortB (ds : List P) : Bool := (ds.all fun d => match d with | .tuple (_ :: _) => true | _ => false) || ds.all fun d => match d with | .none => false | .tuple _ => false | _ => true
def sortOk (ds : List P) : Bool := (sortB ds && ordOk ds) && Nat.ble ds.length 16777216
def sortL (ds : List P) : List P := ds.mergeSort (PySem.W.dataLe false id)
def sortedP : List P → Option (List P)
  | [.list ds] => if sortOk ds then some (sortL ds) else none
  | _ => none
theorem sortOk_is {ds : List P} (h : sortOk ds = true) : PySem.W.Sortable ds ∧ PySem.W.AlikeAll ds ∧ PyData.depthAll ds ≤ 100 ∧ ds.length ≤ 16777216 := by
  unfold sortOk sortB at h
  simp only [Bool.and_eq_true, Bool.or_eq_true, List.all_eq_true] at h
  obtain ⟨⟨h1, h2⟩, h3⟩ := h
  obtain ⟨a, b⟩ := ordOk_is h2
  refine ⟨?_, a, b, Nat.le_of_ble_eq_true h3⟩
  rcases h1 with h1 | h1
  · refine .inl fun d hd => ?_
    have := h1 d hd
    split at this
    · exact ⟨_, _, rfl⟩
    · cases this
  · refine .inr fun d hd => ?_
    have := h1 d hd
    constructor
    · intro z; subst z; cases this
    · intro xs z; subst z; cases this
theorem depth_mem : ∀ {ds : List P} {d : P}, d ∈ ds → d.depth ≤ PyData.depthAll ds
  | [], _, h => by cases h
  | x :: xs, d, h => by
    simp only [PyData.depthAll]
    rcases List.mem_cons.mp h with rfl | h
    · exact Nat.le_max_left _ _
    · exact Nat.le_trans (depth_mem h) (Nat.le_max_right _ _)
def RelD (X : Cx) (F : Hp) (v : Value) (p : P) : Prop := ∃ w, RelV w v ∧ DP X.K F w p
theorem each_of {F : Hp} : ∀ {xs : List V} {ps : List P} {its : List Value}, DPs X.K F xs ps → Vals xs its → PySem.W.EachIs (RelD X F) its ps
  | _, _, _, .nil, .nil => .nil
  | _, _, _, .cons a d, .cons r v => .cons ⟨_, r, a⟩ (each_of d v)
theorem of_each {F : Hp} : ∀ {ps : List P} {its : List Value}, PySem.W.EachIs (RelD X F) its ps → ∃ xs, DPs X.K F xs ps ∧ Vals xs its
  | _, _, .nil => ⟨[], .nil, .nil⟩
  | _, _, .cons ⟨w, r, a⟩ t => let ⟨xs, d, v⟩ := of_each t; ⟨w :: xs, .cons a d, .cons r v⟩
theorem cr_sortedD (hu : HU X) : CallR X (.builtin "sorted") (rFroL X.K sortedP) := by
  intro pins s σ H vs us Q I r ⟨F, ps, z, fh, d, e, q⟩
  have hu' : X.A.units + 150 < cLine := hu
  unfold sortedP at e
  split at e
  · rename_i ds
    split at e
    · rename_i ho
      cases e
      obtain ⟨h1, h2, h3, h4⟩ := sortOk_is ho
      obtain ⟨v, rfl, dv⟩ := one_of d
      cases dv with
      | lst hr hd =>
        obtain ⟨its, rv, hl, hz⟩ := I.list ((LK.mono hr fh).seq)
        rw [Vals.ref1 r]
        have e1 : PySem.W.EachIs (RelD X F) its ds := each_of hd rv
        have er : PySem.W.EachIs (fun v b => ∃ as, Reads s.heap v (id b) as) its ds := e1.mono fun v p ⟨w, rw', dp⟩ => Dp.reads I p w v (DP.mono dp fh).dp rw'
        refine PySem.W.sorted_data (enc := id) hl.isList e1 er (fun x hx y hy => ?_) (by simpa using h1) (by rw [sizeLine_eq]; exact h4) (fun b hb => ?_) fun out ho e2 => ?_
        · simp only [List.map_id] at hx hy
          exact h2.1 x hx y hy
        · have := depth_mem hb
          show X.A.units + 2 + b.depth < cLine
          omega
        · obtain ⟨ws, dw, rw'⟩ := of_each e2
          obtain ⟨ep, he'⟩ := PyProof.Rows.sortedAll_at s.heap its out.toArray
          have hlen : ws.length ≤ sizeLine := by rw [rw'.length, ho, sizeLine_eq]; exact h4
          exact ⟨.ref _, upd H (s.heap.objs.size + 1) (.lst ws), I.laid (t' := s.toks) (fun _ _ => PyProof.Rows.sortedAll_old) (Nat.le_succ _) ⟨hlen, out, ep, rw', he'⟩, rfl, q _ _ dw (I.hok.fresh (Nat.le_succ _))⟩
    · cases e
  · cases e
end
section
variable {X : Cx} {cm : Str → Addr → Prop} {b : Bool} {p pos : Pos} {e : Expr} {es : List Expr} {f : EL}
theorem x_min (hc : X.calm = true) (hu : HU X) (hm : MgN X "min") (ha : PA X (e :: es) (tA X.K cm b f)) (hg : Gl X "min" := by rfl)
    (he : starEach (e :: es) X.env = (false, eval e X.env) :: starEach es X.env := by rfl) (hpl : (backTo pos (starEach es X.env)).any (·.1) = false := by rfl) : PE X (.Call (.Name "min" p) (e :: es) [] pos) (tP X.K cm b (dCall minP f)) := x_callB (cr_minD hc hu) vc_fro hg hm (by decide +kernel) ha (by decide) (by decide) he hpl
theorem x_max (hc : X.calm = true) (hu : HU X) (hm : MgN X "max") (ha : PA X (e :: es) (tA X.K cm b f)) (hg : Gl X "max" := by rfl)
    (he : starEach (e :: es) X.env = (false, eval e X.env) :: starEach es X.env := by rfl) (hpl : (backTo pos (starEach es X.env)).any (·.1) = false := by rfl) : PE X (.Call (.Name "max" p) (e :: es) [] pos) (tP X.K cm b (dCall maxP f)) := x_callB (cr_maxD hc hu) vc_fro hg hm (by decide +kernel) ha (by decide) (by decide) he hpl
theorem l_sorted (hu : HU X) (hm : MgN X "sorted") (ha : PA X (e :: es) (tA X.K cm b f)) (hg : Gl X "sorted" := by rfl)
    (he : starEach (e :: es) X.env = (false, eval e X.env) :: starEach es X.env := by rfl) (hpl : (backTo pos (starEach es X.env)).any (·.1) = false := by rfl) : PE X (.Call (.Name "sorted" p) (e :: es) [] pos) (tL X.K cm b (dCallL sortedP f)) := l_callB (cr_sortedD hu) vc_froL hg hm (by decide +kernel) ha (by decide) (by decide) he hpl
end
end
end HW

/-! ### a set made of a list of ints (turned from the rule for tuples) -/
namespace HW
open PySem PySem.Spec PyProof.Rows L2
section
variable {P : Program} {w : World} {A : Around} {E : Value → Shared → Prop} {s : Shared}
set_option maxHeartbeats 4000000 in
theorem call_set_lstI {l : Addr} {items : Array Value} (ns : List Int) {Q : Value → Shared → Prop} (hh : A.handled = none) (hl : s.heap.IsList l items) (hit : IntsAre items.toList ns) (hb : ns.length + 1 < scanBound)
    (h : ∀ (zh' : Heap) (tk c : Nat), SetR w zh' s.heap.objs.size (fun j => decide (j ∈ ns)) c → c ≤ ns.length → (∀ b o, s.heap.get? b = some o → zh'.get? b = some o) → Q (.ref s.heap.objs.size) { s with heap := zh', toks := tk }) :
    wpAny (model P w) A (call
          (.type "set") [.ref l]) Q E s := by
  have zhisz : items.size = ns.length := by
    have q := IntsAre.length hit
    rw [Array.length_toList] at q
    exact q
  obtain ⟨c, tl, zhmro⟩ := F.called_set.mro
  have hmade := F.called_set.made; have hsub := F.called_set.sub
  refine wpAny_call (codeAny_of_tree ?_); show wpAny _ _ (callAny (.type "set") _) _ _ _
  refine wpAny_pure
        ⟨Code.quiet_builtin _ (by decide +kernel), codeAny_builtin F.entry_type_call ?_⟩
  rw [Around.under_plain (weight_type_call_type "set" [.ref l] []) rfl]; have h1 := F.called_set.notType
  have h2 := F.called_set.canCreate; have hct := F.typeCall_set_1 (.ref l)
  (repeat (any_goals (first | assumption | wp_step)))

  refine codeAny_mono (code_set_led1 (.ref l) (E := E) (Q₁ := fun obj s₁ => obj = .ref s.heap.objs.size ∧ s₁ = { s with heap := s.heap.push { cls := .type "set", dict := none, data := .set #[] 0 (.fresh 0 0 (!w.params.followText "set-order")) } }) ⟨rfl, rfl⟩) fun r s₁ zhr => ?_
  cases r with
  | error e => exact zhr
  | ok fl =>
    cases fl with
    | ret obj =>
      obtain ⟨rfl, rfl⟩ := zhr
      have zhS : (s.heap.push { cls := .type "set", dict := none, data := .set #[] 0 (.fresh 0 0 (!w.params.followText "set-order")) }).get? s.heap.objs.size = some { cls := .type "set", dict := none, data := .set #[] 0 (.fresh 0 0 (!w.params.followText "set-order")) } := Heap.get?_push_size _ rfl
      have zhT : Shared.TypeIs { s with heap := s.heap.push { cls := .type "set", dict := none, data := .set #[] 0 (.fresh 0 0 (!w.params.followText "set-order")) } } (.ref s.heap.objs.size) "set" := ⟨_, zhS, rfl⟩
      have hli := F.called_set.init.lookup; have hbi := F.called_set.init.bind (.ref s.heap.objs.size)
      (repeat (any_goals (first | assumption | wp_step)))

      refine codeAny_mono (codeAny_call_builtin (R := wants (fun r s₂ => r = .none ∧ ∃ zh' tk c, s₂ = { s with heap := zh', toks := tk } ∧ SetR w zh' s.heap.objs.size (fun j => decide (j ∈ ns)) c ∧ c ≤ ns.length ∧
          (∀ b o, s.heap.get? b = some o → zh'.get? b = some o)) E) F.called_set.init.plain F.entry_set_init (check_set_init_1 zhT ?_)) fun r₂ s₂ zhr₂ => ?_
      · obtain ⟨ol, zhol, zhcl, nl, zhdl⟩ := hl
        obtain ⟨ocls, odict, odata, oslots⟩ := ol; simp only at zhcl zhdl
        subst zhcl; subst zhdl
        have zhol' : (s.heap.push { cls := .type "set", dict := none, data := .set #[] 0 (.fresh 0 0 (!w.params.followText "set-order")) }).get? l = some { cls := .type "list", dict := odict, data := .seq items nl, slots := oslots } := Heap.get?_push_of_some _ zhol
        have hsls := F.sub_list_set
        have hslf := F.sub_list_frozenset; have zhne : (Value.type "list" == Value.type "dict") = false := by decide
        have zhl1 : (s.heap.push { cls := .type "set", dict := none, data := .set #[] 0 (.fresh 0 0 (!w.params.followText "set-order")) }).IsList l items := ⟨_, zhol', rfl, nl, rfl⟩
        unfold Builtin.«set.__init__» noKeywords Builtin.Frozenset.updateFrom; generalize hPI : pyIter = PI
        wp_walk
        subst hPI

        refine wpAny_pyIter_list zhl1 ?_
        refine wpAny_bind (wpAny_runValue ?_); have zhlS : l < s.heap.objs.size := Heap.lt_size zhol
        have zhh3 : A.in1.in1.in1.handled = none := by simp [hh]
        have zhz1 : (s.heap.push { cls := .type "set", dict := none, data := .set #[] 0 (.fresh 0 0 (!w.params.followText "set-order")) }).objs.size = s.heap.objs.size + 1 := Heap.size_push ..
        have zhneI : l ≠ (s.heap.push { cls := .type "set", dict := none, data := .set #[] 0 (.fresh 0 0 (!w.params.followText "set-order")) }).objs.size := by
          rw [Heap.size_push]; exact Nat.ne_of_lt (Nat.lt_succ_of_lt zhlS)
        have zhSf : s.heap.objs.size ∉ [(s.heap.push { cls := .type "set", dict := none, data := .set #[] 0 (.fresh 0 0 (!w.params.followText "set-order")) }).objs.size, l] := by
          rw [Heap.size_push]; simp only [List.mem_cons, List.mem_singleton, List.not_mem_nil, or_false, not_or]; exact ⟨Nat.ne_of_lt (Nat.lt_succ_self _), Nat.ne_of_gt zhlS⟩
        have zhval : ∀ (i : Nat) (v : Value), items[i]? = some v → ∃ k t, ns[i]? = some k ∧ v = .int k t := fun i v zhv => by
          have zhi : i < ns.length := by rw [← zhisz]; exact (Array.getElem?_eq_some_iff.mp zhv).1
          obtain ⟨t, e⟩ := PyProof.Rows.IntsAre.int_at hit i v (by rw [Array.getElem?_toList]; exact zhv)
          refine ⟨ns[i], t, List.getElem?_eq_getElem zhi, ?_⟩
          rw [e, List.getD_eq_getElem?_getD, List.getElem?_eq_getElem zhi] <;> rfl
        refine set_update_ints ((Walks.list zhh3 _ l zhneI items).toS) s.heap.objs.size
          zhSf ns zhisz hb zhval (items.size - 0) 0 _ (by omega) (Nat.zero_le _)
          ⟨⟨_, Heap.get?_push_size _ rfl, rfl, rfl⟩, (zhl1.push _)⟩ ?hS0 ?hR
        case hS0 =>
          have zhget : ((s.heap.push { cls := .type "set", dict := none, data := .set #[] 0 (.fresh 0 0 (!w.params.followText "set-order")) }).push { cls := .type "list_iterator", data := .fields #[.ref l, .int 0 0] }).get? s.heap.objs.size
              = some { cls := .type "set", dict := none, data := .set #[] 0 (.fresh 0 0 (!w.params.followText "set-order")) } := Heap.get?_push_of_some _ zhS
          exact ⟨0, Nat.le_refl 0, setR_new_at zhget⟩
        case hR =>
          intro s' c' hm zhc' zhS'
          obtain ⟨zh', g2, d', tk', os'⟩ := s'
          have eg : g2 = s.gens := hm.gens; have ed : d' = s.drawn := hm.drawn
          have eo : os' = s.os := hm.os
          subst eg; subst ed; subst eo
          show wpAny _ _ _ _ _ _
          refine wpAny_pure ?_
          show wpAny _ _ (ret Value.none) _ _ _; rw [zhisz] at zhc'
          refine wpAny_pure ⟨rfl, zh', tk', c', rfl, zhS', zhc', fun b o e => ?_⟩
          have zhb0 : b < s.heap.objs.size := Heap.lt_size e
          have zhb1 : b ≠ s.heap.objs.size := Nat.ne_of_lt zhb0
          have zhb2 : b ≠ (s.heap.push { cls := .type "set", dict := none, data := .set #[] 0 (.fresh 0 0 (!w.params.followText "set-order")) }).objs.size := by
            rw [Heap.size_push]; exact Nat.ne_of_lt (Nat.lt_succ_of_lt zhb0)
          exact hm.heap b o (by simp only [List.mem_cons, List.mem_singleton, List.not_mem_nil, or_false, not_or]; exact ⟨zhb1, zhb2⟩) (Heap.get?_push_of_some _ (Heap.get?_push_of_some _ e))

      · cases r₂ with
        | error e => exact zhr₂
        | ok fl₂ =>
          cases fl₂ with
          | ret r =>
            obtain ⟨rfl, zh', tk, c', rfl, zhS', zhc', zhk'⟩ := zhr₂
            (repeat (any_goals (first | assumption | wp_step))); exact h _ _ _ zhS' zhc' zhk'
          | _ => exact zhr₂.elim
    | _ => exact zhr.elim
end
end HW

namespace HW
open PySem PySem.Spec PyProof.Rows L2
noncomputable section
def rSetI (K : PySem.W.Frag) (w : World) : List V → Hp → VK → Prop := fun vs H Q => ∃ (a : Addr) (ns : List Int), vs = [V.ref a] ∧ SqL K H a (ns.map V.int) ∧ ns.length + 1 < scanBound ∧
  ∀ p c, H p = none → c ≤ ns.length → Q (.ref p) (upd H p (SetO w p (fun j => decide (j ∈ ns)) c))
section
variable {X : Cx} {cm : Str → Addr → Prop}
theorem cr_setI (hc : X.calm = true) : CallR X (.type "set") (rSetI X.K X.w) := by
  intro pins s σ H vs us Q I r ⟨a, ns, e, hs, hb, q⟩
  subst e
  obtain ⟨its, rv, hl, _⟩ := I.list hs
  rw [Vals.ref1 r]
  refine call_set_lstI ns (I.ok.hd hc) hl.isList (by simpa using rv.ints) hb fun h' tk c hS hc' hk => ?_
  exact ⟨.ref _, upd H s.heap.objs.size (SetO X.w s.heap.objs.size (fun j => decide (j ∈ ns)) c), I.laid (t' := tk) hk (Nat.le_refl _) (setO_new hS), rfl, q _ c (I.hok.fresh (Nat.le_refl _)) hc'⟩
/-- strictly rising, by insertion -/
def insI (k : Int) : List Int → List Int
  | [] => [k]
  | x :: r => if k < x then k :: x :: r else if k = x then x :: r else x :: insI k r
def ssetI (ns : List Int) : List Int := ns.foldr insI []
theorem insI_mem {k j : Int} : ∀ {r : List Int}, j ∈ insI k r ↔ j = k ∨ j ∈ r
  | [] => by simp [insI]
  | x :: r => by
    unfold insI
    split
    · simp
    · split
      · rename_i h; subst h; simp
      · simp only [List.mem_cons, insI_mem (r := r)]
        constructor
        · rintro (h | h | h) <;> simp [h]
        · rintro (h | h | h) <;> simp [h]
theorem insI_sorted {k : Int} : ∀ {r : List Int}, r.Pairwise (· < ·) → (insI k r).Pairwise (· < ·)
  | [], _ => by simp [insI]
  | x :: r, h => by
    have hx := List.pairwise_cons.mp h
    unfold insI
    split
    · rename_i hk
      exact List.pairwise_cons.mpr ⟨fun y hy => by
        rcases List.mem_cons.mp hy with rfl | hy
        · exact hk
        · exact Int.lt_trans hk (hx.1 y hy), h⟩
    · split
      · exact h
      · rename_i h1 h2
        refine List.pairwise_cons.mpr ⟨fun y hy => ?_, insI_sorted hx.2⟩
        rcases insI_mem.mp hy with rfl | hy
        · omega
        · exact hx.1 y hy
theorem ssetI_mem {ns : List Int} {j : Int} : j ∈ ssetI ns ↔ j ∈ ns := by
  unfold ssetI
  induction ns with
  | nil => simp
  | cons n ns ih => rw [List.foldr_cons, insI_mem, ih]; simp
theorem ssetI_sorted (ns : List Int) : (ssetI ns).Pairwise (· < ·) := by
  unfold ssetI
  induction ns with
  | nil => simp
  | cons n ns ih => exact insI_sorted ih
theorem strict_unique : ∀ {xs ys : List Int}, xs.Pairwise (· < ·) → ys.Pairwise (· < ·) → (∀ k, k ∈ xs ↔ k ∈ ys) → xs = ys
  | [], [], _, _, _ => rfl
  | [], y :: ys, _, _, h => by have := (h y).mpr (by simp); cases this
  | x :: xs, [], _, _, h => by have := (h x).mp (by simp); cases this
  | x :: xs, y :: ys, h1, h2, h => by
    obtain ⟨a1, a2⟩ := List.pairwise_cons.mp h1
    obtain ⟨b1, b2⟩ := List.pairwise_cons.mp h2
    have e : x = y := by
      rcases List.mem_cons.mp ((h x).mp (by simp)) with e | e
      · exact e
      · rcases List.mem_cons.mp ((h y).mpr (by simp)) with e' | e'
        · exact e'.symm
        · have := b1 x e; have := a1 y e'; omega
    subst e
    congr 1
    refine strict_unique a2 b2 fun k => ?_
    have q := h k
    simp only [List.mem_cons] at q
    constructor
    · intro hk
      rcases q.mp (.inr hk) with rfl | r
      · have := a1 k hk; omega
      · exact r
    · intro hk
      rcases q.mpr (.inr hk) with rfl | r
      · have := b1 k hk; omega
      · exact r
def ssetP : List P → Option (List P)
  | [.list xs] => (intsP xs).bind fun ns => if ns.length < 64 then some ((ssetI ns).map .int) else none
  | _ => none
theorem DPs.ints {K : PySem.W.Frag} {F : Hp} : ∀ ns : List Int, DPs K F (ns.map V.int) (ns.map .int)
  | [] => .nil
  | n :: ns => .cons (.int n) (DPs.ints ns)
/-- sorted(set(a list of ints)) -/
theorem l_sset {b : Bool} {p p2 q pos : Pos} {e : Expr} {f : EL} (hc : X.calm = true) (hm : MgN X "sorted") (hm2 : MgN X "set") (ha : PA X [e] (tA X.K cm b f)) (hg : Gl X "sorted" := by rfl) (hg2 : Gl X "set" := by rfl)
    (he2 : starEach [e] X.env = (false, eval e X.env) :: starEach [] X.env := by rfl) (hpl2 : (backTo q (starEach [] X.env)).any (·.1) = false := by rfl)
    (he : starEach [.Call (.Name "set" p2) [e] [] q] X.env = (false, eval (.Call (.Name "set" p2) [e] [] q) X.env) :: starEach [] X.env := by rfl) (hpl : (backTo pos (starEach [] X.env)).any (·.1) = false := by rfl) :
    PE X (.Call (.Name "sorted" p) [.Call (.Name "set" p2) [e] [] q] [] pos) (tL X.K cm b (dCallL ssetP f)) :=
  PE.imp (pe_callB (cr_sortedSet hc) hg hm (by decide +kernel) (pa_cons (pe_callTy (cr_setI hc) hg2 hm2 (by decide +kernel) ha (by decide) (by decide) he2 hpl2) pa_nil he) (by decide) (by decide) he hpl) fun σ H Q ⟨W, F, ρ, ps, ρ', r, e0, k⟩ => by
    simp only [dCallL, Option.bind_eq_some_iff, Option.map_eq_some_iff] at e0
    obtain ⟨⟨p1, ρ1⟩, e1, z, e3, e4⟩ := e0
    cases e4
    refine ⟨W, F, ρ, p1, ρ1, r, e1, fun vs H1 F1 r1 s1 u1 d1 => ?_⟩
    have e3 : ssetP p1 = some _ := e3
    unfold ssetP at e3
    split at e3
    · rename_i xs
      simp only [Option.bind_eq_some_iff] at e3
      obtain ⟨ns, e5, e6⟩ := e3
      split at e6
      · rename_i h64
        cases e6
        obtain ⟨a, us, rfl, h1, h2⟩ := one_lst d1
        have e7 := ints_vs h2 e5
        subst e7
        refine ⟨a, ns, rfl, (LK.mono h1 r1.fh).seq, by unfold scanBound; omega, fun p c hp hc' => ?_⟩
        have r2 : R X.K cm W σ (upd H1 p (SetO X.w p (fun j => decide (j ∈ ns)) c)) F1 ρ1 := r1.same (same_upd hp)
        refine ⟨p, _, c, rfl, upd_same, by omega, fun ns' l hs hmem hl hn => ?_⟩
        have : ns' = ssetI ns := strict_unique hs (ssetI_sorted ns) fun j => by rw [hmem, ssetI_mem]; simp
        subst this
        exact k l _ _ _ F1 r2 s1 (u1.then (same_upd hp)) (DPs.ints _) hn rfl
      · cases e6
    · cases e3
end
end
end HW

namespace HW
open PySem PySem.Spec PyProof.Rows L2
noncomputable section

/-! ### a comprehension straight into a local name -/
section
variable {X : Cx} {cm : Str → Addr → Prop} {as : Nat → Bool} {pos spos : Pos} {b b1 b2 b3 : Bool}
theorem ofL_imp {K : PySem.W.Frag} {f : EL} : ∀ σ H Q, tD K cm b (dOl f) σ H Q → tL K cm b f σ H Q := by
  rintro σ H Q ⟨W, F, ρ, p, ρ', r, e, k⟩
  obtain ⟨⟨ps, ρ1⟩, e1, e2⟩ := Option.map_eq_some_iff.mp e
  cases e2
  refine ⟨W, F, ρ, ps, ρ1, r, e1, fun q vs H0 H1 F1 r1 s1 u1 d1 hp e3 => ?_⟩
  subst e3
  exact k _ _ _ (R.newL r1 d1 hp) s1 (u1.then (same_upd hp))
theorem ofLP_imp {K : PySem.W.Frag} {f : EL} : ∀ σ H Q, tD K cm b (dPd (dLst f)) σ H Q → tL K cm b f σ H Q := by
  rintro σ H Q ⟨W, F, ρ, p, ρ', r, e, k⟩
  obtain ⟨⟨q, ρ1⟩, e1, e2⟩ := Option.map_eq_some_iff.mp e
  cases e2
  obtain ⟨⟨ps, ρ2⟩, e3, e4⟩ := Option.map_eq_some_iff.mp e1
  cases e4
  refine ⟨W, F, ρ, ps, _, r, e3, fun q vs H0 H1 F1 r1 s1 u1 d1 hp e3 => ?_⟩
  subst e3
  have fp := r1.fh.free hp
  exact k _ _ _ ((r1.laid hp).pd (laid_lst (σ := σ) (H := H0) (ρ := ρ2) d1 fp)) (s1.trans (same_upd fp)) (u1.then (same_upd hp))
theorem s_setLc {y : Str} {py : Pos} {elt tg iter : Expr} {ifs : List Expr} {scope : Scope} {own : List (Str × Nat)} {it : EL} {t : Tg} {cnd : EB} {el : EF} {q : ED} (i : Nat) (hq : ∀ σ H Q, tD X.K cm b q σ H Q → tL X.K cm (b1 && (b2 && b3)) (dComp it (own.map (·.2)) t cnd el) σ H Q)
    (hc : X.calm = true) (hN : X.N.Nodup) (ok : BlkOk X.N X.env.scope scope own) (hi : PI X tg iter (tI X.K cm b1 it))
    (hg : ∀ (s : Shared) (H : Hp) (C : Addr) (cl : List (Str × Addr)) (fp : List Addr), PG (X.blk s H scope (compEnvC scope cl C X.env) fp) tg (tTg X.K cm (fun i => (own.map (·.2)).contains i) t))
    (ht : ∀ (s : Shared) (H : Hp) (C : Addr) (cl : List (Str × Addr)) (fp : List Addr), PTs (X.blk s H scope (compEnvC scope cl C X.env) fp) ifs (tT X.K cm b2 cnd))
    (he : ∀ (s : Shared) (H : Hp) (C : Addr) (cl : List (Str × Addr)) (fp : List Addr), PE (X.blk s H scope (compEnvC scope cl C X.env) fp) elt (tP X.K cm b3 el))
    (hy : X.N[i]? = some y := by rfl) (hyl : X.env.scope.names.lookup y = some .local := by rfl) (ha : as i = true := by rfl)
    (hsw : swapsWith (.ListComp elt [⟨tg, iter, ifs, 0⟩] scope pos) (some (.Name y py)) spos.line X.env = pure true := by exact sw_true rfl rfl rfl rfl)
    (htg : tgIn (own.map (·.2)) t = true := by rfl) (hs : ∀ x, foldedSetIterable iter X.env x = pure x := by intro _; rfl) :
    PS X (.Assign [.Name y py] (.ListComp elt [⟨tg, iter, ifs, 0⟩] scope pos) spos) (tS X.K cm as (dSet i q)) :=
  HW.PS.imp (ps_setLc hc hN hy hyl hsw hi ok hg ht he hs) fun Dn σ H ⟨W, F, ρ, fl, ρ', r, e, k⟩ => by
    obtain ⟨⟨d, ρ1⟩, e1, e2⟩ := Option.map_eq_some_iff.mp e
    cases e2
    exact lc_imp htg _ _ _ (hq _ _ _ ⟨W, F, ρ, d, ρ1, r, e1, fun v H1 F1 r1 s1 u1 => k _ H1 F1 (R.put' r1) s1 (Out.set ha)⟩)

/-! ### a comprehension of two loops, pure -/
def comp2 (vs vs1 : List Nat) (tg : Tg) (it1 : EL) (tg1 : Tg) (elt : EF) (ρw : Sl) : List P → Option (List P)
  | [] => some []
  | p :: ps => (bindT tg p ρw).bind fun ρ1 => (it1 ρ1).bind fun x => ((x.1.mapM fun q => (bindT tg1 q (wipeR ρ1 vs1)).bind fun ρ2 => (elt ρ2).map (·.1)) : Option (List P)).bind fun ys => (comp2 vs vs1 tg it1 tg1 elt ρw ps).map (ys ++ ·)
def dComp2 (it : EL) (vs vs1 : List Nat) (tg : Tg) (it1 : EL) (tg1 : Tg) (elt : EF) : EL := fun ρ => (it ρ).bind fun x =>
  if ownOk x.2 vs = true then (comp2 vs vs1 tg it1 tg1 elt (wipeR x.2 vs) x.1).bind fun ys => if ys.length ≤ 16777216 then some (ys, fillR x.2 (wipeR x.2 vs) vs) else none else none

theorem ownOk_wipe (ρ : Sl) (vs : List Nat) : ∀ ws : List Nat, (∀ v ∈ ws, v ∈ vs) → ownOk (wipeR ρ vs) ws = true := by
  intro ws hs
  unfold ownOk
  rw [List.all_eq_true]
  intro v hv
  rw [wipeR_get, if_pos (hs v hv)]
  split <;> rfl
theorem ownOk_set {ρ : Sl} {i : Nat} {p : P} {ws : List Nat} (h : ownOk ρ ws = true) : ownOk (ρ.set i (.pd p)) ws = true := by
  unfold ownOk at h ⊢
  rw [List.all_eq_true] at h ⊢
  intro v hv
  by_cases e : i = v
  · subst e
    rw [List.getElem?_set_self']
    cases ρ[i]? <;> rfl
  · rw [List.getElem?_set_ne e]
    exact h v hv
theorem ownOk_bind {ws : List Nat} : ∀ {t : Tg} {p : P} {ρ ρ' : Sl}, ownOk ρ ws = true → bindT t p ρ = some ρ' → ownOk ρ' ws = true
  | .nm _, _, _, _, h, e => by cases e; exact ownOk_set h
  | .tnil, p, ρ, ρ', h, e => by
    cases p with
    | tuple ps => cases ps with
      | nil => cases e; exact h
      | cons _ _ => cases e
    | _ => cases e
  | .tcons a r, p, ρ, ρ', h, e => by
    cases p with
    | tuple ps => cases ps with
      | nil => cases e
      | cons _ _ =>
        simp only [bindT, Option.bind_eq_some_iff] at e
        obtain ⟨ρ1, e1, e2⟩ := e
        exact ownOk_bind (ownOk_bind h e1) e2
    | _ => cases e
theorem lc2_imp {K : PySem.W.Frag} {vs vs1 : List Nat} {it it1 : EL} {t t1 : Tg} {el : EF} (htg : tgIn vs t = true) (htg1 : tgIn vs1 t1 = true) (hv : ∀ v ∈ vs1, v ∈ vs) : ∀ σ H Q, tL K cm b1 (dComp2 it vs vs1 t it1 t1 el) σ H Q →
    tLc2 (tI K cm b1 it) (tTg K cm (fun i => vs.contains i) t) (tT K cm true dYes) (tI K cm true it1) (tTg K cm (fun i => vs1.contains i) t1) (tT K cm true dYes) (tP K cm true el) vs vs1 σ H Q :=
  fun σ H Q ⟨W, F, ρ, qs, ρ', r, e, k⟩ => by
    simp only [dComp2, Option.bind_eq_some_iff] at e
    obtain ⟨⟨ps, ρ1⟩, e1, e2⟩ := e
    split at e2
    · rename_i hown
      simp only [Option.bind_eq_some_iff] at e2
      obtain ⟨qs', e3, e4⟩ := e2
      split at e4
      · rename_i hz
        cases e4
        dsimp only at hown
        refine ⟨W, F, ρ, ps, ρ1, r, e1, fun J H1 F1 r1 s1 u1 w => fun D hD => ?_⟩
        have WD : W D = none := r1.wh.free hD
        refine ⟨fun i m H2 => m = ps.length - i ∧ i ≤ ps.length ∧ ∃ acc accP F2 rest, R K cm (upd W D (.lst acc)) (L2.wipe σ vs) H2 F2 (wipeR ρ1 vs) ∧ Same F1 F2 ∧ DPs K F2 acc accP ∧
          comp2 vs vs1 t it1 t1 el (wipeR ρ1 vs) (ps.drop i) = some rest ∧ accP ++ rest = qs ∧ Same H1 H2, ⟨ps.length, by simp, Nat.zero_le _, [], [], F1, qs, (r1.wipe _).framed hD, Same.refl _, .nil, (by rw [List.drop_zero]; exact e3), rfl, same_upd hD⟩, ?_⟩
        rintro i m H2 ⟨rfl, hi2, acc, accP, F2, rest, r2, s2, d2, e5, e6, p2⟩
        obtain ⟨wa, wb⟩ := w i F2 H2 s2 r2.fh
        by_cases hlt : i < ps.length
        · right
          obtain ⟨go, yl⟩ := wa ps[i] (List.getElem?_eq_getElem hlt)
          refine ⟨go, fun H' => ∃ acc accP F2 rest, R K cm (upd W D (.lst acc)) (L2.wipe σ vs) H' F2 (wipeR ρ1 vs) ∧ Same F1 F2 ∧ DPs K F2 acc accP ∧
            comp2 vs vs1 t it1 t1 el (wipeR ρ1 vs) (ps.drop (i + 1)) = some rest ∧ accP ++ rest = qs ∧ Same H1 H', fun H' h' => ⟨ps.length - (i + 1), by omega, rfl, hlt, h'⟩, fun x H' y => ?_⟩
          obtain ⟨F3, ⟨st1, st2, st3⟩, dx⟩ := yl x H' y
          rw [List.drop_eq_getElem_cons hlt] at e5
          simp only [comp2, Option.bind_eq_some_iff, Option.map_eq_some_iff] at e5
          obtain ⟨ρb, e7, ⟨qq, ρb'⟩, e8, ys, e9, rs, e10, e11⟩ := e5
          have r3 := st3 _ _ _ _ r2
          refine ⟨_, F3, _, ps[i], ρb, r3, dx, e7, fun σ2 r4 o2 => ⟨wipe_out (by rw [r4.length, ← wipe_length σ, r3.length]; exact bindT_len e7) o2, _, F3, ρb, true, ρb, r4, rfl, fun H4 F4 r5 s5 u5 => ?_⟩⟩
          have hw2 : L2.wipe σ2 vs = L2.wipe σ vs := wipe_out (by rw [r4.length, ← wipe_length σ, r3.length]; exact bindT_len e7) o2
          have okb : ownOk ρb vs1 = true := ownOk_bind (ownOk_wipe ρ1 vs vs1 hv) e7
          obtain ⟨_, sH5⟩ := u5 rfl
          refine iteT ⟨_, F4, ρb, qq, ρb', r5, e8, fun J1 H6 F6 r6 s6 u6 w1 => ?_⟩
          obtain ⟨rfl, sH6⟩ := u6 rfl
          refine ⟨fun j k H7 => k = qq.length - j ∧ j ≤ qq.length ∧ ∃ acc accP F7 yr, R K cm (upd W D (.lst acc)) σ2 H7 F7 ρb' ∧ Same F6 F7 ∧ DPs K F7 acc accP ∧
            ((qq.drop j).mapM fun q => (bindT t1 q (wipeR ρb' vs1)).bind fun ρ2 => (el ρ2).map (·.1)) = some yr ∧ accP ++ (yr ++ rs) = qs ∧ Same H1 H7, ⟨qq.length, by simp, Nat.zero_le _, acc, accP, F6, ys, r6, Same.refl _, DPs.mono d2 ((st1.trans s5).trans s6), (by rw [List.drop_zero]; exact e9), by rw [e11]; exact e6, ((p2.trans st2).trans sH5).trans sH6⟩, ?_⟩
          rintro j k H7 ⟨rfl, hj2, acc, accP, F7, yr, r7, s7, d7, e12, e13, p7⟩
          obtain ⟨w1a, w1b⟩ := w1 j F7 H7 s7 r7.fh
          by_cases hjt : j < qq.length
          · right
            obtain ⟨go1, yl1⟩ := w1a qq[j] (List.getElem?_eq_getElem hjt)
            refine ⟨go1, fun H' => ∃ acc accP F7 yr, R K cm (upd W D (.lst acc)) σ2 H' F7 ρb' ∧ Same F6 F7 ∧ DPs K F7 acc accP ∧
              ((qq.drop (j + 1)).mapM fun q => (bindT t1 q (wipeR ρb' vs1)).bind fun ρ2 => (el ρ2).map (·.1)) = some yr ∧ accP ++ (yr ++ rs) = qs ∧ Same H1 H', fun H' h' => ⟨qq.length - (j + 1), by omega, rfl, hjt, h'⟩, fun x1 H8 y1 => ?_⟩
            obtain ⟨F8, ⟨st4, st5, st6⟩, dx1⟩ := yl1 x1 H8 y1
            rw [List.drop_eq_getElem_cons hjt, List.mapM_cons] at e12
            simp only [Option.pure_def, Option.bind_eq_bind, Option.bind_eq_some_iff, Option.map_eq_some_iff] at e12
            obtain ⟨y0, ⟨ρ2, e14, ⟨y0', ρ2'⟩, e15, rfl⟩, yr', e16, e17⟩ := e12
            cases e17
            have r8 := st6 _ _ _ _ r7
            refine ⟨_, F8, _, qq[j], ρ2, r8.wipe vs1, dx1, e14, fun σ3 r9 o3 => ⟨wipe_out (by rw [r9.length, r8.length, ← wipeR_len ρb' vs1]; exact bindT_len e14) o3, _, F8, ρ2, true, ρ2, r9, rfl, fun H9 F9 r10 s10 u10 => ?_⟩⟩
            have hw3 : L2.wipe σ3 vs1 = L2.wipe σ2 vs1 := wipe_out (by rw [r9.length, r8.length, ← wipeR_len ρb' vs1]; exact bindT_len e14) o3
            obtain ⟨_, sH10⟩ := u10 rfl
            refine iteT ⟨_, F9, ρ2, y0', ρ2', r10, e15, fun v H11 F11 r11 s11 u11 d11 => ?_⟩
            obtain ⟨rfl, sH11⟩ := u11 rfl
            refine ⟨acc, r11.wh D _ upd_same, ?_, acc ++ [v], accP ++ [y0'], F11, yr', ?_, ((s7.trans st4).trans s10).trans s11, (DPs.mono d7 ((st4.trans s10).trans s11)).append (.cons d11 .nil), e16, by rw [List.append_assoc]; exact e13, fun a o q => ?_⟩
            · have e18 := congrArg List.length e13
              simp only [List.length_append, List.length_cons] at e18
              rw [sizeLine_eq, d7.length]
              omega
            · have r12 := (r11.wipe vs1).bump (o' := .lst (acc ++ [v]))
              rw [hw3, bindT_wipe htg1 e14, wipeR_twice] at r12
              have r13 := R.fill r8 ((s10).trans s11) okb (R.unwipe r12)
              rw [fill_wipe _ _ _ (fun v h => h)] at r13
              exact r13
            · rw [upd_ne (ne_of_none q hD)]
              exact sH11 a o (sH10 a o (st5 a o (p7 a o q)))
          · have hj3 : j = qq.length := by omega
            subst hj3
            left
            refine ⟨w1b (Nat.le_refl _), ?_⟩
            rw [List.drop_length] at e12
            cases e12
            have r12 := r7.wipe vs
            rw [hw2, bindT_wipe htg e7, wipeR_twice] at r12
            exact ⟨acc, accP, F7, rs, r12, ((((s2.trans st1).trans s5).trans s6).trans s7), d7, e10, e13, p7⟩
        · have hi3 : i = ps.length := by omega
          subst hi3
          left
          refine ⟨wb (Nat.le_refl _), ?_⟩
          rw [List.drop_length] at e5
          cases e5
          rw [List.append_nil] at e6
          subst e6
          refine k D acc (del H2 D) H2 F2 ?_ (s1.trans s2) (fun h => ?_) d2 del_same (upd_del (r2.wh D _ upd_same)).symm
          · exact R.fill r1 s2 hown (R.unwipe (r2.unframe WD))
          · obtain ⟨p3, p4⟩ := u1 h
            refine ⟨by rw [fill_wipe _ _ _ (fun v h => h), p3], fun a o q => ?_⟩
            have q2 := p4 a o q
            rw [del_ne (ne_of_none q2 hD)]
            exact p2 a o q2
      · cases e4
    · cases e2

theorem l_comp2 {elt tg iter tg1 iter1 : Expr} {scope : Scope} {own : List (Str × Nat)} (vs1 : List Nat) {it it1 : EL} {t t1 : Tg} {el : EF} (hc : X.calm = true) (hN : X.N.Nodup) (ok : BlkOk X.N X.env.scope scope own) (hi : PI X tg iter (tI X.K cm b1 it))
    (hg : ∀ (s : Shared) (H : Hp) (C : Addr) (cl : List (Str × Addr)) (fp : List Addr), PG (X.blk s H scope (compEnvC scope cl C X.env) fp) tg (tTg X.K cm (fun i => (own.map (·.2)).contains i) t))
    (hi1 : ∀ (s : Shared) (H : Hp) (C : Addr) (cl : List (Str × Addr)) (fp : List Addr), PI (X.blk s H scope (compEnvC scope cl C X.env) fp) tg1 iter1 (tI X.K cm true it1))
    (hg1 : ∀ (s : Shared) (H : Hp) (C : Addr) (cl : List (Str × Addr)) (fp : List Addr), PG (X.blk s H scope (compEnvC scope cl C X.env) fp) tg1 (tTg X.K cm (fun i => vs1.contains i) t1))
    (he : ∀ (s : Shared) (H : Hp) (C : Addr) (cl : List (Str × Addr)) (fp : List Addr), PE (X.blk s H scope (compEnvC scope cl C X.env) fp) elt (tP X.K cm true el))
    (htg : tgIn (own.map (·.2)) t = true := by rfl) (htg1 : tgIn vs1 t1 = true := by rfl) (hv : ∀ v ∈ vs1, v ∈ own.map (·.2) := by decide)
    (hs : ∀ x, foldedSetIterable iter X.env x = pure x := by intro _; rfl) (hs1 : ∀ env x, foldedSetIterable iter1 env x = pure x := by intro _ _; rfl) :
    PE X (.ListComp elt [⟨tg, iter, [], 0⟩, ⟨tg1, iter1, [], 0⟩] scope pos) (tL X.K cm b1 (dComp2 it (own.map (·.2)) vs1 t it1 t1 el)) :=
  PE.imp (pe_lc2 hc hN hi ok hv hg (fun _ _ _ _ _ => c_yes) hi1 hg1 (fun _ _ _ _ _ => c_yes) he hs hs1) (lc2_imp htg htg1 hv)
end

/-! ### enumerate of a tuple -/
theorem draws_tuple {prog : Program} {w : World} {A : Around} (hh : A.handled = none) (it l : Addr) (hne : l ≠ it) (items : Array Value) :
    PySem.Draws prog w A it [it, l] items.size (fun i v => items[i]? = some v) (fun i h => h.IsTupleIter it l i ∧ h.IsTuple l items) where
  live := fun _ _ st => let ⟨o, ho, _⟩ := st.1; ⟨o, ho⟩; frame := fun _ _ _ st zhk => ⟨st.1.at fun o e => zhk it (by simp) o e, let ⟨o, ho, r⟩ := st.2; ⟨o, zhk l (by simp) o ho, r⟩⟩
  item := fun i s Q E zhi st zhQ => by
    refine RZ.nextOf_tuple_item st.1 st.2 (x := items[i]) (by simp [zhi]) fun zh' zhit' zhs' => ?_
    exact zhQ _ zh' s.toks (by simp [zhi]) ⟨zhit', let ⟨o, ho, r⟩ := st.2; ⟨o, zhs'.extBut l o hne ho, r⟩⟩ zhs'
  done := fun s Q E st zhE => RZ.nextOf_tuple_end hh st.1 st.2 (by simp) zhE
theorem draws_end {prog : Program} {w : World} {A : Around} (hh : A.handled = none) (it l : Addr) (items : Array Value) (i : Nat) (hx : items[i]? = none) :
    PySem.Draws prog w A it [it, l] i (fun _ _ => False) (fun j h => j = i ∧ h.IsTupleIter it l i ∧ h.IsTuple l items) where
  live := fun _ _ st => let ⟨o, ho, _⟩ := st.2.1; ⟨o, ho⟩
  frame := fun _ _ _ st hk => ⟨st.1, st.2.1.at fun o e => hk it (by simp) o e, let ⟨o, ho, r⟩ := st.2.2; ⟨o, hk l (by simp) o ho, r⟩⟩
  item := fun j s Q E hj st hQ => absurd st.1 (Nat.ne_of_lt hj)
  done := fun s Q E st hE => RZ.nextOf_tuple_end hh st.2.1 st.2.2 hx hE
/-- the tuple at a, each item in a new pair -/
def IteT (K : PySem.W.Frag) (a : Addr) : It :=
  ⟨fun i H => ∃ (xs : List V) (x : V), SqT K H a xs ∧ xs[i]? = some x, fun i H v H' => ∃ T x, v = .ref T ∧ H T = none ∧ H' = upd H T (.tup [.int (i : Nat), x]) ∧ ∀ xs, SqT K H a xs → xs[i]? = some x, fun i H => ∃ xs : List V, SqT K H a xs ∧ xs.length ≤ i⟩
theorem turn_enumT {P : Program} {w : World} {K : PySem.W.Frag} {elts : List Expr} {kk : Nat} {tpos : Pos} (a e it : Addr) :
    Turn P w K (.Tuple elts kk tpos) (IteT K a) [e, it] e (fun i h => (∃ old, IsEnum h e it ((i : Nat) : Int) old) ∧ h.IsTupleIter it a i ∧ e ≠ it ∧ a ≠ e ∧ a ≠ it) where
  mem := by simp
  obj := fun i h st b zhb => by
    obtain ⟨⟨old, zhe⟩, ⟨o, zho, zhc, zhd⟩, _⟩ := st
    have e' : b = e ∨ b = it := by simpa using zhb
    rcases e' with z | z
    · rw [z]; exact ⟨_, zhe, fun v q => nomatch q⟩
    · rw [z]; exact ⟨o, zho, fun v q => by rw [zhd] at q; cases q⟩
  keep := fun i h zh' st k => let ⟨⟨old, zhe⟩, hi, zhne⟩ := st; ⟨⟨old, k e (by simp) _ zhe⟩, hi.at fun o q => k it (by simp) o q, zhne⟩
  item := by
    intro X hP hw hK zhc i pins s σ H E I hf st hg
    subst hP hw hK
    obtain ⟨⟨old, zhe⟩, zhit, zhne, zhae, zhai⟩ := st
    obtain ⟨xs, x, zhq, zhx⟩ := hg
    obtain ⟨its, rv, p, zhz⟩ := I.tuple zhq
    obtain ⟨u, zhu, ru⟩ := rv.get zhx
    have zhel : e < s.heap.objs.size := Heap.lt_size zhe
    have zhil : it < s.heap.objs.size := by obtain ⟨_, q, _⟩ := zhit; exact Heap.lt_size q
    have zhh : X.A.in1.handled = none := I.ok.hd zhc
    have zhlt : i < its.toArray.size := by
      rw [List.size_toArray, ← rv.length]
      exact (List.getElem?_eq_some_iff.mp zhx).1
    refine PySem.wpAny_pyNext_enum_itemD (draws_tuple zhh it a zhai its.toArray) zhe ⟨zhit, show s.heap.IsTuple a its.toArray from p⟩ zhlt zhne (by simp [zhne, Ne.symm zhae]) fun y zh' tk zhy zho zhst zhT zhsz zhk => ?_
    have ey : y = u := by
      have : its[i]? = some y := by simpa using zhy
      rw [zhu] at this
      exact (Option.some.inj
            this).symm
    subst ey
    refine ⟨_, rfl, wpAny_letOwnedTupleGo_enum (s := { s with heap := zh', toks := tk + 1 }) zho fun zh'' zhe' sb => ?_⟩
    have zhT2 : zh''.get? s.heap.objs.size = some { cls := .type "tuple", data := .seq #[.int i tk, y] } := (sb.2 _ (Nat.ne_of_gt zhel)).trans zhT
    have new : ObjOk X.prog X.w (upd H s.heap.objs.size (.tup [.int (i : Nat), x])) zh'' s.heap.objs.size (.tup [.int (i : Nat), x]) :=
      ⟨by show 2 ≤ sizeLine; decide, [.int i tk, y], .cons ⟨_, rfl⟩ (.cons ru .nil), ⟨_, zhT2, rfl, _, rfl⟩⟩
    have I1 : Inv X pins σ (upd H s.heap.objs.size (.tup [.int (i : Nat), x])) { s with heap := zh'', toks := tk + 1 } :=
      I.turnedNew (ch := [e, it]) (fun b ob zhb q => (sb.2 b (fun z => zhb (by simp [z]))).trans (zhk b ob (fun z => zhb (by simp [z])) (fun z => zhb (by simp [z])) q)) hf (Nat.le_refl _) new
    refine ⟨.ref s.heap.objs.size, _, I1, rfl, ⟨_, x, rfl, I.hok.fresh (Nat.le_refl _), rfl, fun ys zhy => by rw [I.tuple_inj zhy zhq]; exact zhx⟩, ⟨⟨y, ?_⟩, zhst.1.at fun o q => (sb.2 it (Ne.symm zhne)).trans q, zhne, zhae, zhai⟩, fun b zhb => ?_⟩
    · have e1 : ((i + 1 : Nat) :
          Int) = (i : Int) + 1 := by omega
      rw [e1]; exact zhe'
    · have zhb' : b < s.heap.objs.size := by
        have e' : b = e ∨ b = it := by simpa using zhb
        rcases e' with z | z
        · rw [z]; exact zhel
        · rw [z]; exact zhil
      rw [upd_ne (Nat.ne_of_lt zhb')]
      exact (hf b zhb).1
  done := by
    intro X hP hw hK zhc i pins s σ H E I hf st hg
    subst hP hw hK
    obtain ⟨⟨old, zhe⟩, zhit, zhne, zhae, zhai⟩ := st
    obtain ⟨xs, zhq, zhx⟩ := hg
    obtain ⟨its, rv, p, zhz⟩ := I.tuple zhq
    obtain ⟨f0, f1, f2, f3,
          f4, f5⟩ := hf it (by simp)
    have zhh : X.A.in1.handled = none := I.ok.hd zhc
    have hl := rv.length
    exact PySem.wpAny_pyNext_enum_endD (draws_end zhh it a its.toArray i (by simp; omega)) zhe ⟨rfl, zhit, show s.heap.IsTuple a its.toArray from p⟩ fun zh' eb => ⟨rfl, I.turned (t' := s.toks) (fun b o zhb q => eb b o zhb q) f0 f1 f3 f4 f5⟩
  self := fun A i s Q E st h => let ⟨⟨_, zhe⟩, _⟩ := st; wpAny_pyIter_enum zhe h

theorem meets_enumT (l : Addr) (items : Array Value) (n : Nat) (dct : Option Addr) (sl : Array (Option Value)) :
    Meets (Builtin.«enumerate.__new__» ⟨[.type "enumerate", .ref l], []⟩) (fun _ R s => s.heap.get? l = some ⟨.type "tuple", dct, .seq items n, sl⟩ ∧
      R (.ok (.ret (.ref (s.heap.push { cls := .type "tuple_iterator", data := .fields #[.ref l, .int 0 0] }).objs.size)))
        { s with heap := (s.heap.push { cls := .type "tuple_iterator", data := .fields #[.ref l, .int 0 0] }).push { cls := .type "enumerate", data := .fields #[.none, .bool false, .ref s.heap.objs.size, rawInt 0, .none, .none] } }) :=
  .of_wp fun prog w A R s h => by
    obtain ⟨zhp, g, d, tk, os⟩ := s
    obtain ⟨zhl, h⟩ := h
    have zhL : Heap.IsTuple (Shared.heap ⟨zhp, g, d, tk, os⟩) l items := ⟨_, zhl, rfl, n, rfl⟩
    have hsub := PySem.sub_enumerate
    wp_walk
    refine wpAny_stack_any fun st => wpAny_pure ?_; split
    · rename_i c _ _ _ _ _
      cases (c ==
            Value.type "enumerate")
      · wp_walk using wpAny_loadPart' zhl, wpAny_pyIter_tuple zhL
        exact ⟨_, rfl, h⟩
      · wp_walk using wpAny_loadPart' zhl, wpAny_pyIter_tuple zhL
        exact ⟨_, rfl, h⟩
    · wp_walk using wpAny_loadPart' zhl, wpAny_pyIter_tuple zhL
      exact ⟨_, rfl, h⟩
end
end HW

namespace HW
open PySem PySem.Spec PyProof.Rows L2
noncomputable section
section
variable {prog : Program} {w : World} {A : Around} {E : Value → Shared → Prop} {s : Shared}
theorem call_enumT {l : Addr} {items : Array Value} {Q : Value → Shared → Prop} (hL : s.heap.IsTuple l items)
    (h : ∀ h', IsEnum h' (s.heap.objs.size + 1) s.heap.objs.size 0 .none → h'.IsTupleIter s.heap.objs.size l 0 → h'.objs.size = s.heap.objs.size + 2 →
      (∀ b o, s.heap.get? b = some o → h'.get? b = some
            o) → Q (.ref (s.heap.objs.size + 1)) { s with heap := h' }) :
    wpAny (model prog w) A (call (.type
          "enumerate") [.ref l]) Q E s := by
  obtain ⟨⟨c, dct, dt, sl⟩, zhl, zhc, n, zhd⟩ := hL
  replace zhc : c = .type "tuple" := zhc
  replace zhd : dt = .seq items n := zhd
  subst zhc zhd
  refine callType_new F.called_enumerate (by decide) (F.typeCall_enumerate_1
        _) (F.newCall_enumerate_1 _) (fun obj => F.args_object_init_2 obj _) F.entry_enumerate_new
    (meets_enumT l items n dct sl) ⟨zhl, ?_⟩
  have zhz : (s.heap.push { cls := .type "tuple_iterator", data := .fields #[.ref l, .int 0 0] }).objs.size = s.heap.objs.size + 1 := Heap.size_push ..
  show _ ∧ _
  rw [zhz]
  have zhe : IsEnum ((s.heap.push { cls := .type "tuple_iterator", data := .fields #[.ref l, .int 0 0] }).push
      { cls := .type "enumerate", data := .fields #[.none, .bool false, .ref s.heap.objs.size,
            rawInt 0, .none, .none] }) (s.heap.objs.size + 1) s.heap.objs.size 0 .none := by
    have := Heap.get?_push_size (s.heap.push { cls := .type "tuple_iterator", data := .fields #[.ref l, .int 0 0] })
      (o := { cls := .type "enumerate", data := .fields #[.none,
            .bool false, .ref s.heap.objs.size, rawInt 0, .none, .none] }) rfl
    rw [zhz] at this; exact this
  refine ⟨⟨_, zhe, rfl⟩, h _ zhe ⟨_, Heap.get?_push_of_some _ (Heap.get?_push_size _ rfl), rfl, rfl⟩ (by rw [Heap.size_push, zhz]) fun b o x => Heap.get?_push_of_some _ (Heap.get?_push_of_some _ x)⟩
end
theorem walk_enumT {K : PySem.W.Frag} {F : Hp} {ad : Addr} {vs : List V} {ps : List P} (h : SqT K F ad vs) (d : DPs K F vs ps) : WalkD K F (IteT K ad) (enumL 0 ps) := fun i F1 H s1 s2 => by
  have hq : SqT K H ad vs := SqT.mono (SqT.mono h s1) s2
  refine ⟨fun p hp => ?_, fun hl => ⟨vs, hq, by rw [DPs.length d]; rw [enumL_len] at hl; exact hl⟩⟩
  obtain ⟨p0, h0, rfl⟩ := enumL_get hp
  obtain ⟨v, hv, dv⟩ := DPs.get d h0
  refine ⟨⟨vs, v, hq, hv⟩, fun x H' y => ?_⟩
  obtain ⟨T, x0, rfl, hT, rfl, y⟩ := y
  have e : x0 = v := Option.some.inj ((y vs hq).symm.trans hv)
  subst e
  refine ⟨upd F1 T (.tup [.int (i : Nat), x0]), Stp.laid s2 hT, ?_⟩
  rw [Nat.zero_add]
  exact laid_tup (σ := []) (H := H) (ρ := []) (.cons (.int _) (.cons (DP.mono dv s1) .nil)) (s2.free hT)
/-! enumerate of a text -/
def draws_str {prog : Program} {w : World} {A : Around} (hh : A.handled = none) (it : Addr) (x : Str) (t : Tok) :
    PySem.Draws prog w A it [it] x.cps.size (fun i v => ∃ c u, x.cps[i]? = some c ∧ v = .str ⟨#[c]⟩ u) (fun i h => h.IsStrIter it (strIterType x) x t i) := by
  unfold strIterType
  cases ha : x.cps.all (·
        < 128)
  · exact PySem.Draws.strWide hh it x t
  · exact PySem.Draws.strAscii hh it x t
theorem draws_strEnd {prog : Program} {w : World} {A : Around} (hh : A.handled = none) (it : Addr) (x : Str) (t : Tok) (i : Nat) (hx : x.cps[i]? = none) :
    PySem.Draws prog w A it [it] i (fun _ _ => False) (fun j h => j = i ∧ h.IsStrIter it (strIterType x) x t i) where
  live := fun _ _ st => let ⟨o, ho, _⟩ := st.2; ⟨o, ho⟩
  frame := fun _ _ _ st hk => ⟨st.1, let ⟨o, ho, r⟩ := st.2; ⟨o, hk it (by simp) o ho, r⟩⟩
  item := fun j s Q E hj st hQ => absurd st.1 (Nat.ne_of_lt hj)
  done := fun s Q E st hE => by
    have h2 := st.2
    unfold strIterType at h2
    cases ha : x.cps.all (·
          < 128)
    · rw [ha] at h2; exact PySem.wpAny_nextOf_wide_end hh h2 hx hE
    · rw [ha] at h2; exact PySem.wpAny_nextOf_ascii_end hh h2 hx hE
def IteS (x : Str) : It :=
  ⟨fun i _ => i < x.cps.size, fun i H v H' => ∃ T c, x.cps[i]? = some c ∧ v = .ref T ∧ H T = none ∧ H' = upd H T (.tup [.int (i : Nat), .str ⟨#[c]⟩]), fun i _ => x.cps.size ≤ i⟩
theorem turn_enumS {P : Program} {w : World} {K : PySem.W.Frag} {elts : List Expr} {kk : Nat} {tpos : Pos} (x : Str) (t : Tok) (e it : Addr) :
    Turn P w K (.Tuple elts kk tpos) (IteS x) [e, it] e (fun i h => (∃ old, IsEnum h e it ((i : Nat) : Int) old) ∧ h.IsStrIter it (strIterType x) x t i ∧ e ≠ it) where
  mem := by simp
  obj := fun i h st b zhb => by
    obtain ⟨⟨old, zhe⟩, ⟨o, zho, zhc, zhd⟩, _⟩ := st
    have e' : b = e ∨ b = it := by simpa using zhb
    rcases e' with z | z
    · rw [z]; exact ⟨_, zhe, fun v q => nomatch q⟩
    · rw [z]; exact ⟨o, zho, fun v q => by rw [zhd] at q; cases q⟩
  keep := fun i h zh' st k => let ⟨⟨old, zhe⟩, ⟨o, zho, r⟩, zhne⟩ := st; ⟨⟨old, k e (by simp) _ zhe⟩, ⟨o, k it (by simp) o zho, r⟩, zhne⟩
  item := by
    intro X hP hw hK zhc i pins s σ H E I hf st hg
    subst hP hw hK
    obtain ⟨⟨old, zhe⟩, zhit, zhne⟩ := st
    have zhlt : i < x.cps.size := hg
    have zhel : e < s.heap.objs.size := Heap.lt_size zhe
    have zhil : it < s.heap.objs.size := by obtain ⟨_, q, _⟩ := zhit; exact Heap.lt_size q
    have zhh : X.A.in1.handled = none := I.ok.hd zhc
    refine PySem.wpAny_pyNext_enum_itemD (draws_str zhh it x t) zhe zhit zhlt zhne (by simp [zhne]) fun y zh' tk ⟨c, u, zhx, zhy⟩ zho zhst zhT zhsz zhk => ?_
    subst zhy
    refine ⟨_, rfl, wpAny_letOwnedTupleGo_enum (s := { s with heap := zh', toks := tk + 1 }) zho fun zh'' zhe' sb => ?_⟩
    have zhT2 : zh''.get? s.heap.objs.size = some { cls := .type "tuple", data := .seq #[.int i tk, .str ⟨#[c]⟩ u] } := (sb.2 _ (Nat.ne_of_gt zhel)).trans zhT
    have new : ObjOk X.prog X.w (upd H s.heap.objs.size (.tup [.int (i : Nat), .str ⟨#[c]⟩])) zh'' s.heap.objs.size (.tup [.int (i : Nat), .str ⟨#[c]⟩]) :=
      ⟨by show 2 ≤ sizeLine; decide, [.int i tk, .str ⟨#[c]⟩ u], .cons ⟨_, rfl⟩ (.cons ⟨u, rfl⟩ .nil), ⟨_, zhT2, rfl, _, rfl⟩⟩
    have I1 : Inv X pins σ (upd H s.heap.objs.size (.tup [.int (i : Nat), .str ⟨#[c]⟩])) { s with heap := zh'', toks := tk + 1 } :=
      I.turnedNew (ch := [e, it]) (fun b ob zhb q => (sb.2 b (fun z => zhb (by simp [z]))).trans (zhk b ob (fun z => zhb (by simp [z])) (fun z => zhb (by simp [z])) q)) hf (Nat.le_refl _) new
    refine ⟨.ref s.heap.objs.size, _, I1, rfl, ⟨_, c, zhx, rfl, I.hok.fresh (Nat.le_refl _), rfl⟩, ⟨⟨.str ⟨#[c]⟩ u, ?_⟩, let ⟨o, zho, r⟩ := zhst; ⟨o, (sb.2 it (Ne.symm zhne)).trans zho, r⟩, zhne⟩, fun b zhb => ?_⟩
    · have e1 : ((i + 1 : Nat) :
          Int) = (i : Int) + 1 := by omega
      rw [e1]; exact zhe'
    · have zhb' : b < s.heap.objs.size := by
        have e' : b = e ∨ b = it := by simpa using zhb
        rcases e' with z | z
        · rw [z]; exact zhel
        · rw [z]; exact zhil
      rw [upd_ne (Nat.ne_of_lt zhb')]
      exact (hf b zhb).1
  done := by
    intro X hP hw hK zhc i pins s σ H E I hf st hg
    subst hP hw hK
    obtain ⟨⟨old, zhe⟩, zhit, zhne⟩ := st
    have zhge : x.cps.size ≤ i := hg
    obtain ⟨f0, f1, f2, f3,
          f4, f5⟩ := hf it (by simp)
    have zhh : X.A.in1.handled = none := I.ok.hd zhc
    exact PySem.wpAny_pyNext_enum_endD (draws_strEnd zhh it x t i (by simp; omega)) zhe ⟨rfl, zhit⟩ fun zh' eb => ⟨rfl, I.turned (t' := s.toks) (fun b o zhb q => eb b o zhb q) f0 f1 f3 f4 f5⟩
  self := fun A i s Q E st h => let ⟨⟨_, zhe⟩, _⟩ := st; wpAny_pyIter_enum zhe h
theorem walk_enumS {K : PySem.W.Frag} {F : Hp} (x : Str) : WalkD K F (IteS x) (enumL 0 (signs x)) := fun i F1 H s1 s2 => by
  refine ⟨fun p hp => ?_, fun hl => (show x.cps.size ≤ i by rw [enumL_len] at hl; simpa [signs] using hl)⟩
  obtain ⟨p0, h0, rfl⟩ := enumL_get hp
  unfold signs at h0
  rw [List.getElem?_map] at h0
  obtain ⟨c, hc, rfl⟩ := Option.map_eq_some_iff.mp h0
  have hc' : x.cps[i]? = some c := by simpa using hc
  refine ⟨(Array.getElem?_eq_some_iff.mp hc').1, fun v H' y => ?_⟩
  obtain ⟨T, c', e1, rfl, hT, rfl⟩ := y
  rw [hc'] at e1
  cases e1
  refine ⟨upd F1 T (.tup [.int (i : Nat), .str ⟨#[c]⟩]), Stp.laid s2 hT, ?_⟩
  rw [Nat.zero_add]
  exact laid_tup (σ := []) (H := H) (ρ := []) (.cons (.int _) (.cons (.str _) .nil)) (s2.free hT)
/-- enumerate of a list, a tuple, a text -/
def enumAP : List P → Option (List P)
  | [p] => (itP p).map (enumL 0)
  | _ => none
theorem i_enumA {X : Cx} {cm : Str → Addr → Prop} {b : Bool} {a : Expr} {pos : Pos} {p tpos : Pos} {elts : List Expr} {kk : Nat} {f : EL} (hm : MgN X "enumerate") (ha : PA X [a] (tA X.K cm b f)) (hg : Gl X "enumerate" := by rfl) (hs : starEach [a] X.env = [(false, eval a X.env)] := by rfl) : PI X (.Tuple elts kk tpos) (.Call (.Name "enumerate" p) [a] [] pos) (tI X.K cm b (dItA enumAP f)) := by
  refine ⟨fun pins s σ H Rk I ⟨W, F, ρ, ps, ρ', r, e, k⟩ => ?_⟩
  simp only [dItA, Option.bind_eq_some_iff, Option.map_eq_some_iff] at e
  obtain ⟨⟨p1, ρ1⟩, e1, ys, e2, e3⟩ := e
  cases e3
  refine Call_ (ld_blt I hg hm boot_enumerate (PyProof.Rows.callWith_type1 (thn (ha.run pos pins s σ H (fun vs H' => ∃ F', R X.K cm W σ H' F' ρ1 ∧ Same F F' ∧ Pu b ρ ρ1 H H' ∧ DPs X.K F' vs p1) I ⟨W, F, ρ, p1, ρ1, r, e1, fun vs H1 F1 r1 s1 u1 d1 => ⟨F1, r1, s1, u1, d1⟩⟩) fun us s1 ⟨vs, H1, I1, rx, F1, r1, ss1, u1, d1⟩ => ?_) hs rfl))
  have e2 : enumAP p1 = some _ := e2
  unfold enumAP at e2
  split at e2
  · rename_i pp
    obtain ⟨zs, e4, rfl⟩ := Option.map_eq_some_iff.mp e2
    obtain ⟨v, rfl, dv⟩ := one_of d1
    have fin : ∀ {it : Addr} {zh' : Heap} (b : Addr), b ∈ [s1.heap.objs.size + 1, s1.heap.objs.size] → FpOk X pins H1 b := fun b zhb => by
      have e' : b = s1.heap.objs.size + 1 ∨ b = s1.heap.objs.size := by simpa using zhb
      have zhle : s1.heap.objs.size ≤ b := by
        rcases e' with z | z
        · rw [z]; exact Nat.le_add_right _ _
        · rw [z]; exact Nat.le_refl _
      exact I1.fpOk zhle (I1.hok.fresh zhle)
    cases dv with
    | lst h1 h2 =>
      cases e4
      rw [Vals.ref1 rx]
      obtain ⟨its, rv, p', zhz⟩ := I1.list ((LK.mono h1 r1.fh).seq)
      refine call_enumerate_list p'.isList fun zh' zhe zhit zhsz zhk => wpAny_pyIter_enum zhe ?_
      have I2 : Inv X pins σ H1 { s1 with heap := zh' } := I1.kept (t' := s1.toks) zhk
      exact ⟨s1.heap.objs.size + 1, [s1.heap.objs.size + 1, s1.heap.objs.size], _, _, H1, rfl, I2, turn_enum _ (s1.heap.objs.size + 1) s1.heap.objs.size, ⟨⟨.none, zhe⟩, zhit, Nat.succ_ne_self _⟩, fun b zhb => fin (it := b) (zh' := zh') b zhb, k _ H1 F1 r1 ss1 u1 (walk_enum h1 h2)⟩
    | tup h1 h2 =>
      cases e4
      rw [Vals.ref1 rx]
      obtain ⟨its, rv, p', zhz⟩ := I1.tuple (SqT.mono h1 r1.fh)
      have zhlt : _ < s1.heap.objs.size := let ⟨o, ho, _⟩ := id p'; Heap.lt_size ho
      refine call_enumT (show s1.heap.IsTuple _ its.toArray from p') fun zh' zhe zhit zhsz zhk => wpAny_pyIter_enum zhe ?_
      have I2 : Inv X pins σ H1 { s1 with heap := zh' } := I1.kept (t' := s1.toks) zhk
      exact ⟨s1.heap.objs.size + 1, [s1.heap.objs.size + 1, s1.heap.objs.size], _, _, H1, rfl, I2, turn_enumT _ (s1.heap.objs.size + 1) s1.heap.objs.size, ⟨⟨.none, zhe⟩, zhit, Nat.succ_ne_self _, Nat.ne_of_lt (Nat.lt_succ_of_lt zhlt), Nat.ne_of_lt zhlt⟩, fun b zhb => fin (it := b) (zh' := zh') b zhb, k _ H1 F1 r1 ss1 u1 (walk_enumT h1 h2)⟩
    | str x =>
      cases e4
      obtain ⟨u, rfl, ru⟩ := vals1 rx
      obtain ⟨t, rfl⟩ := ru
      refine call_enumerate_str fun zh' zhe zhit zhsz zhk => wpAny_pyIter_enum zhe ?_
      have I2 : Inv X pins σ H1 { s1 with heap := zh' } := I1.kept (t' := s1.toks) zhk
      exact ⟨s1.heap.objs.size + 1, [s1.heap.objs.size + 1, s1.heap.objs.size], _, _, H1, rfl, I2, turn_enumS x t (s1.heap.objs.size + 1) s1.heap.objs.size, ⟨⟨.none, zhe⟩, zhit, Nat.succ_ne_self _⟩, fun b zhb => fin (it := b) (zh' := zh') b zhb, k _ H1 F1 r1 ss1 u1 (walk_enumS x)⟩
    | _ => cases e4
  · cases e2
end
end HW

namespace HW
open PySem PySem.Spec PyProof.Rows L2
noncomputable section

theorem hu_room {k : Nat} {A : Around} (r : Room k A) : A.units + 150 < cLine := by have := r.un; omega
/-- a def that gives frozen data -/
def spQ (K : PySem.W.Frag) (cm : Str → Addr → Prop) (n : Nat) (g : List P → Option P) : Sp := fun vs H Q _ => vs.length = n ∧ ∃ F ps p, Same F H ∧ DPs K F vs ps ∧ g ps = some p ∧
  ∀ v H' F', R K cm (rest F H) [some v] H' F' [.pd p] → Same F F' → Q v H'
def runQ (np n : Nat) (f : SF) (ps : List P) : Option P := if ps.length = np then match runP n f ps with
  | some d => frz d
  | _ => none else none
section
variable {P : Program} {w : World} {K : PySem.W.Frag} {mg : Str → Option Value} {base : Heap} {cm : Str → Addr → Prop} {k : Nat} {x qual : Str} {st : Stmt} {fa : Addr} {fd : FuncData} {N ps : List Str} {f : SF}
theorem fn_Q (np : Nat) (G : L2.Fun K x qual st fa fd) (S : FnScope N ps (defScope st)) (hn : ps.length = np)
    (hb : ∀ (cdv : Value) (A : Around) (outer : List Env) (s : Shared) (H : Hp) (E : XK), Room k (A.deeper (envOfC qual (defScope st) s.heap.objs.size fa cdv)) →
      PSs (cxOf CX0 P w K mg base N qual (defScope st) fa cdv A outer s H E).nox (defBody st) (tS K cm asAll f)) : FnOk P w K mg base CX0 (k + 1) fa fd ps (spQ K cm np (runQ np N.length f)) :=
  (fn_P G S hb).imp fun vs H Q E ⟨hl, F, qs, p, fh, dd, e, k⟩ => by
    unfold runQ at e
    split at e
    · split at e
      · rename_i d e1
        refine ⟨hl.trans hn.symm, F, qs, d, fh, dd, e1, fun v H' F' r s => ?_⟩
        obtain ⟨F2, s2, d2, r2⟩ := r.freeze e
        exact k v H' F2 r2 (s.trans s2)
      · cases e
    · cases e
end
section
variable {X : Cx} {cm : Str → Addr → Prop} {b : Bool} {k : Nat} {x : Str} {ps : List Str} {p pos : Pos} {e : Expr} {es : List Expr} {f : EL} {n : Nat}
def dCallN (n : Nat) (g : List P → Option P) (f : EL) : EF := fun ρ => (f ρ).bind fun x => if x.1.length = n then (g x.1).map fun d => (d, x.2) else none
theorem x_callQ {g : List P → Option P} (h : HasFn X.prog X.w X.K X.mg X.base k x ps (spQ X.K cm n g)) (hr : Room k X.A) (ha : PA X (e :: es) (tA X.K cm b f)) (hg : Gl X x := by rfl) (hdb : (x == ("__debug__" : Str)) = false := by decide)
    (he : starEach (e :: es) X.env = (false, eval e X.env) :: starEach es X.env := by rfl) (hpl : (backTo pos (starEach es X.env)).any (·.1) = false := by rfl) :
    PE X (.Call (.Name x p) (e :: es) [] pos) (tP X.K cm b (dCallN n g f)) := by
  obtain ⟨fa, fdd, ok, hm, hk, hb⟩ := h.ex
  refine HW.PE.imp (pe_call ok hr hg hm hk hb .nil (E := E0) pass0 ha hdb he hpl) fun σ H Q ⟨W, F, ρ, d, ρ', r, e, k⟩ => ?_
  simp only [dCallN, Option.bind_eq_some_iff] at e
  obtain ⟨⟨ps', ρ1⟩, e1, e2⟩ := e
  split at e2
  · rename_i hn
    obtain ⟨d', e3, e4⟩ := Option.map_eq_some_iff.mp e2
    cases e4
    refine ⟨W, F, ρ, ps', _, r, e1, fun vs H1 F1 r1 s1 u1 d1 => ⟨by rw [List.append_nil, d1.length]; exact hn, F1, ps', d, r1.fh, by rw [List.append_nil]; exact d1, e3, fun v H' F' r' s' => ?_⟩⟩
    obtain ⟨r2, s2⟩ := r1.call r' s'
    refine k v H' F' r2.tail (s1.trans s') (u1.then s2) ?_
    obtain ⟨v', h1, h2⟩ := r2.get (i := 0) rfl
    cases h1
    exact h2
  · cases e2
/-- a call whose first argument may change -/
def dMFr (f : ED) : EF := dFr f
/-- a value that is a bool, as a test's outcome -/
def dBl (f : EF) : EB := fun ρ => (f ρ).bind fun x => match x.1 with
  | .bool c => some (c, x.2)
  | _ => none
theorem x_toB {f : EF} (h : PE X e (tP X.K cm b f)) : PE X e (tP X.K cm b (dB (dBl f))) :=
  HW.PE.imp h fun σ H Q ⟨W, F, ρ, p, ρ', r, e, k⟩ => by
    obtain ⟨⟨c, ρ1⟩, e1, e2⟩ := Option.map_eq_some_iff.mp e
    cases e2
    simp only [dBl, Option.bind_eq_some_iff] at e1
    obtain ⟨⟨q, ρ2⟩, e3, e4⟩ := e1
    split at e4
    · rename_i c' hc
      cases e4
      dsimp only at hc
      subst hc
      exact ⟨W, F, ρ, _, _, r, e3, k⟩
    · cases e4
end
theorem HasFn.mk' {P : Program} {w : World} {K : PySem.W.Frag} {mg : Str → Option Value} {base : Heap} {k : Nat} {x y qual : Str} {st : Stmt} {fa : Addr} {fd : FuncData} {ps : List Str} {sp : Sp} (G : L2.Fun K y qual st fa fd) (ok : FnOk P w K mg base CX0 k fa fd ps sp) (hm : mg x = some (.ref fa)) (hb : Binds K fd ps []) : HasFn P w K mg base k x ps sp :=
  ⟨fa, fd, ok, hm, G.kp, hb⟩
end
end HW

namespace HW
open PySem PySem.Spec PyProof.Rows L2
noncomputable section
/-- the built-in names are the built-in things -/
structure Bs (mg : Str → Option Value) : Prop where
  any : mg "any" = none
  all : mg "all" = none
  abs : mg "abs" = none
  enumerate : mg "enumerate" = none
  int : mg "int" = none
  len : mg "len" = none
  list : mg "list" = none
  max : mg "max" = none
  min : mg "min" = none
  range : mg "range" = none
  set : mg "set" = none
  sorted : mg "sorted" = none
  sum : mg "sum" = none
  tuple : mg "tuple" = none
  zip : mg "zip" = none

section
variable {X : Cx} {cm : Str → Addr → Prop} {b : Bool} {p p2 q pos : Pos} {e : Expr} {f : EF}
/-- list(range(n)) -/
def rngLP : P → Option (List P)
  | .int n => @ite _ (-(2 ^ 62) ≤ n ∧ n < 16777216) (Classical.propDecidable _) (some (rngL 0 n.toNat)) none
  | _ => none
theorem DPs.rngV {K : PySem.W.Frag} {F : Hp} (j : Int) : ∀ n : Nat, DPs K F ((List.range n).map fun i => V.int (j + (i : Nat))) ((List.range n).map fun (i : Nat) => .int (j + (i : Int))) := fun n => by
  generalize List.range n = l
  induction l with
  | nil => exact .nil
  | cons x l ih => exact .cons (.int _) ih
def dLR (f : EF) : EL := fun ρ => (f ρ).bind fun x => (rngLP x.1).map fun y => (y, x.2)
theorem l_listR (hm : MgN X "list") (hm2 : MgN X "range") (ha : PE X e (tP X.K cm b f)) (hc : X.calm = true := by rfl) (hg : Gl X "list" := by rfl) (hg2 : Gl X "range" := by rfl)
    (h1 : starEach [e] X.env = (false, eval e X.env) :: starEach [] X.env := by rfl) : PE X (.Call (.Name "list" p) [.Call (.Name "range" p2) [e] [] q] [] pos) (tL X.K cm b (dLR f)) :=
  PE.imp (pe_listRg hc hg hm (prg_1 hg2 hm2 ha (na := h1))) fun σ H Q ⟨W, F, ρ, zs, ρ', r, e0, k⟩ => by
    simp only [dLR, Option.bind_eq_some_iff, Option.map_eq_some_iff] at e0
    obtain ⟨⟨p1, ρ1⟩, e1, z, e2, e3⟩ := e0
    cases e3
    refine ⟨W, F, ρ, p1, ρ1, r, e1, fun v H1 F1 r1 s1 u1 d1 => ?_⟩
    have e2 : rngLP p1 = some _ := e2
    unfold rngLP at e2
    split at e2
    · rename_i n _
      split at e2
      · rename_i hn
        cases e2
        cases d1
        refine ⟨n, rfl, ⟨by omega, by omega, by omega, by omega, by omega⟩, fun l hl => ?_⟩
        have d := DPs.rngV (K := X.K) (F := F1) 0 n.toNat
        have e4 : rgV 0 n = (List.range n.toNat).map fun i => V.int (0 + (i : Nat)) := by unfold rgV; rw [Int.sub_zero]
        rw [e4]
        exact k l _ H1 _ F1 r1 s1 u1 d hl rfl
      · cases e2
    · cases e2
end
end
end HW

namespace HW
open PySem PySem.Spec PyProof.Rows L2
noncomputable section
/-- an item of a slot that is owned or frozen -/
def dGetA (i : Nat) (g : EF) : EF := fun ρ => match ρ[i]? with
  | some (.pd _) => dBin idxP (dV i) g ρ
  | _ => dGetO i g ρ
theorem x_getA {X : Cx} {cm : Str → Addr → Prop} {b : Bool} {pos : Pos} {x : Str} {ix : Expr} {p : Pos} {g : EF} (i : Nat) (hi : PE X ix (tP X.K cm b g)) (hN : X.N[i]? = some x := by rfl) (hv : Vis X.env.scope x := by first | exact Or.inl rfl | exact Or.inr (Or.inl rfl) | exact Or.inr (Or.inr rfl)) (hd : (x == ("__debug__" : Str)) = false := by decide)
    (hcd : (x == ("__classdict__" : Str)) = false := by decide) (hp : PlainIx ix := by exact fun _ _ => rfl) : PE X (.Subscript (.Name x p) ix pos) (tP X.K cm b (dGetA i g)) :=
  HW.PE.imp (pe_ix ix_seq (pe_var hN hv hd hcd) hi hp) fun σ H Q ⟨W, F, ρ, q, ρ', r, e, k⟩ => by
    unfold dGetA at e
    split at e
    · rename_i pp h0
      obtain ⟨v, h1, h2⟩ := r.get h0
      simp only [dBin, Option.bind_eq_some_iff, Option.map_eq_some_iff] at e
      obtain ⟨⟨p1, ρ1⟩, e1, ⟨p2, ρ2⟩, e2, z, e3, e4⟩ := e
      cases e4
      obtain ⟨e5, rfl⟩ := dV_some e1
      rw [h0] at e5
      cases e5
      refine ⟨v, h1, W, F, ρ1, p2, _, r, e2, fun u H2 F2 r2 s2 u2 d2 => ?_⟩
      exact vop_idx r2 (DP.mono h2 s2) d2 e3 fun w H' F' r3 s3 s4 d3 => k w H' F' r3 (s2.trans s3) (u2.then s4) d3
    · simp only [dGetO, Option.bind_eq_some_iff] at e
      obtain ⟨⟨pk, ρ1⟩, e1, e2⟩ := e
      split at e2
      · rename_i k' ds e3 h4
        dsimp only at e3
        subst e3
        split at e2
        · rename_i pp h5
          split at e2
          · rename_i h0
            cases e2
            obtain ⟨ds0, h0⟩ := someL_is h0
            obtain ⟨a0, vs0, fp0, h1, h2, h3⟩ := r.seeL h0
            refine ⟨_, h1, W, F, ρ, _, ρ1, r, e1, fun kv H1 F1 r1 s1 u1 d1 => ?_⟩
            cases d1
            obtain ⟨a, vs, fp, h6, h7, h8⟩ := r1.seeL h4
            rw [h1] at h6
            cases h6
            unfold atI at h5
            obtain ⟨j, h9, h10⟩ := Option.bind_eq_some_iff.mp h5
            obtain ⟨v, g', h11, h12, _⟩ := h8.get h10
            refine .inl ⟨_, vs, k', v, rfl, rfl, .inl (.inl h7), ?_, k v H1 F1 r1 s1 u1 (by cases h12 with | pd d => exact d)⟩
            unfold atI
            rw [h8.length, h9]
            exact h11
          · cases e2
        · cases e2
      · cases e2
def enumZP : List P → Option (List P)
  | [.list xs, .list ys] => some (enumL 0 (zipL xs ys))
  | _ => none
end
end HW

namespace HW
open PySem PySem.Spec PyProof.Rows L2
noncomputable section
/-! ### laws for reckoning readings -/
@[simp] theorem frzs_pds : ∀ xs : List P, frzs (pds xs) = some xs
  | [] => by simp [pds, frzs]
  | x :: xs => by
    have := frzs_pds xs
    simp only [pds, List.map_cons, frzs, frz] at this ⊢
    rw [this]; rfl
@[simp] theorem frz_pd (p : P) : frz (.pd p) = some p := by simp [frz]
@[simp] theorem frz_olD (ds : List D) : frz (.ol ds) = (frzs ds).map .list := by simp [frz]
@[simp] theorem frzs_nil : frzs [] = some [] := by simp [frzs]
@[simp] theorem frzs_cons (p : P) (ds : List D) : frzs (.pd p :: ds) = (frzs ds).map (p :: ·) := by simp [frzs]
theorem pds_app (xs ys : List P) : pds (xs ++ ys) = pds xs ++ pds ys := by simp [pds]
@[simp] theorem pds_nil : pds [] = [] := rfl
theorem pds_snoc (xs : List P) (p : P) : pds xs ++ [.pd p] = pds (xs ++ [p]) := by simp [pds]
@[simp] theorem pds_len (xs : List P) : (pds xs).length = xs.length := by simp [pds]
@[simp] theorem map_pd_pds (xs : List P) : xs.map D.pd = pds xs := rfl
theorem ixN_nat {n k : Nat} (h : k < n) : ixN n (k : Int) = some k := by
  unfold ixN
  rw [if_pos (by omega), if_pos (by omega)]
  simp
theorem ixN_neg {n k : Nat} (h1 : 1 ≤ k) (h : k ≤ n) : ixN n (-(k : Int)) = some (n - k) := by
  unfold ixN
  rw [if_neg (by omega), if_pos (by omega)]
  congr 1
  omega
@[simp] theorem ixN_last (n : Nat) : ixN (n + 1) (-1) = some n := by simpa using ixN_neg (n := n + 1) (k := 1) (by omega) (by omega)
theorem atI_natP {α : Type} {xs : List α} {k : Nat} {x : α} (h : xs[k]? = some x) : atI xs (k : Int) = some x := L2.atI_nat h
@[simp] theorem atI_lastP {α : Type} (xs : List α) (x : α) : atI (xs ++ [x]) (-1) = some x := L2.atI_last xs x
@[simp] theorem atI_zero {α : Type} (x : α) (xs : List α) : atI (x :: xs) 0 = some x := atI_natP (k := 0) rfl
@[simp] theorem atI_one {α : Type} (x y : α) (xs : List α) : atI (x :: y :: xs) 1 = some y := atI_natP (k := 1) rfl
@[simp] theorem atI_two {α : Type} (x y z : α) (xs : List α) : atI (x :: y :: z :: xs) 2 = some z := atI_natP (k := 2) rfl
@[simp] theorem atI_three {α : Type} (x y z u : α) (xs : List α) : atI (x :: y :: z :: u :: xs) 3 = some u := atI_natP (k := 3) rfl
@[simp] theorem set_snoc {α : Type} (xs : List α) (x y : α) : (xs ++ [x]).set xs.length y = xs ++ [y] := by simp
@[simp] theorem depth_int (i : Int) : (PyData.int i).depth = 0 := by simp [PyData.depth]
@[simp] theorem depth_str (i : Str) : (PyData.str i).depth = 0 := by simp [PyData.depth]
@[simp] theorem depth_bool (i : Bool) : (PyData.bool i).depth = 0 := by simp [PyData.depth]
@[simp] theorem depth_none : (PyData.none).depth = 0 := by simp [PyData.depth]
theorem depthAll_le {xs : List P} {n : Nat} (h : ∀ x ∈ xs, x.depth ≤ n) : PyData.depthAll xs ≤ n := by
  induction xs with
  | nil => simp [PyData.depthAll]
  | cons x xs ih =>
    simp only [PyData.depthAll]
    have := h x (by simp)
    have := ih fun y hy => h y (by simp [hy])
    omega
theorem shal_of {p q : P} (h : p.depth ≤ 100) : shal p q = true := by
  unfold shal
  exact Nat.ble_eq_true_of_le (Nat.le_trans (Nat.min_le_left _ _) h)
theorem shal_of' {p q : P} (h : q.depth ≤ 100) : shal p q = true := by
  unfold shal
  exact Nat.ble_eq_true_of_le (Nat.le_trans (Nat.min_le_right _ _) h)
@[simp] theorem eqP_int (i j : Int) : eqP (.int i) (.int j) = some (decide (i = j)) := by
  unfold eqP
  rw [shal_of (by simp)]
  simp only [PyData.eqv, if_true]
  rfl
@[simp] theorem eqP_str (i j : Str) : eqP (.str i) (.str j) = some (decide (i = j)) := by
  unfold eqP
  rw [shal_of (by simp)]
  simp only [PyData.eqv, if_true]
  rfl
@[simp] theorem ltP_int (i j : Int) : ltP (.int i) (.int j) = some (decide (i < j)) := rfl
@[simp] theorem gtP_int (i j : Int) : gtP (.int i) (.int j) = some (decide (j < i)) := rfl
@[simp] theorem leP_int (i j : Int) : leP (.int i) (.int j) = some (decide (i ≤ j)) := rfl
@[simp] theorem geP_int (i j : Int) : geP (.int i) (.int j) = some (decide (j ≤ i)) := rfl

@[simp] theorem frzs_app (a b : List P) : frzs (pds a ++ pds b) = some (a ++ b) := by rw [← pds_app]; simp
@[simp] theorem frzs_app1 (a : List P) (b : P) : frzs (pds a ++ [.pd b]) = some (a ++ [b]) := by rw [pds_snoc]; simp
@[simp] theorem isEmpty_snoc {α : Type} (a : List α) (b : α) : (a ++ [b]).isEmpty = false := by simp
@[simp] theorem pds_cons (a : P) (b : List P) : pds (a :: b) = .pd a :: pds b := rfl
/-! what each word reckons -/
section
variable {ρ : Sl} {i j l n : Nat} {f f1 f2 f3 : EF} {g h : EO} {c c1 c2 : EB} {e : EL} {q : ED} {p : P} {fs : List EF} {t : Tg} {s1 s2 : SF}
@[simp] theorem dC_ : dC p ρ = some (p, ρ) := Eq.trans rfl rfl
@[simp] theorem dV_ : dV i ρ = match ρ[i]? with
  | some (.pd p) => some (p, ρ)
  | _ => none := Eq.trans rfl rfl
@[simp] theorem dBin_ {o : P → P → Option P} : dBin o f1 f2 ρ = (f1 ρ).bind fun x => (f2 x.2).bind fun y => (o x.1 y.1).map fun z => (z, y.2) := Eq.trans rfl rfl
@[simp] theorem dUn_ {o : P → Option P} : dUn o f ρ = (f ρ).bind fun x => (o x.1).map fun z => (z, x.2) := Eq.trans rfl rfl
@[simp] theorem dCmp_ {o : P → P → Option Bool} : dCmp o f1 f2 ρ = (f1 ρ).bind fun x => (f2 x.2).bind fun y => (o x.1 y.1).map fun z => (z, y.2) := Eq.trans rfl rfl
@[simp] theorem dB_ : dB c ρ = (c ρ).map fun x => (.bool x.1, x.2) := Eq.trans rfl rfl
@[simp] theorem dChn_ {o o' : P → P → Option Bool} : dChn o o' f1 f2 f3 ρ = (f1 ρ).bind fun x => (f2 x.2).bind fun y => (o x.1 y.1).bind fun c =>
  if c then (f3 y.2).bind fun z => (o' y.1 z.1).map fun c' => (c', z.2) else some (false, y.2) := Eq.trans rfl rfl
@[simp] theorem dAnd_ : dAnd c1 c2 ρ = (c1 ρ).bind fun x => if x.1 then c2 x.2 else some (false, x.2) := Eq.trans rfl rfl
@[simp] theorem dOr_ : dOr c1 c2 ρ = (c1 ρ).bind fun x => if x.1 then some (true, x.2) else c2 x.2 := Eq.trans rfl rfl
@[simp] theorem dNot_ : dNot c ρ = (c ρ).map fun x => (!x.1, x.2) := Eq.trans rfl rfl
@[simp] theorem dIf_ : dIf c f1 f2 ρ = (c ρ).bind fun x => if x.1 then f1 x.2 else f2 x.2 := Eq.trans rfl rfl
@[simp] theorem dTru_ : dTru f ρ = (f ρ).bind fun x => (truP x.1).map fun c => (c, x.2) := Eq.trans rfl rfl
@[simp] theorem dIsN_ : dIsN f ρ = (f ρ).map fun x => (isNP x.1, x.2) := Eq.trans rfl rfl
@[simp] theorem dArgs_nil : dArgs [] ρ = some ([], ρ) := Eq.trans rfl rfl
@[simp] theorem dArgs_cons : dArgs (f :: fs) ρ = (f ρ).bind fun x => (dArgs fs x.2).map fun y => (x.1 :: y.1, y.2) := Eq.trans rfl rfl
@[simp] theorem dTup_ : dTup fs ρ = (dArgs fs ρ).map fun x => (.tuple x.1, x.2) := Eq.trans rfl rfl
@[simp] theorem dLst_ : dLst e ρ = (e ρ).map fun x => (.list x.1, x.2) := Eq.trans rfl rfl
@[simp] theorem dPd_ : dPd f ρ = (f ρ).map fun x => (.pd x.1, x.2) := Eq.trans rfl rfl
@[simp] theorem dOl_ : dOl e ρ = (e ρ).map fun x => (.ol (pds x.1), x.2) := Eq.trans rfl rfl
@[simp] theorem dNo_ : dNo ρ = some (none, ρ) := Eq.trans rfl rfl
@[simp] theorem dSo_ : dSo f ρ = (f ρ).bind fun x => match x.1 with
  | .int i => some (some i, x.2)
  | _ => none := Eq.trans rfl rfl
@[simp] theorem dSlL_ : dSlL f g h ρ = (f ρ).bind fun x => (g x.2).bind fun y => (h y.2).bind fun z => match x.1 with
  | .list xs => some (cutL xs y.1 z.1, z.2)
  | _ => none := Eq.trans rfl rfl
@[simp] theorem dSlA_ : dSlA f g h ρ = (f ρ).bind fun x => (g x.2).bind fun y => (h y.2).bind fun z => (sliceA x.1 y.1 z.1).map fun w => (w, z.2) := Eq.trans rfl rfl
@[simp] theorem dCall_ {o : List P → Option P} : dCall o e ρ = (e ρ).bind fun x => (o x.1).map fun z => (z, x.2) := Eq.trans rfl rfl
@[simp] theorem dCallL_ {o : List P → Option (List P)} : dCallL o e ρ = (e ρ).bind fun x => (o x.1).map fun z => (z, x.2) := Eq.trans rfl rfl
@[simp] theorem dCallN_ {o : List P → Option P} : dCallN n o e ρ = (e ρ).bind fun x => if x.1.length = n then (o x.1).map fun d => (d, x.2) else none := Eq.trans rfl rfl
@[simp] theorem dFnN_ {o : List P → Option D} : dFnN n o e ρ = (e ρ).bind fun x => if x.1.length = n then (o x.1).map fun d => (d, x.2) else none := Eq.trans rfl rfl
@[simp] theorem dFr_ : dFr q ρ = (q ρ).bind fun x => (frz x.1).map fun p => (p, x.2) := Eq.trans rfl rfl
@[simp] theorem dIt_ : dIt f ρ = (f ρ).bind fun x => (itP x.1).map fun y => (y, x.2) := Eq.trans rfl rfl
@[simp] theorem dItA_ {o : List P → Option (List P)} : dItA o e ρ = (e ρ).bind fun x => (o x.1).map fun y => (y, x.2) := Eq.trans rfl rfl
@[simp] theorem dYes_ : dYes ρ = some (true, ρ) := Eq.trans rfl rfl
@[simp] theorem dNx_ : dNx ρ = some (.nx, ρ) := Eq.trans rfl rfl
@[simp] theorem dSeq_ : dSeq s1 s2 ρ = (s1 ρ).bind fun x => match x.1 with
  | .nx => s2 x.2
  | fl => some (fl, x.2) := Eq.trans rfl rfl
@[simp] theorem dIfS_ : dIfS c s1 s2 ρ = (c ρ).bind fun x => if x.1 then s1 x.2 else s2 x.2 := Eq.trans rfl rfl
@[simp] theorem dRet_ : dRet q ρ = (q ρ).map fun x => (.rt x.1, x.2) := Eq.trans rfl rfl
@[simp] theorem dSet_ : dSet i q ρ = (q ρ).map fun x => (.nx, x.2.set i x.1) := Eq.trans rfl rfl
@[simp] theorem dTgt_ : dTgt t f ρ = (f ρ).bind fun x => (bindT t x.1 x.2).map fun y => (.nx, y) := Eq.trans rfl rfl
@[simp] theorem dFor_ : dFor e t s1 ρ = (e ρ).bind fun x => forL t s1 x.1 x.2 := Eq.trans rfl rfl
@[simp] theorem dPar_ : dPar i j e ρ = (e ρ).bind fun x => match x.1 with
  | [p, q] => some (.nx, (x.2.set i (.pd p)).set j (.pd q))
  | _ => none := Eq.trans rfl rfl
@[simp] theorem dPar3_ : dPar3 i j l e ρ = (e ρ).bind fun x => match x.1 with
  | [p, q, s] => some (.nx, ((x.2.set i (.pd p)).set j (.pd q)).set l (.pd s))
  | _ => none := Eq.trans rfl rfl
@[simp] theorem someL_ : someL ρ i = match ρ[i]? with
  | some (.ol _) => true
  | _ => false := Eq.trans rfl rfl
@[simp] theorem dApp_ : dApp i q ρ = if someL ρ i = true then (q ρ).bind fun x => match x.2[i]? with
    | some (.ol ds) => if ds.length < 16777216 then some (.nx, x.2.set i (.ol (ds ++ [x.1]))) else none
    | _ => none
  else none := Eq.trans rfl rfl
@[simp] theorem dExt_ : dExt i e ρ = if someL ρ i = true then (e ρ).bind fun x => match x.2[i]? with
    | some (.ol ds) => if ds.length + x.1.length ≤ 16777216 then some (.nx, x.2.set i (.ol (ds ++ x.1.map .pd))) else none
    | _ => none
  else none := Eq.trans rfl rfl
@[simp] theorem dSetI_ : dSetI i f1 f2 ρ = (f1 ρ).bind fun x => if someL x.2 i = true then (f2 x.2).bind fun y => match y.1, y.2[i]? with
    | .int k, some (.ol ds) => (ixN ds.length k).map fun j => (.nx, y.2.set i (.ol (ds.set j (.pd x.1))))
    | _, _ => none
  else none := Eq.trans rfl rfl
@[simp] theorem frzAt_ : frzAt ρ i = match ρ[i]? with
  | some d => (frz d).map fun p => ρ.set i (.pd p)
  | none => none := Eq.trans rfl rfl
@[simp] theorem dFz_ : dFz i s1 ρ = (frzAt ρ i).bind s1 := Eq.trans rfl rfl
@[simp] theorem dPk_ : dPk i f ρ = (frzAt ρ i).bind fun ρ1 => (f ρ1).bind fun x => if flatP x.1 = true then some (x.1, ρ) else none := Eq.trans rfl rfl
@[simp] theorem dPkT_ : dPkT i c ρ = (frzAt ρ i).bind fun ρ1 => (c ρ1).map fun x => (x.1, ρ) := Eq.trans rfl rfl
@[simp] theorem dGetO_ : dGetO i f ρ = (f ρ).bind fun y => match y.1, y.2[i]? with
    | .int k, some (.ol ds) => match atI ds k with
      | some (.pd p) => if someL ρ i = true then some (p, y.2) else none
      | _ => none
    | _, _ => none := Eq.trans rfl rfl
@[simp] theorem dGetA_ : dGetA i f ρ = match ρ[i]? with
  | some (.pd _) => dBin idxP (dV i) f ρ
  | _ => dGetO i f ρ := Eq.trans rfl rfl
@[simp] theorem dBl_ : dBl f ρ = (f ρ).bind fun x => match x.1 with
  | .bool c => some (c, x.2)
  | _ => none := Eq.trans rfl rfl
@[simp] theorem bind_nm {p : P} : bindT (.nm i) p ρ = some (ρ.set i (.pd p)) := Eq.trans rfl rfl
@[simp] theorem bind_nil : bindT .tnil (.tuple []) ρ = some ρ := Eq.trans rfl rfl
@[simp] theorem bind_cons {a r : Tg} {p : P} {ps : List P} : bindT (.tcons a r) (.tuple (p :: ps)) ρ = (bindT a p ρ).bind fun ρ1 => bindT r (.tuple ps) ρ1 := Eq.trans rfl rfl
@[simp] theorem forL_nil : forL t s1 [] ρ = some (.nx, ρ) := Eq.trans rfl rfl
end
@[simp] theorem addP_int (i j : Int) : addP (.int i) (.int j) = some (.int (i + j)) := Eq.trans rfl rfl
@[simp] theorem subP_int (i j : Int) : subP (.int i) (.int j) = some (.int (i - j)) := Eq.trans rfl rfl
@[simp] theorem negP_int (i : Int) : negP (.int i) = some (.int (-i)) := Eq.trans rfl rfl
@[simp] theorem truP_none : truP .none = some false := Eq.trans rfl rfl
@[simp] theorem truP_bool (b : Bool) : truP (.bool b) = some b := Eq.trans rfl rfl
@[simp] theorem truP_int (i : Int) : truP (.int i) = some (i != 0) := Eq.trans rfl rfl
@[simp] theorem truP_list (xs : List P) : truP (.list xs) = some (!xs.isEmpty) := Eq.trans rfl rfl
@[simp] theorem truP_tuple (xs : List P) : truP (.tuple xs) = some (!xs.isEmpty) := Eq.trans rfl rfl
@[simp] theorem isNP_none : isNP .none = true := Eq.trans rfl rfl
@[simp] theorem isNP_int (i : Int) : isNP (.int i) = false := Eq.trans rfl rfl
@[simp] theorem isNP_bool (i : Bool) : isNP (.bool i) = false := Eq.trans rfl rfl
@[simp] theorem isNP_str (i : Str) : isNP (.str i) = false := Eq.trans rfl rfl
@[simp] theorem isNP_list (i : List P) : isNP (.list i) = false := Eq.trans rfl rfl
@[simp] theorem isNP_tuple (i : List P) : isNP (.tuple i) = false := Eq.trans rfl rfl
@[simp] theorem idxP_list (xs : List P) (i : Int) : idxP (.list xs) (.int i) = atI xs i := Eq.trans rfl rfl
@[simp] theorem idxP_tuple (xs : List P) (i : Int) : idxP (.tuple xs) (.int i) = atI xs i := Eq.trans rfl rfl
@[simp] theorem lenP_list (xs : List P) : lenP [.list xs] = some (.int xs.length) := Eq.trans rfl rfl
@[simp] theorem lenP_tuple (xs : List P) : lenP [.tuple xs] = some (.int xs.length) := Eq.trans rfl rfl
@[simp] theorem itP_list (xs : List P) : itP (.list xs) = some xs := Eq.trans rfl rfl
@[simp] theorem itP_tuple (xs : List P) : itP (.tuple xs) = some xs := Eq.trans rfl rfl
@[simp] theorem enumAP_list (xs : List P) : enumAP [.list xs] = some (enumL 0 xs) := Eq.trans rfl rfl
@[simp] theorem enumAP_tuple (xs : List P) : enumAP [.tuple xs] = some (enumL 0 xs) := Eq.trans rfl rfl
@[simp] theorem listP_list (xs : List P) : listP [.list xs] = some xs := Eq.trans rfl rfl
@[simp] theorem listP_tuple (xs : List P) : listP [.tuple xs] = some xs := Eq.trans rfl rfl
@[simp] theorem min2P_int (i j : Int) : min2P [.int i, .int j] = some (.int (if j < i then j else i)) := Eq.trans rfl rfl
@[simp] theorem max2P_int (i j : Int) : max2P [.int i, .int j] = some (.int (if j > i then j else i)) := Eq.trans rfl rfl
@[simp] theorem absP_int (i : Int) : absP [.int i] = some (.int (if i < 0 then -i else i)) := Eq.trans rfl rfl
@[simp] theorem intP_int (i : Int) : intP [.int i] = some (.int i) := Eq.trans rfl rfl
@[simp] theorem intP_bool (b : Bool) : intP [.bool b] = some (.int (if b then 1 else 0)) := Eq.trans rfl rfl
@[simp] theorem zipP_list (xs ys : List P) : zipP [.list xs, .list ys] = some (zipL xs ys) := Eq.trans rfl rfl
@[simp] theorem flatP_int (i : Int) : flatP (.int i) = true := Eq.trans rfl rfl
@[simp] theorem flatP_bool (i : Bool) : flatP (.bool i) = true := Eq.trans rfl rfl
@[simp] theorem flatP_str (i : Str) : flatP (.str i) = true := Eq.trans rfl rfl
@[simp] theorem flatP_none : flatP .none = true := Eq.trans rfl rfl

/-! ### loops by steps -/
/-- a loop's steps: on with a state, or out with an answer -/
def stepL {α β R : Type} (step : α → β → α ⊕ R) : List β → α → α ⊕ R
  | [], a => .inl a
  | x :: xs, a => match step a x with
    | .inl a' => stepL step xs a'
    | .inr r => .inr r
theorem forL_step {α β : Type} {t : Tg} {body : SF} (enc : β → P) (st : α → Sl) (step : α → β → α ⊕ (D × Sl)) : ∀ (xs : List β) (a : α) (I : List β → α → Prop), I xs a →
    (∀ x r a, I (x :: r) a → match step a x with
      | .inl a' => I r a' ∧ ∃ ρ1 fl, bindT t (enc x) (st a) = some ρ1 ∧ (fl = .nx ∨ fl = .ct) ∧ body ρ1 = some (fl, st a')
      | .inr (d, ρ') => ∃ ρ1, bindT t (enc x) (st a) = some ρ1 ∧ body ρ1 = some (.rt d, ρ')) →
    forL t body (xs.map enc) (st a) = match stepL step xs a with
      | .inl a' => some (.nx, st a')
      | .inr (d, ρ') => some (.rt d, ρ')
  | [], a, I, _, _ => rfl
  | x :: r, a, I, hI, h => by
    have h1 := h x r a hI
    rw [List.map_cons]
    unfold forL stepL
    cases e : step a x with
    | inl a' =>
      rw [e] at h1
      obtain ⟨i2, ρ1, fl, e1, e2, e3⟩ := h1
      rw [e1, Option.bind_some, e3, Option.bind_some]
      have ih := forL_step enc st step r a' I i2 h
      rcases e2 with rfl | rfl
      · exact ih
      · exact ih
    | inr dr =>
      rw [e] at h1
      obtain ⟨ρ1, e1, e2⟩ := h1
      rw [e1, Option.bind_some, e2, Option.bind_some]
/-- a loop that goes through to its end -/
theorem forL_fold {α β : Type} {t : Tg} {body : SF} (enc : β → P) (st : α → Sl) (step : α → β → α) : ∀ (xs : List β) (a : α) (I : List β → α → Prop), I xs a →
    (∀ x r a, I (x :: r) a → I r (step a x) ∧ ∃ ρ1, bindT t (enc x) (st a) = some ρ1 ∧ body ρ1 = some (.nx, st (step a x))) →
    forL t body (xs.map enc) (st a) = some (.nx, st (xs.foldl step a))
  | [], a, I, _, _ => rfl
  | x :: r, a, I, hI, h => by
    obtain ⟨i2, ρ1, e1, e3⟩ := h x r a hI
    rw [List.map_cons, List.foldl_cons]
    unfold forL
    rw [e1, Option.bind_some, e3, Option.bind_some]
    exact forL_fold enc st step r (step a x) I i2 h
theorem enumL_map {β : Type} (enc : β → P) : ∀ (xs : List β) (n : Nat), enumL n (xs.map enc) = (xs.zipIdx n).map fun z => .tuple [.int (z.2 : Int), enc z.1]
  | [], _ => rfl
  | x :: xs, n => by simp [enumL, enumL_map enc xs (n + 1)]
theorem zipL_map {β γ : Type} (e1 : β → P) (e2 : γ → P) : ∀ (xs : List β) (ys : List γ), zipL (xs.map e1) (ys.map e2) = (xs.zip ys).map fun z => .tuple [e1 z.1, e2 z.2]
  | [], _ => rfl
  | _ :: _, [] => rfl
  | x :: xs, y :: ys => by simp [zipL, zipL_map e1 e2 xs ys]
/-- a comprehension whose parts change nothing -/
theorem comp_pure {β : Type} {vs : List Nat} {tg : Tg} {cnd : EB} {el : EF} (enc : β → P) (c : β → Bool) (g : β → P) (htg : tgIn vs tg = true) (ρ : Sl) : ∀ xs : List β,
    (∀ x ∈ xs, ∃ ρx, bindT tg (enc x) (wipeR ρ vs) = some ρx ∧ cnd ρx = some (c x, ρx) ∧ (c x = true → el ρx = some (g x, ρx))) →
    compL vs tg cnd el (xs.map enc) (wipeR ρ vs) = some ((xs.filter c).map g, wipeR ρ vs)
  | [], _ => rfl
  | x :: xs, h => by
    obtain ⟨ρx, e1, e2, e3⟩ := h x (by simp)
    have ih := comp_pure enc c g htg ρ xs fun y hy => h y (by simp [hy])
    have hw : wipeR ρx vs = wipeR ρ vs := by rw [bindT_wipe htg e1, wipeR_twice]
    rw [List.map_cons]
    unfold compL
    rw [e1, Option.bind_some, e2, Option.bind_some]
    cases hc : c x with
    | true =>
      rw [if_pos rfl, e3 hc, Option.bind_some]
      dsimp only
      rw [hw, ih]
      simp [hc]
    | false =>
      rw [if_neg Bool.false_ne_true]
      dsimp only
      rw [hw, ih]
      simp [hc]
theorem dComp_pure {β : Type} {it : EL} {vs : List Nat} {tg : Tg} {cnd : EB} {el : EF} (enc : β → P) (c : β → Bool) (g : β → P) (xs : List β) (ρ ρ' : Sl) (hi : it ρ = some (xs.map enc, ρ')) (hl : xs.length ≤ 16777216) (ho : ownOk ρ' vs = true) (htg : tgIn vs tg = true)
    (h : ∀ x ∈ xs, ∃ ρx, bindT tg (enc x) (wipeR ρ' vs) = some ρx ∧ cnd ρx = some (c x, ρx) ∧ (c x = true → el ρx = some (g x, ρx))) :
    dComp it vs tg cnd el ρ = some ((xs.filter c).map g, ρ') := by
  unfold dComp
  rw [hi, Option.bind_some]
  dsimp only
  rw [if_pos ⟨by simpa using hl, ho⟩, comp_pure enc c g htg ρ' xs h]
  simp [fill_wipe ρ' vs vs (fun v h => h)]
/-- .. without a test -/
theorem dComp_map {β : Type} {it : EL} {vs : List Nat} {tg : Tg} {el : EF} (enc : β → P) (g : β → P) (xs : List β) (ρ ρ' : Sl) (hi : it ρ = some (xs.map enc, ρ')) (hl : xs.length ≤ 16777216) (ho : ownOk ρ' vs = true) (htg : tgIn vs tg = true)
    (h : ∀ x ∈ xs, ∃ ρx, bindT tg (enc x) (wipeR ρ' vs) = some ρx ∧ el ρx = some (g x, ρx)) :
    dComp it vs tg dYes el ρ = some (xs.map g, ρ') := by
  have := dComp_pure (cnd := dYes) enc (fun _ => true) g xs ρ ρ' hi hl ho htg fun x hx => let ⟨ρx, e1, e2⟩ := h x hx; ⟨ρx, e1, rfl, fun _ => e2⟩
  rw [List.filter_eq_self.mpr (fun _ _ => rfl)] at this
  exact this
end
end HW

namespace HW
open PySem PySem.Spec PyProof.Rows L2
noncomputable section
section
variable {K : PySem.W.Frag} {cm : Str → Addr → Prop} {W F H : Hp} {σ : L2.St} {ρ : Sl} {u v : V} {d : D} {q : P} {p : Addr}
theorem R.wrap2 (r : R K cm W (some u :: σ) H F (d :: ρ)) (dv : DP K F v q) (hp : H p = none) : R K cm W (some (.ref p) :: σ) (upd H p (.lst [v, u])) F (.ol [.pd q, d] :: ρ) := by
  obtain ⟨fp, e, nd, m⟩ := r.ex
  have fp0 : F p = none := r.fh.free hp
  have wp0 : W p = none := r.wh.free hp
  have np : p ∉ fp := fun z => by
    obtain ⟨o, ho⟩ := e.there p z
    rw [hp] at ho
    cases ho
  have X : ∃ f g, RD K cm F H u d f ∧ RE K cm F H σ ρ g ∧ Sub (f ++ g) fp := by
    cases e with
    | no t => exact ⟨[], fp, .hole, t, Sub.refl _⟩
    | yes a t => exact ⟨_, _, a, t, Sub.refl _⟩
  obtain ⟨f, g, a, t, s⟩ := X
  have st : ∀ {l : List Addr}, ∀ a ∈ l, ∀ o, H a = some o → upd H p (.lst [v, u]) a = some o := fun a _ o z => same_upd hp a o z
  have e2 : RE K cm F (upd H p (.lst [v, u])) (some (.ref p) :: σ) (.ol [.pd q, d] :: ρ) ((p :: (([] : List Addr) ++ (f ++ []))) ++ g) :=
    .yes (.ol upd_same (.cons (.pd dv) (.cons (a.mono (Same.refl F) st) .nil))) (t.mono (Same.refl F) st)
  refine .ofRE (fp := p :: fp) (fun a o z => same_upd hp _ _ (r.fh a o z)) (fun a o z => same_upd hp _ _ (r.wh a o z)) r.wf (List.nodup_cons.mpr ⟨np, nd⟩) (fun a ha => ?_) e2 ?_
  · rcases List.mem_cons.mp ha with rfl | ha
    · exact ⟨fp0, wp0⟩
    · exact m a ha
  · obtain ⟨y, py⟩ := s
    refine ⟨y, ?_⟩
    simp only [List.nil_append, List.append_nil, List.cons_append]
    exact List.Perm.cons p py
end
section
variable {X : Cx} {cm : Str → Addr → Prop} {b : Bool} {pos : Pos} {e : Expr} {f : EF}
/-- [value, an owned thing of a slot] -/
def dLst2 (f : EF) (i : Nat) : ED := fun ρ => (f ρ).bind fun x => match x.2[i]? with
  | some .hole => none
  | none => none
  | some d => some (.ol [.pd x.1, d], x.2.set i .hole)
theorem d_lst2 {x : Str} {p : Pos} (i : Nat) (he : PE X e (tP X.K cm b f)) (hN : X.N[i]? = some x := by rfl) (hv : Vis X.env.scope x := by first | exact Or.inl rfl | exact Or.inr (Or.inl rfl) | exact Or.inr (Or.inr rfl)) (hd : (x == ("__debug__" : Str)) = false := by decide)
    (hcd : (x == ("__classdict__" : Str)) = false := by decide) (h1 : starEach [e, .Name x p] X.env = (false, eval e X.env) :: starEach [.Name x p] X.env := by rfl) (h2 : starEach [.Name x p] X.env = (false, eval (.Name x p) X.env) :: starEach [] X.env := by rfl) :
    PE X (.List [e, .Name x p] pos) (tD X.K cm false (dLst2 f i)) :=
  HW.PE.imp (pe_lst (pa_cons he (pa_cons (pe_var hN hv hd hcd) pa_nil h2) h1)) fun σ H Q ⟨W, F, ρ, d, ρ', r, e0, k⟩ => by
    simp only [dLst2, Option.bind_eq_some_iff] at e0
    obtain ⟨⟨q, ρ1⟩, e1, e2⟩ := e0
    refine ⟨W, F, ρ, q, ρ1, r, e1, fun v H1 F1 r1 s1 u1 d1 => ?_⟩
    split at e2
    · cases e2
    · cases e2
    · rename_i dd hn h0
      cases e2
      obtain ⟨u, h3, h4⟩ := r1.take h0 (fun z => by subst z; exact hn rfl)
      exact ⟨u, h3, by show 2 ≤ sizeLine; decide, fun p hp => k _ _ F1 (h4.wrap2 d1 hp) s1 fun h => by cases h⟩
end
end
end HW

namespace HW
open PySem PySem.Spec PyProof.Rows L2
noncomputable section
/-! ### the draws of a law: cells = state[1] is a second name of what the state holds -/
def intsL (ns : List Int) : List P := ns.map .int
@[simp] theorem intsL_len (l : List Int) : (intsL l).length = l.length := by simp [intsL]
def cellsOf : List D → Option (List Int)
  | [] => some []
  | .pd (.int x) :: ds => (cellsOf ds).map (x :: ·)
  | _ => none
theorem cellsOf_is : ∀ {ds : List D} {xs : List Int}, cellsOf ds = some xs → ds = pds (intsL xs)
  | [], xs, h => by cases h; rfl
  | .pd (.int x) :: ds, xs, h => by
    simp only [cellsOf, Option.map_eq_some_iff] at h
    obtain ⟨ys, h1, rfl⟩ := h
    rw [cellsOf_is h1]
    rfl
  | .hole :: _, _, h => by simp [cellsOf] at h
  | .pd .none :: _, _, h => by simp [cellsOf] at h
  | .pd (.bool _) :: _, _, h => by simp [cellsOf] at h
  | .pd (.str _) :: _, _, h => by simp [cellsOf] at h
  | .pd (.list _) :: _, _, h => by simp [cellsOf] at h
  | .pd (.tuple _) :: _, _, h => by simp [cellsOf] at h
  | .ol _ :: _, _, h => by simp [cellsOf] at h
  | .od _ :: _, _, h => by simp [cellsOf] at h
  | .ob _ _ :: _, _, h => by simp [cellsOf] at h
  | .kv _ :: _, _, h => by simp [cellsOf] at h
theorem cellsOf_pds : ∀ xs : List Int, cellsOf (pds (intsL xs)) = some xs
  | [] => rfl
  | x :: xs => by
    show (cellsOf (pds (intsL xs))).map (x :: ·) = _
    rw [cellsOf_pds xs]
    rfl
/-- what is told next: the counter, the cells, the number -/
def takeR (c : Int) (cells : List Int) (most : Int) : Int × List Int × Int :=
  if 1000000000000000000 ≤ cells.getD (c % cells.length).toNat 0 then
    (c, cells.set (c % cells.length).toNat (cells.getD (c % cells.length).toNat 0 / most), cells.getD (c % cells.length).toNat 0 % most)
  else (c + 1, cells, ((((cells.getD (c % cells.length).toNat 0 * 48271 + (c + 1) * 69621) % 2147483647) * 16807 + (c + 1) * 7919) % 1000000007) / 7 % most)
def okTake (c : Int) (cells : List Int) (most : Int) : Prop := 0 ≤ c ∧ cells ≠ [] ∧ (∀ x ∈ cells, 0 ≤ x) ∧ 1 ≤ most ∧ most < 1073741824
def takeS : D → List P → Option (D × D)
  | .ol [.pd (.int c), .ol ds], [.int most] => (cellsOf ds).bind fun cells => @ite _ (okTake c cells most) (Classical.propDecidable _)
      (some (.ol [.pd (.int (takeR c cells most).1), .ol (pds (intsL (takeR c cells most).2.1))], .pd (.int (takeR c cells most).2.2))) none
  | _, _ => none
def takeRest_d : SF := (dSeq (dSet 3 (dPd (dBin modP (dGetA 0 (dC (.int 0))) (dPk 2 (dCall lenP (dArgs [(dV 2)]))))))
  (dSeq (dSet 4 (dPd (dGetA 2 (dV 3))))
  (dSeq (dIfS (dCmp geP (dV 4) (dC (.int 1000000000000000000))) (dSeq (dSetI 2 (dBin fdivP (dV 4) (dV 1)) (dV 3))
  (dRet (dPd (dBin modP (dV 4) (dV 1))))) dNx)
  (dSeq (dSetI 0 (dBin addP (dGetA 0 (dC (.int 0))) (dC (.int 1))) (dC (.int 0)))
  (dSeq (dSet 5 (dPd (dBin modP (dCall intP (dArgs [(dBin addP (dBin mulP (dV 4) (dC (.int 48271))) (dBin mulP (dGetA 0 (dC (.int 0))) (dC (.int 69621))))])) (dC (.int 2147483647)))))
  (dSeq (dSet 5 (dPd (dBin modP (dCall intP (dArgs [(dBin addP (dBin mulP (dV 5) (dC (.int 16807))) (dBin mulP (dGetA 0 (dC (.int 0))) (dC (.int 7919))))])) (dC (.int 1000000007)))))
  (dRet (dPd (dBin modP (dBin fdivP (dV 5) (dC (.int 7))) (dV 1))))))))))
theorem get_cell {cells : List Int} (hn : cells ≠ []) (c : Int) : (c % cells.length).toNat < cells.length ∧ atI (pds (intsL cells)) (c % cells.length) = some (.pd (.int (cells.getD (c % cells.length).toNat 0))) ∧ ixN (pds (intsL cells)).length (c % cells.length) = some (c % cells.length).toNat := by
  have hl : 0 < (cells.length : Int) := by
    have := List.length_pos_iff.mpr hn
    omega
  have h0 := Int.emod_nonneg c (Int.ne_of_gt hl)
  have h1 := Int.emod_lt_of_pos c hl
  obtain ⟨k, hk⟩ := Int.eq_ofNat_of_zero_le h0
  rw [hk] at h1 ⊢
  have hk2 : k < cells.length := by exact_mod_cast h1
  have e : ((k : Int)).toNat = k := rfl
  rw [e]
  refine ⟨hk2, atI_natP ?_, ixN_nat (by simp [intsL, hk2])⟩
  simp [pds, intsL, List.getD, hk2]
theorem set_ints (cells : List Int) (j : Nat) (x : Int) : (pds (intsL cells)).set j (.pd (.int x)) = pds (intsL (cells.set j x)) := by
  simp [pds, intsL, List.map_set]
theorem take_rest {c most : Int} {cells : List Int} (h : okTake c cells most) (v : V) : ∃ a b d, takeRest_d [.ol [.pd (.int c), .kv v], .pd (.int most), .ol (pds (intsL cells)), .hole, .hole, .hole] =
    some (.rt (.pd (.int (takeR c cells most).2.2)), [.ol [.pd (.int (takeR c cells most).1), .kv v], .pd (.int most), .ol (pds (intsL (takeR c cells most).2.1)), a, b, d]) := by
  obtain ⟨h1, h2, h3, h4, h5⟩ := h
  obtain ⟨g1, g2, g3⟩ := get_cell h2 c
  have hl : 0 < cells.length := List.length_pos_iff.mpr h2
  have m4 : 0 < most := by omega
  rw [pds_len, intsL_len] at g3
  have i20 : ixN 2 0 = some 0 := ixN_nat (n := 2) (k := 0) (by decide)
  unfold takeRest_d takeR
  generalize cells.getD (c % ↑cells.length).toNat 0 = x at g2 ⊢
  by_cases hc : 1000000000000000000 ≤ x
  · refine ⟨.pd (.int (c % cells.length)), .pd (.int x), .hole, ?_⟩
    simp [modP, fdivP, mulP, g2, g3, hc, hl, m4, h5, set_ints]
  · refine ⟨.pd (.int (c % cells.length)), .pd (.int x), .pd (.int ((((x * 48271 + (c + 1) * 69621) % 2147483647) * 16807 + (c + 1) * 7919) % 1000000007)), ?_⟩
    simp [modP, fdivP, mulP, g2, g3, hc, hl, m4, h5, i20]
section
variable {K : PySem.W.Frag} {cm : Str → Addr → Prop} {W F H : Hp} {σ : L2.St} {ρ : Sl} {v u : V} {d : D} {c : P} {ds : List D} {m x : Option V}
/-- the second part of what slot 0 holds is named by slot 2, too -/
theorem R.split (r : R K cm W (some u :: m :: x :: σ) H F (.ol [.pd c, .ol ds] :: d :: .hole :: ρ)) :
    ∃ s a v0, u = .ref s ∧ H s = some (.lst [v0, .ref a]) ∧ R K cm W (some u :: m :: some (.ref a) :: σ) H F (.ol [.pd c, .kv (.ref a)] :: d :: .ol ds :: ρ) := by
  obtain ⟨fp, e, nd, mm⟩ := r.ex
  have step : ∀ {σ' : L2.St} {ρ' : Sl} {g : List Addr}, RE K cm F H (x :: σ') (.hole :: ρ') g → RE K cm F H σ' ρ' g := fun {σ' ρ' g} t => by
    cases t with
    | no t => exact t
    | yes a t => cases a; exact t
  suffices K2 : ∃ s a v0 g', u = .ref s ∧ H s = some (.lst [v0, .ref a]) ∧ RE K cm F H (some u :: m :: some (.ref a) :: σ) (.ol [.pd c, .kv (.ref a)] :: d :: .ol ds :: ρ) g' ∧ Sub g' fp by
    obtain ⟨s, a, v0, g', q1, q2, q3, q4⟩ := K2
    exact ⟨s, a, v0, q1, q2, .ofRE r.fh r.wh r.wf nd mm q3 q4⟩
  cases e with
  | yes a t =>
    cases a with
    | @ol s vs _ f h1 h2 =>
      cases h2 with
      | cons b h2 =>
        cases h2 with
        | cons b2 h2 =>
          cases h2
          cases b2 with
          | @ol a vs2 _ f2 h3 h4 =>
            cases b with
            | pd hd =>
              have E : ∀ {g3 : List Addr}, RE K cm F H (m :: x :: σ) (d :: .hole :: ρ) g3 → ∃ g, RE K cm F H (m :: some (.ref a) :: σ) (d :: .ol ds :: ρ) g ∧ Sub g ((a :: f2) ++ g3) := fun {g3} t => by
                cases t with
                | no t => exact ⟨_, .no (.yes (.ol h3 h4) (step t)), Sub.refl _⟩
                | yes z t => exact ⟨_, .yes z (.yes (.ol h3 h4) (step t)), Sub.swap _ _ _⟩
              obtain ⟨g, t2, s1⟩ := E t
              refine ⟨s, a, _, (s :: (([] : List Addr) ++ (([] : List Addr) ++ []))) ++ g, rfl, h1, .yes (.ol h1 (.cons (.pd hd) (.cons .kv .nil))) t2, ?_⟩
              simpa using (Sub.refl [s]).app s1
/-- and back -/
theorem R.join {a : Addr} {p : P} {w : V} (r : R K cm W (some w :: some u :: m :: some (.ref a) :: σ) H F (.pd p :: .ol [.pd c, .kv (.ref a)] :: d :: .ol ds :: ρ)) :
    R K cm W [some w, some u] H F [.pd p, .ol [.pd c, .ol ds]] := by
  obtain ⟨fp, e, nd, mm⟩ := r.ex
  cases e with
  | yes a0 t =>
    cases a0 with
    | pd hp =>
      cases t with
      | yes a1 t =>
        cases a1 with
        | @ol s vs _ f h1 h2 =>
          cases h2 with
          | cons b h2 =>
            cases h2 with
            | cons b2 h2 =>
              cases h2
              cases b2
              cases b with
              | pd hd =>
                have E : ∀ {g : List Addr}, RE K cm F H (some (.ref a) :: σ) (.ol ds :: ρ) g → ∃ g1, RD K cm F H (.ref a) (.ol ds) g1 ∧ Sub g1 g := fun {g} t => by
                  cases t with
                  | yes z t => exact ⟨_, z, Sub.left _ _⟩
                have E2 : ∀ {g : List Addr}, RE K cm F H (m :: some (.ref a) :: σ) (d :: .ol ds :: ρ) g → ∃ g1, RD K cm F H (.ref a) (.ol ds) g1 ∧ Sub g1 g := fun {g} t => by
                  cases t with
                  | no t => exact E t
                  | yes z t =>
                    obtain ⟨g1, q1, q2⟩ := E t
                    exact ⟨g1, q1, q2.trans (Sub.right _ _)⟩
                obtain ⟨g1, q1, q2⟩ := E2 t
                refine .ofRE r.fh r.wh r.wf nd mm (.yes (.pd hp) (.yes (.ol h1 (.cons (.pd hd) (.cons q1 .nil))) .nil)) ?_
                simpa using (Sub.refl [s]).app q2
end
/-- what the first statement does: the second part of what slot 0 holds is put into slot 2 -/
def tTk : TS := fun Dn σ H => ∃ s a v0, σ[0]? = some (some (.ref s)) ∧ H s = some (.lst [v0, .ref a]) ∧ Dn.nx (σ.set 2 (some (.ref a))) H
def asTk : Nat → Bool := fun i => !(i == 0) && !(i == 2)
section
variable {X : Cx} {pos : Pos}
theorem s_tk {x y : Str} {p p2 p3 p4 : Pos} {j} (hN : X.N.Nodup) (hi : X.N[2]? = some x := by rfl) (hy : X.N[0]? = some y := by rfl) (hv : Vis X.env.scope y := by first | exact Or.inl rfl | exact Or.inr (Or.inl rfl) | exact Or.inr (Or.inr rfl)) (hd : (y == ("__debug__" : Str)) = false := by decide)
    (hcd : (y == ("__classdict__" : Str)) = false := by decide) (hx : Loc X.env.scope x := by first | exact .inl rfl | exact .inr rfl)
    (hs : swapsWith (.Subscript (.Name y p2) (.Constant (.int 1) j p3) p4) (some (.Name x p)) pos.line X.env = pure false := by rfl) (hf : X.fn x = true ∨ X.env.scope.names.lookup x = some .local := by first | exact .inl rfl | exact .inr rfl | assumption) :
    PS X (.Assign [.Name x p] (.Subscript (.Name y p2) (.Constant (.int 1) j p3) p4) pos) tTk :=
  HW.PS.imp (ps_set hN hi hx (pe_ix ix_list (pe_var hy hv hd hcd) pe_int (by exact fun _ _ => rfl)) hs hf) fun Dn σ H ⟨s, a, v0, h1, h2, k⟩ =>
    ⟨_, h1, _, [v0, .ref a], 1, .ref a, rfl, rfl, .inl (.inl h2), rfl, k⟩
end
section
variable {P : Program} {w : World} {K : PySem.W.Frag} {mg : Str → Option Value} {base : Heap} {cm : Str → Addr → Prop} {k : Nat} {x qual : Str} {st : Stmt} {fa : Addr} {fd : FuncData} {y0 y1 y2 y3 y4 y5 : Str} {ps : List Str}
theorem fn_take (G : L2.Fun K x qual st fa fd) (S : FnScope [y0, y1, y2, y3, y4, y5] ps (defScope st)) (hn : ps.length = 2)
    (hb : ∀ (cdv : Value) (A : Around) (outer : List Env) (s : Shared) (H : Hp) (E : XK), Room k (A.deeper (envOfC qual (defScope st) s.heap.objs.size fa cdv)) →
      PSs (cxOf CX0 P w K mg base [y0, y1, y2, y3, y4, y5] qual (defScope st) fa cdv A outer s H E).nox (defBody st) (tSeq tTk (tS K cm asTk takeRest_d))) : FnOk P w K mg base CX0 (k + 1) fa fd ps (spM K cm 1 takeS) :=
  G.ok S (fun vs H Q E h => h.1.trans hn.symm) fun cdv A outer s H vs Q E hr h => by
    obtain ⟨hl, u, us, W, F, qs, d0, d1, d2, rfl, r, dd, e, k⟩ := h
    refine ⟨_, hb cdv A outer s H E hr, ?_⟩
    unfold takeS at e
    split at e
    · rename_i c ds most
      obtain ⟨cells, e1, e2⟩ := Option.bind_eq_some_iff.mp e
      split at e2
      · rename_i hok
        cases e2
        have hds := cellsOf_is e1
        subst hds
        have r0 : R K cm W (L2.start [y0, y1, y2, y3, y4, y5] (u :: us)) H F _ := r.startM dd
        cases dd with
        | @cons m us _ _ dm dn =>
        cases dn
        obtain ⟨s0, a, v0, rfl, h1, r1⟩ := R.split r0
        obtain ⟨x1, x2, x3, e3⟩ := take_rest hok (.ref a)
        refine ⟨s0, a, v0, rfl, h1, W, F, _, _, _, r1, e3, fun v σ' H' F' r' s' o' => ?_⟩
        have q0 := o' 0 rfl
        have q2 := o' 2 rfl
        rcases σ' with _ | ⟨z0, _ | ⟨z1, _ | ⟨z2, σ'⟩⟩⟩
        · cases q0
        · cases q2
        · cases q2
        · cases q0
          cases q2
          exact k v H' F' r'.join s'
      · cases e2
    · cases e
end
end
end HW

namespace HW
open PySem PySem.Spec PyProof.Rows L2
noncomputable section
/-- a state to draw from -/
def GoodS (d : D) : Prop := ∃ (c : Int) (cells : List Int), d = .ol [.pd (.int c), .ol (pds (intsL cells))] ∧ 0 ≤ c ∧ cells ≠ [] ∧ ∀ x ∈ cells, 0 ≤ x
theorem GoodS.ne {d : D} (g : GoodS d) : d ≠ .hole := by
  obtain ⟨c, cells, rfl, _⟩ := g
  simp
theorem take_good {d : D} (g : GoodS d) {m : Int} (h1 : 1 ≤ m) (h2 : m < 1073741824) : ∃ v d', takeS d [.int m] = some (d', .pd (.int v)) ∧ GoodS d' ∧ 0 ≤ v ∧ v < m := by
  obtain ⟨c, cells, rfl, hc, hn, hp⟩ := g
  have m0 : m ≠ 0 := by omega
  have g0 : 0 ≤ cells.getD (c % cells.length).toNat 0 := by
    rw [List.getD_eq_getElem?_getD]
    cases e : cells[(c % cells.length).toNat]? with
    | none => simp
    | some x => exact hp x (List.mem_of_getElem? e)
  have key : 0 ≤ (takeR c cells m).1 ∧ (takeR c cells m).2.1 ≠ [] ∧ (∀ x ∈ (takeR c cells m).2.1, 0 ≤ x) ∧ 0 ≤ (takeR c cells m).2.2 ∧ (takeR c cells m).2.2 < m := by
    unfold takeR
    split
    · refine ⟨hc, by simp [hn], fun x hx => ?_, Int.emod_nonneg _ m0, Int.emod_lt_of_pos _ (by omega)⟩
      rcases List.mem_or_eq_of_mem_set hx with h | rfl
      · exact hp x h
      · exact Int.ediv_nonneg g0 (by omega)
    · exact ⟨by show 0 ≤ c + 1; omega, hn, hp, Int.emod_nonneg _ m0, Int.emod_lt_of_pos _ (by omega)⟩
  refine ⟨(takeR c cells m).2.2, _, ?_, ⟨(takeR c cells m).1, (takeR c cells m).2.1, rfl, key.1, key.2.1, key.2.2.1⟩, key.2.2.2.1, key.2.2.2.2⟩
  show (cellsOf (pds (intsL cells))).bind _ = _
  rw [cellsOf_pds, Option.bind_some]
  exact if_pos ⟨hc, hn, hp, h1, h2⟩
/-- one draw -/
theorem draw {ρ ρ1 : Sl} {f : EL} {m : Int} {d0 d : D} (e : f ρ = some ([.int m], ρ1)) (h0 : ρ[1]? = some d0) (g0 : GoodS d0) (h1 : ρ1[1]? = some d) (g : GoodS d) (m1 : 1 ≤ m) (m2 : m < 1073741824) :
    ∃ v d', dFr (dFnM 1 1 takeS f) ρ = some (.int v, ρ1.set 1 d') ∧ GoodS d' ∧ 0 ≤ v ∧ v < m := by
  obtain ⟨v, d', e1, g', v0, v1⟩ := take_good g m1 m2
  refine ⟨v, d', ?_, g', v0, v1⟩
  obtain ⟨c0, cells0, rfl, _⟩ := g0
  obtain ⟨c, cells, rfl, _⟩ := g
  unfold dFr dFnM
  rw [h0]
  dsimp only
  rw [e, Option.bind_some]
  dsimp only
  rw [if_pos (show [PyData.int m].length = 1 from rfl), h1]
  dsimp only
  rw [e1]
  rfl
/-- .. of a known number of numbers -/
theorem drawC {ρ : Sl} {f : EL} {m : Int} {d : D} (e : f ρ = some ([.int m], ρ)) (h : ρ[1]? = some d) (g : GoodS d) (m1 : 1 ≤ m) (m2 : m < 1073741824) :
    ∃ v d', dFr (dFnM 1 1 takeS f) ρ = some (.int v, ρ.set 1 d') ∧ GoodS d' ∧ 0 ≤ v ∧ v < m := draw e h g h g m1 m2
end
end HW

namespace HW
open PySem PySem.Spec PyProof.Rows L2
open PySem.Sem (wp)
noncomputable section
/-! ### enumerate over a zip: the zip's pair is kept, so that it may be out, or gone, when the next is asked for -/
abbrev ZObj (h : Heap) (z TI TO : Addr) (u : Value) (f : Bool) : Prop := h.get? z = some { cls := .type "zip", dict := none, data := .fields #[u, .bool f, .bool false, .ref TI, .ref TO], slots := #[] }
section
variable {prog : Program} {w : World} {A : Around} {E : Value → Shared → Prop} {s : Shared} {z TI TO i1 i2 l1 l2 : Addr} {k1 k2 : Nat} {xs ys : Array Value} {x y pa pb : Value} {u : Value} {f : Bool}
theorem not_there {a : Addr} {Q : Option Obj → Shared → Prop} (ha : s.heap.get? a = none) (h : Q none s) : wpAny (model prog w) A (loadIfAlive a) Q E s := by
  have h' : Q (s.heap.get? a) s := by rw [ha]; exact h
  exact fun _ _ _ => h'
theorem free_none {Q : Bool → Shared → Prop} (o : ZObj s.heap z TI TO .none f) (h : Q true s) : wpAny (model prog w) A (Builtin.SmallTypes.ownedTupleIsFree (.ref z)) Q E s := by
  unfold Builtin.SmallTypes.ownedTupleIsFree
  exact wpAny_bind (wpAny_field o rfl (x := .none) rfl (wpAny_pure h))
theorem free_gone {T : Addr} {Q : Bool → Shared → Prop} (o : ZObj s.heap z TI TO (rawInt T) f) (hT : s.heap.get? T = none) (h : Q true s) : wpAny (model prog w) A (Builtin.SmallTypes.ownedTupleIsFree (.ref z)) Q E s := by
  unfold Builtin.SmallTypes.ownedTupleIsFree
  refine wpAny_bind (wpAny_field o rfl (x := rawInt T) rfl ?_)
  show wpAny _ _ (loadIfAlive ((T : Int).toNat) >>= _) _ _ s
  rw [Int.toNat_natCast]
  exact wpAny_bind (not_there hT (wpAny_pure h))
/-- the next pair, where the zip's own tuple is free -/
theorem zq_item {Q : Value → Shared → Prop} (D : ZipApart z TI TO i1 i2 l1 l2) (o : ZObj s.heap z TI TO u f) (fr : ∀ R : Bool → Shared → Prop, R true s → wpAny (model prog w) A (Builtin.SmallTypes.ownedTupleIsFree (.ref z)) R E s)
    (t : IsPair s.heap TI (.ref i1) (.ref i2)) (q : IsPair s.heap TO pa pb) (m1 : s.heap.IsListIter i1 l1 k1) (m2 : s.heap.IsListIter i2 l2 k2) (n1 : s.heap.IsList l1 xs) (n2 : s.heap.IsList l2 ys) (ex : xs[k1]? = some x) (ey : ys[k2]? = some y)
    (out : ∀ g, ZObj g z TI TO (rawInt s.heap.objs.size) false → IsPair g TO x y → g.IsListIter i1 l1 (k1 + 1) → g.IsListIter i2 l2 (k2 + 1) → IsPair g s.heap.objs.size x y → g.objs.size = s.heap.objs.size + 1 →
      (∀ c v, c ≠ z → c ≠ TO → c ≠ i1 → c ≠ i2 → s.heap.get? c = some v → g.get? c = some v) → Q (.ref s.heap.objs.size) { s with heap := g }) : wpAny (model prog w) A (Builtin.«zip.__next__» ⟨[.ref z], []⟩) (fun r s' => ∃ v, r = .done (.ret v) ∧ Q v s') E s := by
  show wpAny _ _ (field (.ref z) 2 >>= _) _ _ s
  refine wpAny_bind (wpAny_field o rfl (x := .bool false) rfl ?_); show wpAny _ _ (field (.ref z) 3 >>= _) _ _ s
  refine wpAny_bind (wpAny_field o rfl (x := .ref TI) rfl ?_); refine wpAny_bind (wpAny_seqItems t rfl ?_)
  show wpAny _ _ (Builtin.SmallTypes.ownedTupleIsFree (.ref z) >>= _) _ _ s
  refine wpAny_bind (fr _ ?_); simp only [if_true]
  refine wpAny_bind (wpAny_rule ?_); refine wpAny_bind (wpAny_field o rfl (x := .ref TO) rfl ?_); refine wpAny_bind (wpAny_setField_rec o (by simp) fun g1 o1 w1 => ?_)
  replace o1 : ZObj g1 z TI TO .ellipsis f := o1
  refine wpAny_bind ?_; simp only [List.zipIdx_cons, List.zipIdx_nil, List.forIn_cons, List.forIn_nil]
  refine wpAny_bind (wpAny_bind (wpAny_onRaise ?_)); show wpAny _ _ (Builtin.SmallTypes.nextOf (.ref i1) >>= _) _ _ _
  refine wpAny_bind (wpAny_nextOf_list_item (m1.extBut w1.extBut D.i1z) (n1.extBut w1.extBut D.l1z) ex fun g2 a2 w2 => wpAny_pure ?_)
  have q2 : IsPair g2 TO pa pb := w2.extBut _ _ D.TOi1 (w1.extBut _ _ D.TOz q)
  refine wpAny_bind (wpAny_seqItems q2 rfl ?_); refine wpAny_bind (wpAny_updateSeq_pair q2 fun g3 q3 w3 => ?_)
  replace q3 : IsPair g3 TO x pb := q3
  refine wpAny_bind (wpAny_letGo (wpAny_pure ?_)); refine wpAny_bind (wpAny_bind (wpAny_onRaise ?_)); show wpAny _ _ (Builtin.SmallTypes.nextOf (.ref i2) >>= _) _ _ _
  refine wpAny_bind (wpAny_nextOf_list_item (((m2.extBut w1.extBut D.i2z).extBut w2.extBut D.i12.symm).extBut w3.extBut D.TOi2.symm) (((n2.extBut w1.extBut D.l2z).extBut w2.extBut D.l2i1).extBut w3.extBut D.l2TO) ey fun g4 b4 w4 => wpAny_pure ?_)
  have q4 : IsPair g4 TO x pb := w4.extBut _ _ D.TOi2 q3
  refine wpAny_bind (wpAny_seqItems q4 rfl ?_); refine wpAny_bind (wpAny_updateSeq_pair q4 fun g5 q5 w5 => ?_)
  replace q5 : IsPair g5 TO x y := q5
  refine wpAny_bind (wpAny_letGo (wpAny_pure (wpAny_pure ?_))); refine wpAny_bind (wpAny_seqItems q5 rfl ?_); refine wpAny_bind (wpAny_newTuple ?_)
  have sz : g5.objs.size = s.heap.objs.size := by rw [w5.1, w4.1, w3.1, w2.1, w1.1]
  have o5 : ZObj g5 z TI TO .ellipsis f := w5.extBut _ _ D.TOz.symm (w4.extBut _ _ D.i2z.symm (w3.extBut _ _ D.TOz.symm (w2.extBut _ _ D.i1z.symm o1)))
  have kp : ∀ c v, c ≠ z → c ≠ TO → c ≠ i1 → c ≠ i2 → s.heap.get? c = some v → g5.get? c = some v := fun c v c1 c2 c3 c4 e => w5.extBut _ _ c2 (w4.extBut _ _ c4 (w3.extBut _ _ c2 (w2.extBut _ _ c3 (w1.extBut _ _ c1 e))))
  have a5 : g5.IsListIter i1 l1 (k1 + 1) := ((a2.extBut w3.extBut D.TOi1.symm).extBut w4.extBut D.i12).extBut w5.extBut D.TOi1.symm
  have b5 : g5.IsListIter i2 l2 (k2 + 1) := b4.extBut w5.extBut D.TOi2.symm
  have zlt : z < g5.objs.size := Heap.lt_size o5
  show wpAny _ _ (Builtin.SmallTypes.ownedTupleHandOut (.ref z) (.ref g5.objs.size) >>= _) _ _ _
  refine wpAny_bind ?_; unfold Builtin.SmallTypes.ownedTupleHandOut
  have o6 : ZObj (g5.push { cls := .type "tuple", data := .seq #[x, y] }) z TI TO .ellipsis f := Heap.get?_push_of_some _ o5
  refine wpAny_bind (wpAny_setField_rec o6 (by simp) fun g7 o7 w7 => ?_)
  replace o7 : ZObj g7 z TI TO (rawInt g5.objs.size) f := o7
  refine wpAny_setField_rec o7 (by simp) fun g8 o8 w8 => ?_
  replace o8 : ZObj g8 z TI TO (rawInt g5.objs.size) false := o8
  have up : ∀ c v, c ≠ z → g5.get? c = some v → g8.get? c = some v := fun c v c1 e => w8.extBut _ _ c1 (w7.extBut _ _ c1 (Heap.get?_push_of_some _ e))
  have p8 : IsPair g8 g5.objs.size x y := w8.extBut _ _ (Nat.ne_of_gt zlt) (w7.extBut _ _ (Nat.ne_of_gt zlt) (Heap.get?_push_size _ rfl))
  have s8 : g8.objs.size = g5.objs.size + 1 := by rw [w8.1, w7.1, Heap.size_push]
  rw [sz] at o8 p8 s8
  refine wpAny_pure ⟨_, rfl, ?_⟩; show Q (.ref g5.objs.size) _
  rw [sz]
  exact out g8 o8 (up _ _ D.TOz q5) (a5.at fun v e => up _ v D.i1z e) (b5.at fun v e => up _ v D.i2z e) p8 s8 fun c v c1 c2 c3 c4 e => up c v c1 (kp c v c1 c2 c3 c4 e)
/-- the end, where the zip's own tuple is free -/
theorem zq_end {Q : Fin → Shared → Prop} (hh : A.handled = none) (D : ZipApart z TI TO i1 i2 l1 l2) (o : ZObj s.heap z TI TO u f) (fr : ∀ R : Bool → Shared → Prop, R true s → wpAny (model prog w) A (Builtin.SmallTypes.ownedTupleIsFree (.ref z)) R E s)
    (t : IsPair s.heap TI (.ref i1) (.ref i2)) (q : IsPair s.heap TO pa pb) (m1 : s.heap.IsListIter i1 l1 k1) (m2 : s.heap.IsListIter i2 l2 k2) (n1 : s.heap.IsList l1 xs) (n2 : s.heap.IsList l2 ys) (no : xs[k1]? = none ∨ ys[k2]? = none)
    (out : ∀ g e, (∀ c v, c ≠ z → c ≠ TO → c ≠ i1 → c ≠ i2 → s.heap.get? c = some v → g.get? c = some v) → (∃ v, g.get? e = some v ∧ v.cls = .type "StopIteration") → E (.ref e) { s with heap := g }) : wpAny (model prog w) A (Builtin.«zip.__next__» ⟨[.ref z], []⟩) Q E s := by
  show wpAny _ _ (field (.ref z) 2 >>= _) _ _ s
  refine wpAny_bind (wpAny_field o rfl (x := .bool false) rfl ?_); show wpAny _ _ (field (.ref z) 3 >>= _) _ _ s
  refine wpAny_bind (wpAny_field o rfl (x := .ref TI) rfl ?_); refine wpAny_bind (wpAny_seqItems t rfl ?_)
  show wpAny _ _ (Builtin.SmallTypes.ownedTupleIsFree (.ref z) >>= _) _ _ s
  refine wpAny_bind (fr _ ?_); simp only [if_true]
  refine wpAny_bind (wpAny_rule ?_); refine wpAny_bind (wpAny_field o rfl (x := .ref TO) rfl ?_); refine wpAny_bind (wpAny_setField_rec o (by simp) fun g1 o1 w1 => ?_)
  replace o1 : ZObj g1 z TI TO .ellipsis f := o1
  refine wpAny_bind ?_; simp only [List.zipIdx_cons, List.zipIdx_nil, List.forIn_cons, List.forIn_nil]
  refine wpAny_bind (wpAny_bind (wpAny_onRaise ?_)); show wpAny _ _ (Builtin.SmallTypes.nextOf (.ref i1) >>= _) _ _ _
  cases ex : xs[k1]? with
  | none =>
    refine wpAny_bind (wpAny_nextOf_list_end hh (m1.extBut w1.extBut D.i1z) (n1.extBut w1.extBut D.l1z) ex fun g2 e w2 he => ?_)
    obtain ⟨oe, h1, h2⟩ := he
    have o2 : ZObj g2 z TI TO .ellipsis f := w2 _ _ D.i1z.symm o1
    have ne : e ≠ z := fun x => by subst x; rw [o2] at h1; cases h1; simp at h2
    exact wpAny_setField_rec o2 (by simp) fun g3 _ w3 => out g3 e (fun c v c1 _ c3 _ x => w3.extBut _ _ c1 (w2 _ _ c3 (w1.extBut _ _ c1 x))) ⟨oe, w3.extBut _ _ ne h1, h2⟩
  | some x =>
    have ey : ys[k2]? = none := by
      rcases no with h | h
      · rw [ex] at h; cases h
      · exact h
    refine wpAny_bind (wpAny_nextOf_list_item (m1.extBut w1.extBut D.i1z) (n1.extBut w1.extBut D.l1z) ex fun g2 a2 w2 => wpAny_pure ?_)
    have q2 : IsPair g2 TO pa pb := w2.extBut _ _ D.TOi1 (w1.extBut _ _ D.TOz q)
    refine wpAny_bind (wpAny_seqItems q2 rfl ?_); refine wpAny_bind (wpAny_updateSeq_pair q2 fun g3 q3 w3 => ?_)
    refine wpAny_bind (wpAny_letGo (wpAny_pure ?_)); refine wpAny_bind (wpAny_bind (wpAny_onRaise ?_)); show wpAny _ _ (Builtin.SmallTypes.nextOf (.ref i2) >>= _) _ _ _
    refine wpAny_bind (wpAny_nextOf_list_end hh (((m2.extBut w1.extBut D.i2z).extBut w2.extBut D.i12.symm).extBut w3.extBut D.TOi2.symm) (((n2.extBut w1.extBut D.l2z).extBut w2.extBut D.l2i1).extBut w3.extBut D.l2TO) ey fun g4 e w4 he => ?_)
    obtain ⟨oe, h1, h2⟩ := he
    have o4 : ZObj g4 z TI TO .ellipsis f := w4 _ _ D.i2z.symm (w3.extBut _ _ D.TOz.symm (w2.extBut _ _ D.i1z.symm o1))
    have ne : e ≠ z := fun x => by subst x; rw [o4] at h1; cases h1; simp at h2
    exact wpAny_setField_rec o4 (by simp) fun g5 _ w5 => out g5 e (fun c v c1 c2 c3 c4 x => w5.extBut _ _ c1 (w4 _ _ c4 (w3.extBut _ _ c2 (w2.extBut _ _ c3 (w1.extBut _ _ c1 x))))) ⟨oe, w5.extBut _ _ ne h1, h2⟩
end
end
end HW

namespace HW
open PySem PySem.Spec PyProof.Rows L2
open PySem.Sem (wp)
noncomputable section
/-- a zip of two lists that may have handed out its pair -/
structure ZSt (z TI TO i1 i2 a b : Addr) (i : Nat) (h : Heap) : Prop where
  ob : ∃ u f, ZObj h z TI TO u f ∧ (u = .none ∨ ∃ T : Addr, u = rawInt T)
  ti : IsPair h TI (.ref i1) (.ref i2)
  to : ∃ x y, IsPair h TO x y
  it1 : h.IsListIter i1 a i
  it2 : h.IsListIter i2 b i
section
variable {prog : Program} {w : World} {A : Around} {E : Value → Shared → Prop} {s : Shared} {z TI TO i1 i2 l1 l2 : Addr} {i : Nat} {xs ys : Array Value} {x y : Value}
theorem ZSt.keep {h h' : Heap} (st : ZSt z TI TO i1 i2 l1 l2 i h) (k : ∀ b ∈ [z, TI, TO, i1, i2], ∀ o, h.get? b = some o → h'.get? b = some o) : ZSt z TI TO i1 i2 l1 l2 i h' := by
  obtain ⟨⟨u, f, o, v⟩, t, ⟨p, q, t2⟩, m1, m2⟩ := st
  exact ⟨⟨u, f, k z (by simp) _ o, v⟩, k TI (by simp) _ t, ⟨p, q, k TO (by simp) _ t2⟩, m1.at fun o e => k i1 (by simp) o e, m2.at fun o e => k i2 (by simp) o e⟩
theorem zq_next {Q : Value → Shared → Prop} (D : ZipApart z TI TO i1 i2 l1 l2) (st : ZSt z TI TO i1 i2 l1 l2 i s.heap) (n1 : s.heap.IsList l1 xs) (n2 : s.heap.IsList l2 ys) (ex : xs[i]? = some x) (ey : ys[i]? = some y)
    (out : ∀ g, ZSt z TI TO i1 i2 l1 l2 (i + 1) g → IsPair g s.heap.objs.size x y → g.objs.size = s.heap.objs.size + 1 → (∀ c v, c ≠ z → c ≠ TO → c ≠ i1 → c ≠ i2 → s.heap.get? c = some v → g.get? c = some v) → Q (.ref s.heap.objs.size) { s with heap := g }) :
    wpAny (model prog w) A (Builtin.SmallTypes.nextOf (.ref z)) Q E s := by
  obtain ⟨⟨u, f, o, v⟩, t, ⟨p, q, t2⟩, m1, m2⟩ := st
  have ty : s.TypeIs (.ref z) "zip" := ⟨_, o, rfl⟩
  unfold Builtin.SmallTypes.nextOf
  have A1 : (∀ R : Bool → Shared → Prop, R true s → wpAny (model prog w) A.in1 (Builtin.SmallTypes.ownedTupleIsFree (.ref z)) R E s) → wpAny (model prog w) A.in1 (Builtin.«zip.__next__» ⟨[.ref z], []⟩) (fun r s' => ∃ v, r = .done (.ret v) ∧ wpAny (model prog w) A (pure v) Q E s') E s := fun fr =>
    zq_item D o fr t t2 m1 m2 n1 n2 ex ey fun g o' t2' m1' m2' pr sz kp => wpAny_pure (out g ⟨⟨_, _, o', .inr ⟨_, rfl⟩⟩, kp _ _ D.TIz D.TITO D.TIi1 D.TIi2 t, ⟨_, _, t2'⟩, m1', m2'⟩ pr sz kp)
  refine wpAny_bind (wpAny_callSpecial?_slot (name := Str.ofString "__next__") ty F.slot_zip_next (wpAny_call_entry F.slot_zip_next ty F.entry_zip_next ?_ (F.args_zip_next_1 _)))
  rcases v with rfl | ⟨T, rfl⟩
  · exact A1 fun R h => free_none o h
  · cases hT : s.heap.get? T with
    | none => exact A1 fun R h => free_gone o hT h
    | some oT =>
      refine zip_next_item_held D o hT t m1 m2 n1 n2 ex ey fun g o' m1' m2' pr sz kp => wpAny_pure (out g ⟨⟨_, _, o', .inr ⟨_, rfl⟩⟩, kp _ _ D.TIz D.TIi1 D.TIi2 t, ⟨_, _, kp _ _ D.TOz D.TOi1 D.TOi2 t2⟩, m1', m2'⟩ pr sz fun c v c1 _ c3 c4 e => kp c v c1 c3 c4 e)
theorem zq_stop {Q : Value → Shared → Prop} (hh : A.handled = none) (D : ZipApart z TI TO i1 i2 l1 l2) (st : ZSt z TI TO i1 i2 l1 l2 i s.heap) (n1 : s.heap.IsList l1 xs) (n2 : s.heap.IsList l2 ys) (no : xs[i]? = none ∨ ys[i]? = none)
    (out : ∀ g e, (∀ c v, c ≠ z → c ≠ TO → c ≠ i1 → c ≠ i2 → s.heap.get? c = some v → g.get? c = some v) → (∃ v, g.get? e = some v ∧ v.cls = .type "StopIteration") → E (.ref e) { s with heap := g }) :
    wpAny (model prog w) A (Builtin.SmallTypes.nextOf (.ref z)) Q E s := by
  obtain ⟨⟨u, f, o, v⟩, t, ⟨p, q, t2⟩, m1, m2⟩ := st
  have ty : s.TypeIs (.ref z) "zip" := ⟨_, o, rfl⟩
  unfold Builtin.SmallTypes.nextOf
  refine wpAny_bind (wpAny_callSpecial?_slot (name := Str.ofString "__next__") ty F.slot_zip_next (wpAny_call_entry F.slot_zip_next ty F.entry_zip_next ?_ (F.args_zip_next_1 _)))
  rcases v with rfl | ⟨T, rfl⟩
  · exact zq_end hh D o (fun R h => free_none o h) t t2 m1 m2 n1 n2 no out
  · cases hT : s.heap.get? T with
    | none => exact zq_end hh D o (fun R h => free_gone o hT h) t t2 m1 m2 n1 n2 no out
    | some oT => exact zip_next_end_held hh D o hT t m1 m2 n1 n2 no fun g e kp he => out g e (fun c v c1 _ c3 c4 e => kp c v c1 c3 c4 e) he
/-- enumerate's next, over such a zip -/
theorem eq_item {e : Addr} {Q : Value → Shared → Prop} {old : Value} (D : ZipApart z TI TO i1 i2 l1 l2) (ez : e ∉ [z, TI, TO, i1, i2]) (el : e ≠ l1 ∧ e ≠ l2) (he : IsEnum s.heap e z i old) (st : ZSt z TI TO i1 i2 l1 l2 i s.heap) (n1 : s.heap.IsList l1 xs) (n2 : s.heap.IsList l2 ys) (ex : xs[i]? = some x) (ey : ys[i]? = some y)
    (out : ∀ g, IsEnumOut g e z ((i : Int) + 1) (.ref s.heap.objs.size) (s.heap.objs.size + 1) → ZSt z TI TO i1 i2 l1 l2 (i + 1) g → IsPair g s.heap.objs.size x y → g.get? (s.heap.objs.size + 1) = some { cls := .type "tuple", data := .seq #[.int i s.toks, .ref s.heap.objs.size] } → g.objs.size = s.heap.objs.size + 2 →
      (∀ c v, c ∉ [e, z, TI, TO, i1, i2] → s.heap.get? c = some v → g.get? c = some v) → Q (.ref (s.heap.objs.size + 1)) { s with heap := g, toks := s.toks + 1 }) :
    wpAny (model prog w) A (Builtin.«enumerate.__next__» ⟨[.ref e], []⟩) (fun r s' => ∃ v, r = .done (.ret v) ∧ Q v s') E s := by
  obtain ⟨hp, g, d, tk, os⟩ := s
  simp only [List.mem_cons, List.not_mem_nil, or_false, not_or] at ez
  obtain ⟨ez, eTI, eTO, e1, e2⟩ := ez
  show wpAny _ _ (field (.ref e) 2 >>= _) _ _ _
  refine wpAny_bind (wpAny_field he rfl (x := .ref z) rfl ?_); refine wpAny_bind (zq_next D st n1 n2 ex ey fun h1 st1 pr sz kp => ?_)
  replace pr : IsPair h1 hp.objs.size x y := pr
  replace sz : h1.objs.size = hp.objs.size + 1 := sz
  have he1 : IsEnum h1 e z i old := kp _ _ ez eTO e1 e2 he
  have elt : e < hp.objs.size := Heap.lt_size he
  show wpAny _ _ (field (.ref e) 3 >>= _) _ _ ⟨h1, g, d, tk, os⟩
  refine wpAny_bind (wpAny_field he1 rfl (x := rawInt i) rfl ?_); show wpAny _ _ (field (.ref e) 4 >>= _) _ _ ⟨h1, g, d, tk, os⟩
  refine wpAny_bind (wpAny_field he1 rfl (x := .none) rfl ?_); show wpAny _ _ (mkInt i >>= _) _ _ ⟨h1, g, d, tk, os⟩
  refine wpAny_bind (wpAny_mkInt ?_); show wpAny _ _ (setField (.ref e) 3 (rawInt ((i : Int) + 1)) >>= _) _ _ ⟨h1, g, d, tk + 1, os⟩
  refine wpAny_bind (wpAny_setField_rec he1 (by simp) fun h2 he2 w2 => ?_)
  replace he2 : IsEnum h2 e z ((i : Int) + 1) old := he2
  replace w2 : Heap.SameBut e h1 h2 := w2
  show wpAny _ _ (setField (.ref e) 4 .none >>= _) _ _ ⟨h2, g, d, tk + 1, os⟩
  refine wpAny_bind (wpAny_setField_rec he2 (by simp) fun h3 he3 w3 => ?_)
  replace he3 : IsEnum h3 e z ((i : Int) + 1) old := he3
  replace w3 : Heap.SameBut e h2 h3 := w3
  show wpAny _ _ (newTuple [.int i tk, .ref hp.objs.size] >>= _) _ _ ⟨h3, g, d, tk + 1, os⟩
  refine wpAny_bind (wpAny_newTuple ?_)
  have sz3 : h3.objs.size = hp.objs.size + 1 := by rw [w3.1, w2.1, sz]
  have he4 : IsEnum (h3.push { cls := .type "tuple", data := .seq #[.int i tk, .ref hp.objs.size] }) e z ((i : Int) + 1) old := Heap.get?_push_of_some _ he3
  generalize hh4 : h3.push { cls := .type "tuple", data := .seq #[.int i tk, .ref hp.objs.size] } = h4 at he4
  have t4 : h4.get? (hp.objs.size + 1) = some { cls := .type "tuple", data := .seq #[.int i tk, .ref hp.objs.size] } := by rw [← hh4, ← sz3]; exact Heap.get?_push_size _ rfl
  have s4 : h4.objs.size = hp.objs.size + 2 := by rw [← hh4, Heap.size_push, sz3]
  have k4 : ∀ c v, c ≠ e → h1.get? c = some v → h4.get? c = some v := fun c v ce q => by rw [← hh4]; exact Heap.get?_push_of_some _ (w3.extBut c v ce (w2.extBut c v ce q))
  show wpAny _ _ (Builtin.SmallTypes.ownedTupleIsFree (.ref e) >>= _) _ _ ⟨h4, g, d, tk + 1, os⟩
  rw [sz3]
  clear hh4
  refine wpAny_bind ?_; unfold Builtin.SmallTypes.ownedTupleIsFree
  refine wpAny_bind (wpAny_field he4 rfl (x := .none) rfl (wpAny_pure ?_)); simp only [if_true]
  refine wpAny_bind (wpAny_rule ?_); refine wpAny_bind (wpAny_field he4 rfl (x := old) rfl ?_); refine wpAny_bind (wpAny_setField_rec he4 (by simp) fun h5 he5 w5 => ?_)
  replace w5 : Heap.SameBut e h4 h5 := w5
  replace he5 : IsEnum h5 e z ((i : Int) + 1) (.ref hp.objs.size) := he5
  show wpAny _ _ (Builtin.SmallTypes.ownedTupleHandOut (.ref e) (.ref (hp.objs.size + 1)) >>= _) _ _ ⟨h5, g, d, tk + 1, os⟩
  refine wpAny_bind ?_; unfold Builtin.SmallTypes.ownedTupleHandOut
  refine wpAny_bind (wpAny_setField_rec he5 (by simp) fun h6 he6 w6 => ?_)
  replace w6 : Heap.SameBut e h5 h6 := w6
  replace he6 : IsEnumOut h6 e z ((i : Int) + 1) (.ref hp.objs.size) (hp.objs.size + 1) := he6
  refine wpAny_setField_rec he6 (by simp) fun h7 he7 w7 => ?_
  replace w7 : Heap.SameBut e h6 h7 := w7
  replace he7 : IsEnumOut h7 e z ((i : Int) + 1) (.ref hp.objs.size) (hp.objs.size + 1) := he7
  have k7 : ∀ c v, c ≠ e → h4.get? c = some v → h7.get? c = some v := fun c v ce q => w7.extBut c v ce (w6.extBut c v ce (w5.extBut c v ce q))
  have ne : ∀ c, c ∈ [z, TI, TO, i1, i2] → c ≠ e := fun c hc q => by
    subst q
    simp only [List.mem_cons, List.not_mem_nil, or_false] at hc
    rcases hc with h | h | h | h | h
    · exact ez h
    · exact eTI h
    · exact eTO h
    · exact e1 h
    · exact e2 h
  refine wpAny_bind (wpAny_letGo (wpAny_pure ⟨_, rfl, out h7 he7 ?_ ?_ ?_ ?_ ?_⟩))
  · exact st1.keep fun c hc v q => k7 c v (ne c hc) (k4 c v (ne c hc) q)
  · exact k7 _ _ (Nat.ne_of_gt elt) (k4 _ _ (Nat.ne_of_gt elt) pr)
  · exact k7 _ _ (Nat.ne_of_gt (Nat.lt_succ_of_lt elt)) t4
  · rw [w7.1, w6.1, w5.1, s4]
  · intro c v hc q
    simp only [List.mem_cons, List.not_mem_nil, or_false, not_or] at hc
    exact k7 c v hc.1 (k4 c v hc.1 (kp c v hc.2.1 hc.2.2.2.1 hc.2.2.2.2.1 hc.2.2.2.2.2 q))
end
end
end HW

namespace HW
open PySem PySem.Spec PyProof.Rows L2
open PySem.Sem (wp)
noncomputable section
section
variable {X : Cx} {pins : List (Addr × Obj)} {σ : L2.St} {H H2 : Hp} {s : Shared} {h' : Heap}
/-- iterators at ch turn, and some new objects are laid -/
theorem turnedMore {t' : Nat} {ch : List Addr} (I : Inv X pins σ H s) (k : ∀ b v, b ∉ ch → s.heap.get? b = some v → h'.get? b = some v) (hf : ∀ b ∈ ch, FpOk X pins H b) (sm : Same H H2) (old : ∀ b, b < s.heap.objs.size → H2 b = H b)
    (new : ∀ b u, H b = none → H2 b = some u → ObjOk X.prog X.w H2 h' b u) : Inv X pins σ H2 { s with heap := h', toks := t' } := by
  have off : ∀ b u, H b = some u → b ∉ ch := fun b u e z => by
    rw [(hf b z).1] at e
    cases e
  refine I.step (g' := s.gens) (d' := s.drawn) (ch := ch) (fun b zhb => ?_) (fun b v _ _ zhc e _ => k b v zhc e) (fun b v _ _ zhc e _ => ⟨v.slots, k b v zhc e⟩) (fun b v _ e n => ?_) (fun b v zhc e => ⟨v, k b v zhc e⟩) (fun b xs e => sm b _ e) (fun b o u e => sm b _ e) (fun b ps e => ⟨#[], ?_⟩) (fun m zhm => ?_) (fun b u e => ?_) I.bare
  · obtain ⟨q1, q2, q3, q4, q5, q6⟩ := hf b zhb
    exact ⟨q4, q2, q5, q6⟩
  · rw [old b (Heap.lt_size e)]
    exact n
  · rw [sm b _ e]
    simp
  · obtain ⟨o, es, ep, zho, r⟩ := zhm
    exact ⟨o, es, ep, k _ o (fun z => (hf _ z).2.1 rfl) zho, r⟩
  · cases zhb : H b with
    | none => exact new b u zhb e
    | some u0 =>
      have e2 := sm b _ zhb
      rw [e] at e2
      cases e2
      refine (I.hok b u zhb).stay (fun c v zhc q => k c v ?_ q) (fun c q => sm c _ q) fun c xs q => sm c _ q
      rcases zhc with z | z
      · rw [z]
        exact off b u zhb
      · exact off c _ z
end
section
variable {prog : Program} {w : World} {A : Around} {E : Value → Shared → Prop} {s : Shared} {e z TI TO i1 i2 l1 l2 : Addr} {i : Nat} {xs ys : Array Value} {x y old : Value}
theorem eq_next {Q : Option Value → Shared → Prop} (D : ZipApart z TI TO i1 i2 l1 l2) (ez : e ∉ [z, TI, TO, i1, i2]) (el : e ≠ l1 ∧ e ≠ l2) (he : IsEnum s.heap e z i old) (st : ZSt z TI TO i1 i2 l1 l2 i s.heap) (n1 : s.heap.IsList l1 xs) (n2 : s.heap.IsList l2 ys) (ex : xs[i]? = some x) (ey : ys[i]? = some y)
    (out : ∀ g, IsEnumOut g e z ((i : Int) + 1) (.ref s.heap.objs.size) (s.heap.objs.size + 1) → ZSt z TI TO i1 i2 l1 l2 (i + 1) g → IsPair g s.heap.objs.size x y → g.get? (s.heap.objs.size + 1) = some { cls := .type "tuple", data := .seq #[.int i s.toks, .ref s.heap.objs.size] } → g.objs.size = s.heap.objs.size + 2 →
      (∀ c v, c ∉ [e, z, TI, TO, i1, i2] → s.heap.get? c = some v → g.get? c = some v) → Q (some (.ref (s.heap.objs.size + 1))) { s with heap := g, toks := s.toks + 1 }) :
    wpAny (model prog w) A (pyNext (.ref e)) Q E s := by
  have ty : s.TypeIs (.ref e) "enumerate" := ⟨_, he, rfl⟩
  unfold pyNext
  exact wpAny_bind (wpAny_attempt (wpAny_callSpecial?_slot (name := Str.ofString "__next__") ty F.slot_enumerate_next (wpAny_call_entry F.slot_enumerate_next ty F.entry_enumerate_next (eq_item D ez el he st n1 n2 ex ey fun g q1 q2 q3 q4 q5 q6 => wpAny_pure (out g q1 q2 q3 q4 q5 q6)) (F.args_enumerate_next_1 _))))
theorem eq_stop {Q : Option Value → Shared → Prop} (hh : A.handled = none) (D : ZipApart z TI TO i1 i2 l1 l2) (he : IsEnum s.heap e z i old) (st : ZSt z TI TO i1 i2 l1 l2 i s.heap) (n1 : s.heap.IsList l1 xs) (n2 : s.heap.IsList l2 ys) (no : xs[i]? = none ∨ ys[i]? = none)
    (out : ∀ g, (∀ c v, c ≠ z → c ≠ TO → c ≠ i1 → c ≠ i2 → s.heap.get? c = some v → g.get? c = some v) → Q none { s with heap := g }) : wpAny (model prog w) A (pyNext (.ref e)) Q E s := by
  have ty : s.TypeIs (.ref e) "enumerate" := ⟨_, he, rfl⟩
  unfold pyNext
  refine wpAny_bind (wpAny_attempt (wpAny_callSpecial?_slot (name := Str.ofString "__next__") ty F.slot_enumerate_next (wpAny_call_entry F.slot_enumerate_next ty F.entry_enumerate_next ?_ (F.args_enumerate_next_1 _))))
  show wpAny _ _ (field (.ref e) 2 >>= _) _ _ s
  refine wpAny_bind (wpAny_field he rfl (x := .ref z) rfl ?_); refine wpAny_bind (zq_stop hh D st n1 n2 no fun g v kp hx => ?_)
  obtain ⟨o, ho, hc⟩ := hx
  exact wpAny_bind (wpAny_isInstance (T := "StopIteration") (b := true) ⟨o, ho, hc⟩ isSubtype_stop (wpAny_pure (out _ kp)))
end
/-- the lists at a and b, each two items in a new pair, each pair with its number in a new one -/
def IteZ (K : PySem.W.Frag) (a b : Addr) : It :=
  ⟨fun i H => ∃ (xs ys : List V) (x y : V), SqL K H a xs ∧ SqL K H b ys ∧ xs[i]? = some x ∧ ys[i]? = some y,
    fun i H v H' => ∃ T x y, v = .ref (T + 1) ∧ H T = none ∧ H (T + 1) = none ∧ H' = upd (upd H T (.tup [x, y])) (T + 1) (.tup [.int (i : Nat), .ref T]) ∧ (∀ xs, SqL K H a xs → xs[i]? = some x) ∧ ∀ ys, SqL K H b ys → ys[i]? = some y,
    fun i H => ∃ xs ys : List V, SqL K H a xs ∧ SqL K H b ys ∧ (xs.length ≤ i ∨ ys.length ≤ i)⟩
end
end HW

namespace HW
open PySem PySem.Spec PyProof.Rows L2
open PySem.Sem (wp)
noncomputable section
/-- what the loop over enumerate(zip(a, b)) stands on -/
def EZt (e z TI TO i1 i2 a b : Addr) (i : Nat) (h : Heap) : Prop := (∃ old, IsEnum h e z ((i : Nat) : Int) old) ∧ ZSt z TI TO i1 i2 a b i h
theorem turn_enumZ {P : Program} {w : World} {K : PySem.W.Frag} {elts : List Expr} {kk : Nat} {tpos : Pos} {e z TI TO i1 i2 a b : Addr} (D : ZipApart z TI TO i1 i2 a b) (ez : e ∉ [z, TI, TO, i1, i2]) (el : e ≠ a ∧ e ≠ b) :
    Turn P w K (.Tuple elts kk tpos) (IteZ K a b) [e, z, TI, TO, i1, i2] e (EZt e z TI TO i1 i2 a b) where
  mem := by simp
  obj := fun i h st c zhc => by
    obtain ⟨⟨old, zhe⟩, ⟨⟨u, f, o, _⟩, t, ⟨x, y, t2⟩, ⟨o1, e1, _, d1⟩, ⟨o2, e2, _, d2⟩⟩⟩ := st
    have e' : c = e ∨ c = z ∨ c = TI ∨ c = TO ∨ c = i1 ∨ c = i2 := by simpa using zhc
    rcases e' with rfl | rfl | rfl | rfl | rfl | rfl
    · exact ⟨_, zhe, fun v q => nomatch q⟩
    · exact ⟨_, o, fun v q => nomatch q⟩
    · exact ⟨_, t, fun v q => nomatch q⟩
    · exact ⟨_, t2, fun v q => nomatch q⟩
    · exact ⟨o1, e1, fun v q => by rw [d1] at q; cases q⟩
    · exact ⟨o2, e2, fun v q => by rw [d2] at q; cases q⟩
  keep := fun i h zh' st k => ⟨let ⟨old, zhe⟩ := st.1; ⟨old, k e (by simp) _ zhe⟩, st.2.keep fun c zhc o q => k c (List.mem_cons_of_mem _ zhc) o q⟩
  item := by
    intro X hP hw hK zhc i pins s σ H E I hf st hg
    subst hP hw hK
    obtain ⟨⟨old, zhe⟩, zhz⟩ := st
    obtain ⟨xs, ys, x, y, zhqx, zhqy, zhx, zhy⟩ := hg
    obtain ⟨its, rv, p, _⟩ := I.list zhqx
    obtain ⟨its2, rv2, p2, _⟩ := I.list zhqy
    obtain ⟨u, zhu, ru⟩ := rv.get zhx
    obtain ⟨u2, zhu2, ru2⟩ := rv2.get zhy
    have elt : e < s.heap.objs.size := Heap.lt_size zhe
    have lts : ∀ c ∈ [e, z, TI, TO, i1, i2], c < s.heap.objs.size := fun c zhc => by
      obtain ⟨⟨u, f, o, _⟩, t, ⟨x, y, t2⟩, ⟨o1, e1, _⟩, ⟨o2, e2, _⟩⟩ := zhz
      have e' : c = e ∨ c = z ∨ c = TI ∨ c = TO ∨ c = i1 ∨ c = i2 := by simpa using zhc
      rcases e' with rfl | rfl | rfl | rfl | rfl | rfl
      · exact elt
      · exact Heap.lt_size o
      · exact Heap.lt_size t
      · exact Heap.lt_size t2
      · exact Heap.lt_size e1
      · exact Heap.lt_size e2
    refine eq_next D ez el zhe zhz p.isList p2.isList (x := u) (y := u2) (by simpa using zhu) (by simpa using zhu2) fun g q1 q2 q3 q4 q5 q6 => ?_
    refine ⟨_, rfl, wpAny_letOwnedTupleGo_enum (s := { s with heap := g, toks := s.toks + 1 }) q1 fun g2 o2 w2 => ?_⟩
    have n0 : H s.heap.objs.size = none := I.hok.fresh (Nat.le_refl _)
    have n1 : H (s.heap.objs.size + 1) = none := I.hok.fresh (Nat.le_succ _)
    have ne01 : s.heap.objs.size ≠ s.heap.objs.size + 1 := Nat.ne_of_lt (Nat.lt_succ_self _)
    have n1' : upd H s.heap.objs.size (.tup [x, y]) (s.heap.objs.size + 1) = none := by rw [upd_ne (Ne.symm ne01)]; exact n1
    have g0 : g2.get? s.heap.objs.size = some { cls := .type "tuple", data := .seq #[u, u2] } := (w2.2 _ (Nat.ne_of_gt elt)).trans q3
    have g1 : g2.get? (s.heap.objs.size + 1) = some { cls := .type "tuple", data := .seq #[.int i s.toks, .ref s.heap.objs.size] } := (w2.2 _ (Nat.ne_of_gt (Nat.lt_succ_of_lt elt))).trans q4
    have I1 : Inv X pins σ (upd (upd H s.heap.objs.size (.tup [x, y])) (s.heap.objs.size + 1) (.tup [.int (i : Nat), .ref s.heap.objs.size])) { s with heap := g2, toks := s.toks + 1 } := by
      refine turnedMore (ch := [e, z, TI, TO, i1, i2]) I (fun c v zhc q => (w2.2 c (fun q' => zhc (by simp [q']))).trans (q6 c v zhc q)) hf ((same_upd n0).trans (same_upd n1')) (fun c zhc => ?_) fun c v zhn q => ?_
      · rw [upd_ne (Nat.ne_of_lt (Nat.lt_succ_of_lt zhc)), upd_ne (Nat.ne_of_lt zhc)]
      · by_cases c1 : c = s.heap.objs.size + 1
        · subst c1
          rw [upd_same] at q
          cases q
          exact ⟨by show 2 ≤ sizeLine; decide, [.int i s.toks, .ref s.heap.objs.size], .cons (show L2.RelV (.int (i : Nat)) (.int (i : Nat) s.toks) from ⟨s.toks, rfl⟩) (.cons (show L2.RelV (.ref s.heap.objs.size) (.ref s.heap.objs.size) from rfl) .nil), ⟨_, g1, rfl, _, rfl⟩⟩
        · rw [upd_ne c1] at q
          by_cases c0 : c = s.heap.objs.size
          · subst c0
            rw [upd_same] at q
            cases q
            exact ⟨by show 2 ≤ sizeLine; decide, [u, u2], .cons ru (.cons ru2 .nil), ⟨_, g0, rfl, _, rfl⟩⟩
          · rw [upd_ne c0, zhn] at q
            cases q
    refine ⟨.ref (s.heap.objs.size + 1), _, I1, rfl, ⟨s.heap.objs.size, x, y, rfl, n0, n1, rfl, fun l zhl => by rw [I.list_inj zhl zhqx]; exact zhx, fun l zhl => by rw [I.list_inj zhl zhqy]; exact zhy⟩, ⟨⟨.ref s.heap.objs.size, ?_⟩, q2.keep fun c zhc o q => (w2.2 c fun q' => ez (q' ▸ zhc)).trans q⟩, fun c zhc => ?_⟩
    · have e1 : ((i + 1 : Nat) : Int) = (i : Int) + 1 := by omega
      rw [e1]
      exact o2
    · have := lts c zhc
      rw [upd_ne (Nat.ne_of_lt (Nat.lt_succ_of_lt this)), upd_ne (Nat.ne_of_lt this)]
      exact (hf c zhc).1
  done := by
    intro X hP hw hK zhc i pins s σ H E I hf st hg
    subst hP hw hK
    obtain ⟨⟨old, zhe⟩, zhz⟩ := st
    obtain ⟨xs, ys, zhqx, zhqy, zhend⟩ := hg
    obtain ⟨its, rv, p, _⟩ := I.list zhqx
    obtain ⟨its2, rv2, p2, _⟩ := I.list zhqy
    have l1 := rv.length
    have l2 := rv2.length
    have no : its.toArray[i]? = none ∨ its2.toArray[i]? = none := by
      rcases zhend with q | q
      · exact .inl (by simp; omega)
      · exact .inr (by simp; omega)
    exact eq_stop (I.ok.hd zhc) D zhe zhz p.isList p2.isList no fun g k => ⟨rfl, I.turnedL (t' := s.toks) (ch := [e, z, TI, TO, i1, i2]) (fun c o zhb q => k c o (fun q' => zhb (by simp [q'])) (fun q' => zhb (by simp [q'])) (fun q' => zhb (by simp [q'])) (fun q' => zhb (by simp [q'])) q) hf⟩
  self := fun A i s Q E st h => let ⟨⟨_, zhe⟩, _⟩ := st; wpAny_pyIter_enum zhe h
theorem walk_enumZ {K : PySem.W.Frag} {F : Hp} {ad bd : Addr} {vs us : List V} {ps qs : List P} (h : LK K F ad vs) (d : DPs K F vs ps) (h' : LK K F bd us) (d' : DPs K F us qs) : WalkD K F (IteZ K ad bd) (enumL 0 (zipL ps qs)) := fun i F1 H s1 s2 => by
  have hq : SqL K H ad vs := ((h.mono s1).mono s2).seq
  have hq' : SqL K H bd us := ((h'.mono s1).mono s2).seq
  refine ⟨fun p hp => ?_, fun hl => ⟨vs, us, hq, hq', by rw [DPs.length d, DPs.length d']; rw [enumL_len, zipL_len] at hl; omega⟩⟩
  obtain ⟨r0, hr, rfl⟩ := enumL_get hp
  obtain ⟨p0, q0, h0, h1, rfl⟩ := zipL_get hr
  obtain ⟨v, hv, dv⟩ := DPs.get d h0
  obtain ⟨u, hu, du⟩ := DPs.get d' h1
  refine ⟨⟨vs, us, v, u, hq, hq', hv, hu⟩, fun x H' y => ?_⟩
  obtain ⟨T, x0, y0, rfl, hT, hT1, rfl, y1, y2⟩ := y
  have e : x0 = v := Option.some.inj ((y1 vs hq).symm.trans hv)
  subst e
  have e : y0 = u := Option.some.inj ((y2 us hq').symm.trans hu)
  subst e
  have F0 : F1 T = none := s2.free hT
  have ne : T + 1 ≠ T := Nat.succ_ne_self T
  have sA : Stp K F1 H (upd F1 T (.tup [x0, y0])) (upd H T (.tup [x0, y0])) := Stp.laid s2 hT
  have hn : upd H T (.tup [x0, y0]) (T + 1) = none := by rw [upd_ne ne]; exact hT1
  have fn : upd F1 T (.tup [x0, y0]) (T + 1) = none := by rw [upd_ne ne]; exact s2.free hT1
  have sm : Same (upd F1 T (.tup [x0, y0])) (upd H T (.tup [x0, y0])) := fun c o q => by
    by_cases hc : c = T
    · subst hc
      rw [upd_same] at q ⊢
      exact q
    · rw [upd_ne hc] at q ⊢
      exact s2 c o q
  have sB : Stp K (upd F1 T (.tup [x0, y0])) (upd H T (.tup [x0, y0])) (upd (upd F1 T (.tup [x0, y0])) (T + 1) (.tup [.int (i : Nat), .ref T])) (upd (upd H T (.tup [x0, y0])) (T + 1) (.tup [.int (i : Nat), .ref T])) := Stp.laid sm hn
  have dp : DP K (upd F1 T (.tup [x0, y0])) (.ref T) (.tuple [p0, q0]) := laid_tup (σ := []) (H := H) (ρ := []) (.cons (DP.mono dv s1) (.cons (DP.mono du s1) .nil)) F0
  refine ⟨_, ⟨sA.1.trans sB.1, sA.2.1.trans sB.2.1, fun cm W σ ρ r => sB.2.2 cm W σ ρ (sA.2.2 cm W σ ρ r)⟩, ?_⟩
  rw [Nat.zero_add]
  exact laid_tup (σ := []) (H := H) (ρ := []) (.cons (.int _) (.cons dp .nil)) fn
end
end HW

namespace HW
open PySem PySem.Spec PyProof.Rows L2
open PySem.Sem (wp)
noncomputable section
theorem meets_enumZ (z TI TO : Addr) :
    Meets (Builtin.«enumerate.__new__» ⟨[.type "enumerate", .ref z], []⟩) (fun _ R s => IsZip s.heap z TI TO .none ∧ R (.ok (.ret (.ref s.heap.objs.size))) { s with heap := s.heap.push { cls := .type "enumerate", data := .fields #[.none, .bool false, .ref z, rawInt 0, .none, .none] } }) :=
  .of_wp fun prog w A R s h => by
    obtain ⟨hp, g, d, tk, os⟩ := s
    obtain ⟨hz, h⟩ := h
    have sb := PySem.sub_enumerate
    have q1 : ∀ {A' : Around} {E : Value → Shared → Prop} {Q : Value → Shared → Prop}, Q (.ref z) ⟨hp, g, d, tk, os⟩ → wpAny (model prog w) A' (pyIter (.ref z)) Q E ⟨hp, g, d, tk, os⟩ := fun q => wpAny_pyIter_zip (show IsZip (Shared.heap ⟨hp, g, d, tk, os⟩) z TI TO .none from hz) q
    wp_walk
    refine wpAny_stack_any fun st => wpAny_pure ?_
    split
    · rename_i c _ _ _ _ _
      cases (c == Value.type "enumerate") <;> (wp_walk using q1; exact ⟨_, rfl, h⟩)
    · wp_walk using q1
      exact ⟨_, rfl, h⟩
section
variable {prog : Program} {w : World} {A : Around} {E : Value → Shared → Prop} {s : Shared}
theorem call_enumZ {z TI TO : Addr} {Q : Value → Shared → Prop} (hz : IsZip s.heap z TI TO .none)
    (h : ∀ g, IsEnum g s.heap.objs.size z 0 .none → g.objs.size = s.heap.objs.size + 1 → (∀ b o, s.heap.get? b = some o → g.get? b = some o) → Q (.ref s.heap.objs.size) { s with heap := g }) :
    wpAny (model prog w) A (call (.type "enumerate") [.ref z]) Q E s := by
  refine callType_new F.called_enumerate (by decide) (F.typeCall_enumerate_1 _) (F.newCall_enumerate_1 _) (fun ob => F.args_object_init_2 ob _) F.entry_enumerate_new (meets_enumZ z TI TO) ⟨hz, ?_⟩
  have he : IsEnum (s.heap.push { cls := .type "enumerate", data := .fields #[.none, .bool false, .ref z, rawInt 0, .none, .none] }) s.heap.objs.size z 0 .none := Heap.get?_push_size _ rfl
  exact ⟨⟨_, he, rfl⟩, h _ he (Heap.size_push ..) fun b o x => Heap.get?_push_of_some _ x⟩
end
theorem i_enumZ {X : Cx} {cm : Str → Addr → Prop} {b : Bool} {a c : Expr} {pos p q p2 tpos : Pos} {elts : List Expr} {kk : Nat} {f : EL} (hm : MgN X "enumerate") (hm2 : MgN X "zip") (ha : PA X [a, c] (tA X.K cm b f)) (hg : Gl X "enumerate" := by rfl) (hg2 : Gl X "zip" := by rfl)
    (hs : starEach [a, c] X.env = (false, eval a X.env) :: starEach [c] X.env := by rfl) (hpl : (backTo q (starEach [c] X.env)).any (·.1) = false := by rfl)
    (hz : starEach [.Call (.Name "zip" p2) [a, c] [] q] X.env = (false, eval (.Call (.Name "zip" p2) [a, c] [] q) X.env) :: starEach [] X.env := by rfl) :
    PI X (.Tuple elts kk tpos) (.Call (.Name "enumerate" p) [.Call (.Name "zip" p2) [a, c] [] q] [] pos) (tI X.K cm b (dItA enumZP f)) := by
  refine ⟨fun pins s σ H Rk I ⟨W, F, ρ, ps, ρ', r, e, k⟩ => ?_⟩
  simp only [dItA, Option.bind_eq_some_iff, Option.map_eq_some_iff] at e
  obtain ⟨⟨p1, ρ1⟩, e1, ys, e2, e3⟩ := e
  cases e3
  refine Call_ (ld_blt I hg hm boot_enumerate (PyProof.Rows.callWith_type1 ?_ hz rfl))
  rw [hz]
  show wpAny _ _ (spliced ((false, eval (.Call (.Name "zip" p2) [a, c] [] q) X.env) :: backTo pos (starEach [] X.env))) _ _ s
  refine Calls.spliced_cons (Call_ (ld_blt I hg2 hm2 PyProof.Rows.boot_zip (PyProof.Rows.callWith_type1 (thn (ha.run q pins s σ H (fun vs H' => ∃ F', R X.K cm W σ H' F' ρ1 ∧ Same F F' ∧ Pu b ρ ρ1 H H' ∧ DPs X.K F' vs p1) I ⟨W, F, ρ, p1, ρ1, r, e1, fun vs H1 F1 r1 s1 u1 d1 => ⟨F1, r1, s1, u1, d1⟩⟩) fun us s1 ⟨vs, H1, I1, rx, F1, r1, ss1, u1, d1⟩ => ?_) hs hpl)))
  have e2 : enumZP p1 = some _ := e2
  unfold enumZP at e2
  split at e2
  · cases e2
    cases d1 with
    | cons d1 d2 =>
    cases d2 with
    | cons d2 d3 =>
    cases d3
    cases d1 with
    | lst h1 h2 =>
    cases d2 with
    | lst h3 h4 =>
    cases rx with
    | cons ra rr =>
    cases rr with
    | cons rb rr =>
    cases rr
    cases ra
    cases rb
    obtain ⟨its, rv, pl, _⟩ := I1.list ((LK.mono h1 r1.fh).seq)
    obtain ⟨its2, rv2, pl2, _⟩ := I1.list ((LK.mono h3 r1.fh).seq)
    refine call_zip_2 pl.isList pl2.isList fun g zo zi zt zm1 zm2 zs zk => Calls.spliced_nil ?_
    refine call_enumZ (s := { s1 with heap := g }) zo fun g2 eo es ek => wpAny_pyIter_enum eo ?_
    replace es : g2.objs.size = g.objs.size + 1 := es
    have I2 : Inv X pins σ H1 { s1 with heap := g2 } := I1.kept (t' := s1.toks) fun c o q => ek c o (zk c o q)
    have ge : g.objs.size = s1.heap.objs.size + 5 := zs
    have D := PySem.W.ktu_apart s1.heap.objs.size _ _ pl.lt pl2.lt
    have la := pl.lt
    have lb := pl2.lt
    refine ⟨g.objs.size, [g.objs.size, s1.heap.objs.size + 4, s1.heap.objs.size + 2, s1.heap.objs.size + 3, s1.heap.objs.size, s1.heap.objs.size + 1], _, _, H1, rfl, I2, turn_enumZ D ?_ ?_, ⟨⟨.none, eo⟩, ⟨⟨.none, false, ek _ _ zo, .inl rfl⟩, ek _ _ zi, ⟨_, _, ek _ _ zt⟩, zm1.at fun o q => ek _ o q, zm2.at fun o q => ek _ o q⟩⟩, fun c hc => ?_, k _ H1 F1 r1 ss1 u1 (walk_enumZ h1 h2 h3 h4)⟩
    · rw [ge]
      simp only [List.mem_cons, List.not_mem_nil, or_false, not_or]
      refine ⟨?_, ?_, ?_, ?_, ?_⟩ <;> exact fun q => by have : (_ : Nat) = _ := q; omega
    · rw [ge]
      exact ⟨Nat.ne_of_gt (Nat.lt_of_lt_of_le la (Nat.le_add_right _ _)), Nat.ne_of_gt (Nat.lt_of_lt_of_le lb (Nat.le_add_right _ _))⟩
    · have hle : s1.heap.objs.size ≤ c := by
        rw [ge] at hc
        have hc' : c = s1.heap.objs.size + 5 ∨ c = s1.heap.objs.size + 4 ∨ c = s1.heap.objs.size + 2 ∨ c = s1.heap.objs.size + 3 ∨ c = s1.heap.objs.size ∨ c = s1.heap.objs.size + 1 := by simpa using hc
        rcases hc' with z | z | z | z | z | z <;> rw [z] <;> first | exact Nat.le_refl _ | exact Nat.le_add_right _ _
      exact I1.fpOk hle (I1.hok.fresh hle)
  · cases e2
end
end HW

namespace HW
open PySem PySem.Spec PyProof.Rows L2
noncomputable section
/-! ### the law's own head -/
theorem dps_ints {K : PySem.W.Frag} {F : Hp} : ∀ ns : List Int, DPs K F (ns.map V.int) (intsL ns)
  | [] => .nil
  | n :: ns => .cons (.int n) (dps_ints ns)
/-- what the law says at every list of ints is what is promised of the law's def -/
theorem walk_law {l : PySem.W.OpenLaw} {n k : Nat} {q : Program} {loose : List Str} {XP : (Str → Option Value) → Heap → Prop} {YP : World → Heap → Prop} {d : DefRec} {K : Params → PySem.W.Frag} {x : Str} (g : List P → Option P) (cm : Str → Addr → Prop)
    (law : ∀ ns : List Int, ns.length ≤ n → g [.list (intsL ns)] = some (.bool true)) (hn : l.most = some n) (hn2 : n ≤ sizeLine) (hdf : d.params.defaults = []) (hr : Room k callerA) (hY : ∀ (w : World) (h : Heap), YP w h → (K w.params).In h)
    (F : ∀ (w : World) (mg : Str → Option Value) (fa : Addr) (h : Heap), (K w.params).In h → h.Ns mainGlobals mg → mg d.name = some (.ref fa) →
      ∃ fd : FuncData, (∀ (s : Shared) (u : Value), BindsTo s fd ⟨[u], []⟩ [(x, u)]) ∧ ∀ base : Heap, (K w.params).In base → base.Ns mainGlobals mg → FnOk l.prog w (K w.params) mg base L2.CX0 k fa fd [x] (spQ (K w.params) cm 1 g)) :
    PySem.W.WalkO q loose XP YP l.row.toRowW d [] (fun f vs => PySem.call f vs) := by
  refine Att.attach_call hn hdf fun w s0 s1 mg mb fa o pm cd doc a vs ns gr yp ho hd hcd hm hob hin hlen hg => ?_
  have kx := hY w _ yp
  obtain ⟨fd, hb, hF⟩ := F w mg fa _ kx gr.T.g hm
  refine law_call kx gr.T.g gr.T.b gr.T.builtins gr.T.nolimit hg hob hin (Nat.le_trans hlen hn2) hr hF hb (fun H _ hS => ⟨rfl, H, [.list (intsL ns)], .bool true, Same.refl H, .cons (.lst ?_ (dps_ints ns)) .nil, law ns hlen, fun v H' F' r _ => ?_⟩) fun H e s' h => h
  · rcases hS with hS | ⟨o', its, m, hk, hc, hdc, hs, hz, rv⟩
    · exact .inl hS
    · have e := kx a o' hk
      rw [hob] at e
      cases e
      have hs' : Data.seq vs.toArray 0 = Data.seq its m := hs
      cases hs'
      exact .inr ⟨_, _, hk, hz, rv⟩
  · obtain ⟨v', e, dp⟩ := r.get (i := 0) rfl
    cases e
    cases dp
    rfl
end
end HW

namespace HW
open PySem PySem.Spec PyProof.Rows L2
noncomputable section
def runs_of_b1 : SF := (dIfS (dCmp eqP (dV 3) (dC (.int 1))) (dIfS (dAnd (dPkT 1 (dTru (dV 1))) (dCmp eqP (dBin idxP (dGetA 1 (dUn negP (dC (.int 1)))) (dC (.int 1))) (dV 2))) (dSetI 1 (dTup [(dBin idxP (dGetA 1 (dUn negP (dC (.int 1)))) (dC (.int 0))), (dBin addP (dV 2) (dC (.int 1)))]) (dUn negP (dC (.int 1)))) (dApp 1 (dPd (dTup [(dV 2), (dBin addP (dV 2) (dC (.int 1)))])))) dNx)
def runs_of_d : SF := (dSeq (dSet 1 (dOl (dArgs [])))
  (dSeq (dFor (dItA enumAP (dArgs [(dV 0)])) (.tcons (.nm 2) (.tcons (.nm 3) .tnil)) runs_of_b1)
  (dFz 1 (dRet (dPd (dV 1))))))
def runs_of_s : List P → Option P := runQ 1 4 runs_of_d
def ticks_of_d : SF := (dRet (dPd (dLst (dComp (dItA rng1P (dArgs [(dV 1)])) [2] (.nm 2) dYes (dIf (dTru (dCall anyP (dArgs [(dLst (dComp (dIt (dV 0)) [3, 4] (.tcons (.nm 3) (.tcons (.nm 4) .tnil)) dYes (dB (dChn leP ltP (dV 3) (dV 2) (dV 4)))))]))) (dC (.int 1)) (dC (.int 0)))))))
def ticks_of_s : List P → Option P := runQ 2 5 ticks_of_d
def put_together_b1 : SF := (dSeq (dSet 7 (dPd (dTup [(dCall anyP (dArgs [(dLst (dComp (dIt (dV 0)) [10, 11] (.tcons (.nm 10) (.tcons (.nm 11) .tnil)) dYes (dB (dChn leP ltP (dV 10) (dV 5) (dV 11)))))])), (dCall anyP (dArgs [(dLst (dComp (dIt (dV 1)) [10, 11] (.tcons (.nm 10) (.tcons (.nm 11) .tnil)) dYes (dB (dChn leP ltP (dV 10) (dV 5) (dV 11)))))]))])))
  (dIfS (dAnd (dCmp inP (dV 7) (dV 2)) (dCmp neP (dV 7) (dTup [(dC (.bool false)), (dC (.bool false))]))) (dIfS (dAnd (dPkT 4 (dTru (dV 4))) (dCmp eqP (dBin idxP (dGetA 4 (dUn negP (dC (.int 1)))) (dC (.int 1))) (dV 5))) (dSetI 4 (dTup [(dBin idxP (dGetA 4 (dUn negP (dC (.int 1)))) (dC (.int 0))), (dV 6)]) (dUn negP (dC (.int 1)))) (dApp 4 (dPd (dTup [(dV 5), (dV 6)])))) dNx))
def put_together_d : SF := (dSeq (dSet 3 (dPd (dLst (dCallL ssetP (dArgs [(dLst (dComp2 (dIt (dBin addP (dLst (dCallL listP (dArgs [(dV 0)]))) (dLst (dCallL listP (dArgs [(dV 1)]))))) [8, 9] [9] (.nm 8) (dIt (dV 8)) (.nm 9) (dV 9)))])))))
  (dSeq (dSet 4 (dOl (dArgs [])))
  (dSeq (dFor (dItA zipP (dArgs [(dV 3), (dSlA (dV 3) (dSo (dC (.int 1))) dNo)])) (.tcons (.nm 5) (.tcons (.nm 6) .tnil)) put_together_b1)
  (dFz 4 (dRet (dPd (dV 4)))))))
def put_together_s : List P → Option P := runQ 3 12 put_together_d
def turned1_b1 : SF := (dSeq (dSet 6 (dPd (dBin modP (dBin addP (dV 4) (dV 1)) (dV 2))))
  (dSeq (dSet 7 (dPd (dBin subP (dBin addP (dV 6) (dV 5)) (dV 4))))
  (dSeq (dApp 3 (dPd (dTup [(dV 6), (dCall min2P (dArgs [(dV 7), (dV 2)]))])))
  (dIfS (dCmp gtP (dV 7) (dV 2)) (dApp 3 (dPd (dTup [(dC (.int 0)), (dBin subP (dV 7) (dV 2))]))) dNx))))
def turned1_d : SF := (dSeq (dSet 3 (dOl (dArgs [])))
  (dSeq (dFor (dIt (dV 0)) (.tcons (.nm 4) (.tcons (.nm 5) .tnil)) turned1_b1)
  (dFz 3 (dRet (dPd (dCallN 3 put_together_s (dArgs [(dV 3), (dLst (dArgs [])), (dLst (dArgs [(dTup [(dC (.bool true)), (dC (.bool false))])]))])))))))
def turned1_s : List P → Option P := runQ 3 8 turned1_d
def alike_b1 : SF := (dIfS (dCmp eqP (dCallN 3 turned1_s (dArgs [(dV 0), (dV 3), (dV 2)])) (dCallN 3 turned1_s (dArgs [(dV 1), (dC (.int 0)), (dV 2)]))) (dRet (dPd (dV 3))) dNx)
def alike_d : SF := (dSeq (dFor (dItA rng1P (dArgs [(dV 2)])) (.nm 3) alike_b1)
  (dRet (dPd (dC .none))))
def alike_s : List P → Option P := runQ 3 4 alike_d
def least_round_d : SF := (dSeq (dSet 2 (dPd (dCallN 3 turned1_s (dArgs [(dV 0), (dC (.int 0)), (dV 1)]))))
  (dRet (dPd (dBin idxP (dLst (dComp (dItA rng2P (dArgs [(dC (.int 1)), (dBin addP (dV 1) (dC (.int 1)))])) [3] (.nm 3) (dAnd (dCmp eqP (dBin modP (dV 1) (dV 3)) (dC (.int 0))) (dCmp eqP (dCallN 3 turned1_s (dArgs [(dV 0), (dV 3), (dV 1)])) (dV 2))) (dV 3))) (dC (.int 0))))))
def least_round_s : List P → Option P := runQ 2 4 least_round_d
def cost_of_d : SF := (dSeq (dIfS (dCmp eqP (dV 0) (dC (.str "ticks"))) (dRet (dPd (dBin addP (dC (.int 1)) (dBin fdivP (dBin addP (dV 3) (dC (.int 7))) (dC (.int 8)))))) dNx)
  (dSeq (dIfS (dCmp eqP (dV 0) (dC (.str "runs"))) (dRet (dPd (dBin addP (dC (.int 1)) (dBin mulP (dC (.int 2)) (dCall lenP (dArgs [(dV 1)])))))) dNx)
  (dSeq (dIfS (dIsN (dV 2)) (dRet (dPd (dC .none))) dNx)
  (dSeq (dIfS (dCmp eqP (dV 0) (dC (.str "turn"))) (dRet (dPd (dIf (dNot (dIsN (dCallN 3 alike_s (dArgs [(dV 2), (dV 1), (dV 3)])))) (dC (.int 2)) (dC .none)))) dNx)
  (dRet (dPd (dBin addP (dC (.int 1)) (dBin mulP (dC (.int 2)) (dCall lenP (dArgs [(dCallN 3 put_together_s (dArgs [(dV 1), (dV 2), (dLst (dArgs [(dTup [(dC (.bool true)), (dC (.bool false))]), (dTup [(dC (.bool false)), (dC (.bool true))])]))]))]))))))))))
def cost_of_s : List P → Option P := runQ 4 4 cost_of_d
def coded_b1 : SF := (dSeq (dSet 9 (dPd (dCallN 4 cost_of_s (dArgs [(dV 8), (dV 5), (dV 4), (dV 1)]))))
  (dIfS (dNot (dIsN (dV 9))) (dApp 6 (dPd (dTup [(dV 9), (dV 7), (dV 8)]))) dNx))
def coded_b2 : SF := (dSeq (dSet 6 (dOl (dArgs [])))
  (dSeq (dFor (dItA enumAP (dArgs [(dTup [(dC (.str "ticks")), (dC (.str "runs")), (dC (.str "change")), (dC (.str "turn"))])])) (.tcons (.nm 7) (.tcons (.nm 8) .tnil)) coded_b1)
  (dSeq (dFz 6 (dApp 2 (dPd (dBin idxP (dCall minP (dArgs [(dV 6)])) (dC (.int 2))))))
  (dSeq (dFz 6 (dSet 3 (dPd (dBin addP (dV 3) (dBin idxP (dCall minP (dArgs [(dV 6)])) (dC (.int 0)))))))
  (dSet 4 (dPd (dV 5)))))))
def coded_d : SF := (dSeq (dSet 2 (dOl (dArgs [])))
  (dSeq (dSet 3 (dPd (dC (.int 0))))
  (dSeq (dSet 4 (dPd (dC .none)))
  (dSeq (dFor (dIt (dV 0)) (.nm 5) coded_b2)
  (dFz 2 (dRet (dPd (dTup [(dV 2), (dV 3)]))))))))
def coded_s : List P → Option P := runQ 2 10 coded_d
def told_by_b1 : SF := (dSeq (dIfS (dIsN (dCallN 4 cost_of_s (dArgs [(dV 7), (dV 6), (dV 4), (dV 1)]))) (dRet (dPd (dV 5))) dNx)
  (dSeq (dIfS (dCmp eqP (dV 7) (dC (.str "ticks"))) (dApp 3 (dPd (dTup [(dV 7), (dCallN 2 ticks_of_s (dArgs [(dV 6), (dV 1)]))]))) (dIfS (dCmp eqP (dV 7) (dC (.str "runs"))) (dApp 3 (dPd (dTup [(dV 7), (dLst (dCallL listP (dArgs [(dV 6)])))]))) (dIfS (dCmp eqP (dV 7) (dC (.str "turn"))) (dApp 3 (dPd (dTup [(dV 7), (dCallN 3 alike_s (dArgs [(dV 4), (dV 6), (dV 1)]))]))) (dApp 3 (dPd (dTup [(dV 7), (dCallN 3 put_together_s (dArgs [(dV 6), (dV 4), (dLst (dArgs [(dTup [(dC (.bool true)), (dC (.bool false))]), (dTup [(dC (.bool false)), (dC (.bool true))])]))]))]))))))
  (dSet 4 (dPd (dV 6)))))
def told_by_d : SF := (dSeq (dSet 3 (dOl (dArgs [])))
  (dSeq (dSet 4 (dPd (dC .none)))
  (dSeq (dFor (dItA enumZP (dArgs [(dV 0), (dV 2)])) (.tcons (.nm 5) (.tcons (.tcons (.nm 6) (.tcons (.nm 7) .tnil)) .tnil)) told_by_b1)
  (dFz 3 (dRet (dPd (dV 3)))))))
def told_by_s : List P → Option P := runQ 3 8 told_by_d
def read_back_b1 : SF := (dIfS (dCmp eqP (dV 4) (dC (.str "ticks"))) (dApp 2 (dPd (dCallN 1 runs_of_s (dArgs [(dV 5)])))) (dIfS (dCmp eqP (dV 4) (dC (.str "runs"))) (dApp 2 (dPd (dLst (dCallL listP (dArgs [(dV 5)]))))) (dIfS (dOr (dCmp ninP (dV 4) (dTup [(dC (.str "change")), (dC (.str "turn"))])) (dNot (dPkT 2 (dTru (dV 2))))) (dRet (dPd (dV 3))) (dIfS (dCmp eqP (dV 4) (dC (.str "turn"))) (dApp 2 (dPd (dCallN 3 turned1_s (dArgs [(dGetA 2 (dUn negP (dC (.int 1)))), (dV 5), (dV 1)])))) (dApp 2 (dPd (dCallN 3 put_together_s (dArgs [(dGetA 2 (dUn negP (dC (.int 1)))), (dV 5), (dLst (dArgs [(dTup [(dC (.bool true)), (dC (.bool false))]), (dTup [(dC (.bool false)), (dC (.bool true))])]))]))))))))
def read_back_d : SF := (dSeq (dSet 2 (dOl (dArgs [])))
  (dSeq (dFor (dItA enumAP (dArgs [(dV 0)])) (.tcons (.nm 3) (.tcons (.tcons (.nm 4) (.tcons (.nm 5) .tnil)) .tnil)) read_back_b1)
  (dFz 2 (dRet (dPd (dV 2))))))
def read_back_s : List P → Option P := runQ 2 6 read_back_d
def changes_d : SF := (dRet (dPd (dBin mulP (dC (.int 2)) (dCall lenP (dArgs [(dCallN 3 put_together_s (dArgs [(dV 0), (dV 1), (dLst (dArgs [(dTup [(dC (.bool true)), (dC (.bool false))]), (dTup [(dC (.bool false)), (dC (.bool true))])]))]))])))))
def changes_s : List P → Option P := runQ 2 2 changes_d
def order_cost_b1 : SF := (dSeq (dSet 2 (dPd (dBin addP (dV 2) (dCallN 2 changes_s (dArgs [(dV 3), (dBin idxP (dV 0) (dV 4))])))))
  (dSet 3 (dPd (dBin idxP (dV 0) (dV 4)))))
def order_cost_d : SF := (dSeq (dSet 2 (dPd (dC (.int 0))))
  (dSeq (dSet 3 (dPd (dLst (dArgs []))))
  (dSeq (dFor (dIt (dV 1)) (.nm 4) order_cost_b1)
  (dRet (dPd (dV 2))))))
def order_cost_s : List P → Option P := runQ 2 5 order_cost_d
def at_d : SF := (dRet (dPd (dBin idxP (dV 0) (dBin modP (dV 1) (dCall lenP (dArgs [(dV 0)]))))))
def at_s : List P → Option P := runQ 2 2 at_d
def least_turn_b1 : SF := (dIfS (dAnd (dCmp eqP (dBin modP (dCall lenP (dArgs [(dV 0)])) (dV 1)) (dC (.int 0))) (dCmp eqP (dBin mulP (dSlA (dV 0) dNo (dSo (dV 1))) (dBin fdivP (dCall lenP (dArgs [(dV 0)])) (dV 1))) (dV 0))) (dRet (dPd (dSlA (dV 0) dNo (dSo (dV 1))))) dNx)
def least_turn_d : SF := (dSeq (dFor (dItA rng2P (dArgs [(dC (.int 1)), (dBin addP (dCall lenP (dArgs [(dV 0)])) (dC (.int 1)))])) (.nm 1) least_turn_b1)
  (dRet (dPd (dLst (dCallL listP (dArgs [(dV 0)]))))))
def least_turn_s : List P → Option P := runQ 1 2 least_turn_d
def turned2_d : SF := (dSeq (dSet 2 (dPd (dBin modP (dV 1) (dCall lenP (dArgs [(dV 0)])))))
  (dRet (dPd (dBin addP (dSlA (dV 0) (dSo (dV 2)) dNo) (dSlA (dV 0) dNo (dSo (dV 2)))))))
def turned2_s : List P → Option P := runQ 2 3 turned2_d
def same_but_for_begin_b1 : SF := (dIfS (dCmp eqP (dCallN 2 turned2_s (dArgs [(dV 2), (dV 4)])) (dV 3)) (dRet (dPd (dV 4))) dNx)
def same_but_for_begin_d : SF := (dSeq (dPar 2 3 (dArgs [(dCallN 1 least_turn_s (dArgs [(dV 0)])), (dCallN 1 least_turn_s (dArgs [(dV 1)]))]))
  (dSeq (dIfS (dCmp neP (dCall lenP (dArgs [(dV 2)])) (dCall lenP (dArgs [(dV 3)]))) (dRet (dPd (dC .none))) dNx)
  (dSeq (dFor (dItA rng1P (dArgs [(dCall lenP (dArgs [(dV 2)]))])) (.nm 4) same_but_for_begin_b1)
  (dRet (dPd (dC .none))))))
def same_but_for_begin_s : List P → Option P := runQ 2 5 same_but_for_begin_d
def starts_of_b1 : SF := (dExt 1 (dComp (dItA rng1P (dArgs [(dCall lenP (dArgs [(dCallN 1 least_turn_s (dArgs [(dV 3)]))]))])) [4] (.nm 4) dYes (dTup [(dV 2), (dV 4)])))
def starts_of_d : SF := (dSeq (dSet 1 (dOl (dArgs [])))
  (dSeq (dFor (dItA enumAP (dArgs [(dV 0)])) (.tcons (.nm 2) (.tcons (.nm 3) .tnil)) starts_of_b1)
  (dFz 1 (dRet (dPd (dV 1))))))
def starts_of_s : List P → Option P := runQ 1 5 starts_of_d
def bar_of_b1 : SF := (dIfS (dAnd (dNot (dIsN (dV 4))) (dCmp neP (dCallN 2 at_s (dArgs [(dV 0), (dBin addP (dV 1) (dV 3))])) (dV 4))) (dRet (dPd (dV 3))) dNx)
def bar_of_d : SF := (dSeq (dFor (dItA enumAP (dArgs [(dV 2)])) (.tcons (.nm 3) (.tcons (.nm 4) .tnil)) bar_of_b1)
  (dRet (dPd (dC .none))))
def bar_of_s : List P → Option P := runQ 3 5 bar_of_d
def fitting_b1 : SF := (dSeq (dSet 6 (dPd (dCallN 3 bar_of_s (dArgs [(dBin idxP (dV 0) (dV 4)), (dV 5), (dV 1)]))))
  (dIfS (dIsN (dV 6)) (dApp 2 (dPd (dTup [(dV 4), (dV 5)]))) (dApp 3 (dPd (dTup [(dV 4), (dV 5), (dV 6)])))))
def fitting_d : SF := (dSeq (dSet 2 (dOl (dArgs [])))
  (dSeq (dSet 3 (dOl (dArgs [])))
  (dSeq (dFor (dIt (dCallN 1 starts_of_s (dArgs [(dV 0)]))) (.tcons (.nm 4) (.tcons (.nm 5) .tnil)) fitting_b1)
  (dFz 3 (dFz 2 (dRet (dPd (dTup [(dV 2), (dV 3)]))))))))
def fitting_s : List P → Option P := runQ 2 7 fitting_d
def _law_state_d : SF := (dSeq (dSet 1 (dOl (dComp (dIt (dSlA (dV 0) dNo (dSo (dC (.int 63))))) [2] (.nm 2) dYes (dCall absP (dArgs [(dV 2)])))))
  (dSeq (dIfS (dCmp eqP (dPk 1 (dCall lenP (dArgs [(dV 1)]))) (dC (.int 0))) (dSet 1 (dOl (dArgs [(dC (.int 0))]))) dNx)
  (dRet (dLst2 (dC (.int 0)) 1))))
def _law_state_s : List P → Option D := runP 3 _law_state_d
abbrev _law_take_s : D → List P → Option (D × D) := takeS
def law_b1 : SF := (dSeq (dTgt (.tcons (.nm 5) (.tcons (.nm 6) .tnil)) (dTup [(dFr (dFnM 1 1 _law_take_s (dArgs [(dC (.int 3))]))), (dGetA 3 (dFr (dFnM 1 1 _law_take_s (dArgs [(dPk 3 (dCall lenP (dArgs [(dV 3)])))]))))]))
  (dSeq (dIfS (dCmp eqP (dV 5) (dC (.int 0))) (dSet 6 (dPd (dLst (dComp (dItA rng1P (dArgs [(dV 2)])) [4] (.nm 4) dYes (dFr (dFnM 1 1 _law_take_s (dArgs [(dC (.int 2))]))))))) (dIfS (dCmp eqP (dV 5) (dC (.int 1))) (dSeq (dSet 7 (dPd (dFr (dFnM 1 1 _law_take_s (dArgs [(dV 2)])))))
  (dSet 6 (dPd (dLst (dComp (dItA rng1P (dArgs [(dV 2)])) [21] (.nm 21) dYes (dBin idxP (dV 6) (dBin modP (dBin subP (dV 21) (dV 7)) (dV 2)))))))) (dSeq (dSet 8 (dPd (dFr (dFnM 1 1 _law_take_s (dArgs [(dV 2)])))))
  (dSet 6 (dPd (dBin addP (dBin addP (dSlA (dV 6) dNo (dSo (dV 8))) (dLst (dArgs [(dBin subP (dC (.int 1)) (dBin idxP (dV 6) (dV 8)))]))) (dSlA (dV 6) (dSo (dBin addP (dV 8) (dC (.int 1)))) dNo)))))))
  (dApp 3 (dPd (dV 6)))))
def law_b2 : SF := (dSeq (dSet 13 (dPd (dIf (dCmp gtP (dV 4) (dC (.int 0))) (dBin idxP (dV 9) (dBin subP (dV 4) (dC (.int 1)))) (dC .none))))
  (dSeq (dSet 14 (dPd (dLst (dComp (dIt (dLst (dArgs [(dC (.str "ticks")), (dC (.str "runs")), (dC (.str "change")), (dC (.str "turn"))]))) [25] (.nm 25) dYes (dCallN 4 cost_of_s (dArgs [(dV 25), (dBin idxP (dV 9) (dV 4)), (dV 13), (dV 2)]))))))
  (dSeq (dIfS (dOr (dCmp neP (dBin idxP (dV 14) (dC (.int 0))) (dBin addP (dC (.int 1)) (dBin fdivP (dBin addP (dV 2) (dC (.int 7))) (dC (.int 8))))) (dOr (dCmp neP (dBin idxP (dV 14) (dC (.int 1))) (dBin addP (dC (.int 1)) (dBin mulP (dC (.int 2)) (dCall lenP (dArgs [(dBin idxP (dV 9) (dV 4))]))))) (dCmp neP (dCallN 4 cost_of_s (dArgs [(dBin idxP (dV 10) (dV 4)), (dBin idxP (dV 9) (dV 4)), (dV 13), (dV 2)])) (dCall minP (dArgs [(dLst (dComp (dIt (dV 14)) [28] (.nm 28) (dNot (dIsN (dV 28))) (dV 28)))]))))) (dRet (dPd (dC (.bool false)))) dNx)
  (dApp 12 (dPd (dCallN 4 cost_of_s (dArgs [(dBin idxP (dV 10) (dV 4)), (dBin idxP (dV 9) (dV 4)), (dV 13), (dV 2)])))))))
def law_b3 : SF := (dSeq (dSet 17 (dPd (dLst (dComp (dItA rng1P (dArgs [(dV 2)])) [4] (.nm 4) dYes (dCall intP (dArgs [(dB (dCmp neP (dBin idxP (dV 6) (dV 4)) (dBin idxP (dV 16) (dV 4))))]))))))
  (dSeq (dSet 15 (dPd (dBin addP (dV 15) (dBin mulP (dC (.int 2)) (dCall lenP (dArgs [(dCallN 1 runs_of_s (dArgs [(dV 17)]))]))))))
  (dSet 16 (dPd (dV 6)))))
def law_b4 : SF := (dSeq (dSet 7 (dPd (dLst (dComp (dItA rng1P (dArgs [(dV 2)])) [27] (.nm 27) (dCmp eqP (dLst (dComp (dItA rng1P (dArgs [(dV 2)])) [4] (.nm 4) dYes (dBin idxP (dGetA 3 (dV 19)) (dBin modP (dBin subP (dV 4) (dV 27)) (dV 2))))) (dGetA 3 (dV 21))) (dV 27)))))
  (dSeq (dSet 22 (dPd (dCallN 3 alike_s (dArgs [(dBin idxP (dV 9) (dV 19)), (dBin idxP (dV 9) (dV 21)), (dV 2)]))))
  (dSeq (dSet 23 (dPd (dCallN 2 same_but_for_begin_s (dArgs [(dBin idxP (dV 18) (dV 21)), (dBin idxP (dV 18) (dV 19))]))))
  (dSeq (dIfS (dOr (dCmp neP (dV 22) (dIf (dCmp gtP (dCall lenP (dArgs [(dV 7)])) (dC (.int 0))) (dBin idxP (dV 7) (dC (.int 0))) (dC .none))) (dOr (dCmp neP (dB (dIsN (dV 23))) (dB (dIsN (dV 22)))) (dAnd (dNot (dIsN (dV 22))) (dCmp neP (dCallN 3 turned1_s (dArgs [(dBin idxP (dV 9) (dV 19)), (dV 22), (dV 2)])) (dBin idxP (dV 9) (dV 21)))))) (dRet (dPd (dC (.bool false)))) dNx)
  (dIfS (dNot (dIsN (dV 23))) (dSeq (dIfS (dCmp neP (dLst (dComp (dItA rng1P (dArgs [(dV 2)])) [4] (.nm 4) dYes (dBin idxP (dBin idxP (dV 18) (dV 21)) (dBin modP (dBin addP (dV 23) (dV 4)) (dV 2))))) (dBin idxP (dV 18) (dV 19))) (dRet (dPd (dC (.bool false)))) dNx)
  (dApp 20 (dPd (dTup [(dV 21), (dV 23)])))) dNx)))))
def law_b5 : SF := (dSeq (dIfS (dCmp neP (dCall lenP (dArgs [(dCallN 1 least_turn_s (dArgs [(dBin idxP (dV 18) (dV 19))]))])) (dCallN 2 least_round_s (dArgs [(dBin idxP (dV 9) (dV 19)), (dV 2)]))) (dRet (dPd (dC (.bool false)))) dNx)
  (dSeq (dSet 20 (dOl (dArgs [])))
  (dSeq (dFor (dItA rng1P (dArgs [(dPk 3 (dCall lenP (dArgs [(dV 3)])))])) (.nm 21) law_b4)
  (dIfS (dPkT 20 (dCmp neP (dBin idxP (dCallN 2 fitting_s (dArgs [(dV 18), (dBin addP (dBin idxP (dV 18) (dV 19)) (dBin idxP (dV 18) (dV 19)))])) (dC (.int 0))) (dV 20))) (dRet (dPd (dC (.bool false)))) dNx))))
def law_d : SF := (dSeq (dSet 1 (dFnN 1 _law_state_s (dArgs [(dV 0)])))
  (dSeq (dSet 2 (dPd (dBin addP (dC (.int 2)) (dFr (dFnM 1 1 _law_take_s (dArgs [(dC (.int 9))]))))))
  (dSeq (dSet 3 (dOl (dArgs [(dLst (dComp (dItA rng1P (dArgs [(dV 2)])) [4] (.nm 4) dYes (dFr (dFnM 1 1 _law_take_s (dArgs [(dC (.int 2))])))))])))
  (dSeq (dFor (dItA rng1P (dArgs [(dFr (dFnM 1 1 _law_take_s (dArgs [(dC (.int 4))])))])) (.nm 4) law_b1)
  (dSeq (dFz 3 (dSet 9 (dPd (dLst (dComp (dIt (dV 3)) [6] (.nm 6) dYes (dCallN 1 runs_of_s (dArgs [(dV 6)])))))))
  (dSeq (dIfS (dPkT 3 (dCmp neP (dLst (dComp (dIt (dV 9)) [24] (.nm 24) dYes (dCallN 2 ticks_of_s (dArgs [(dV 24), (dV 2)])))) (dV 3))) (dRet (dPd (dC (.bool false)))) dNx)
  (dSeq (dTgt (.tcons (.nm 10) (.tcons (.nm 11) .tnil)) (dCallN 2 coded_s (dArgs [(dV 9), (dV 2)])))
  (dSeq (dSet 12 (dOl (dArgs [])))
  (dSeq (dFor (dItA rng1P (dArgs [(dCall lenP (dArgs [(dV 9)]))])) (.nm 4) law_b2)
  (dSeq (dIfS (dOr (dCmp neP (dV 11) (dPk 12 (dCall sumP (dArgs [(dV 12)])))) (dCmp neP (dCallN 2 read_back_s (dArgs [(dCallN 3 told_by_s (dArgs [(dV 9), (dV 2), (dV 10)])), (dV 2)])) (dV 9))) (dRet (dPd (dC (.bool false)))) dNx)
  (dSeq (dTgt (.tcons (.nm 15) (.tcons (.nm 16) .tnil)) (dTup [(dC (.int 0)), (dBin mulP (dLst (dArgs [(dC (.int 0))])) (dV 2))]))
  (dSeq (dFz 3 (dFor (dIt (dV 3)) (.nm 6) law_b3))
  (dSeq (dIfS (dCmp neP (dCallN 2 order_cost_s (dArgs [(dV 9), (dLst (dLR (dCall lenP (dArgs [(dV 9)]))))])) (dV 15)) (dRet (dPd (dC (.bool false)))) dNx)
  (dSeq (dFz 3 (dSet 18 (dPd (dLst (dComp (dIt (dV 3)) [6] (.nm 6) dYes (dLst (dComp (dIt (dV 6)) [26] (.nm 26) dYes (dIf (dCmp eqP (dV 26) (dC (.int 1))) (dC (.str "H")) (dC (.str ""))))))))))
  (dSeq (dFor (dItA rng1P (dArgs [(dPk 3 (dCall lenP (dArgs [(dV 3)])))])) (.nm 19) law_b5)
  (dRet (dPd (dC (.bool true)))))))))))))))))))
def law_s : List P → Option P := runQ 1 29 law_d
end
end HW

namespace HW
open PySem PySem.Spec PyProof.Rows L2

/-! ### runs_of -/
abbrev st_runs_of : Stmt := PySem.Challenge.pw_hornwright_k50_books_of_runs_and_rhythms.main.body.getD 1 (.Pass ⟨0, 0, 0, 0⟩)
def N_runs_of : List Str := ["row", "found", "at", "cell"]
theorem sc_runs_of : FnScope N_runs_of ["row"] (defScope st_runs_of) := ⟨rfl, rfl, rfl, by decide +kernel, rfl, by decide +kernel, by decide +kernel⟩
theorem ok_runs_of {P : Program} {w : World} {K : PySem.W.Frag} {mg : Str → Option Value} {base : Heap} {cm : Str → Addr → Prop} {fa : Addr} {fd : FuncData} (B : Bs mg) (G : L2.Fun K "runs_of" "runs_of" st_runs_of fa fd)  :
    FnOk P w K mg base CX0 1 fa fd ["row"] (spQ K cm 1 runs_of_s) :=
  fn_Q 1 G sc_runs_of rfl fun cdv A outer s H E hr =>
  (ss_cons (s_set 1 (d_ofL (l_lst a_nil)) sc_runs_of.nd)
  (ss_cons (s_for rfl (i_enumA B.enumerate (a_cons (xv 0) a_nil)) (g_tup rfl (gs_cons (g_nm 2 sc_runs_of.nd) (gs_cons (g_nm 3 sc_runs_of.nd) gs_nil))) (ss_one (s_if (t_eq (hu_room hr) (xv 3) x_int) (ss_one (s_if ((w_and (t_pk 1 (t_tru (xv 1))) (w_one_and (t_eq (hu_room hr) (x_ix (x_getA 1 (x_neg x_int)) x_int) (xv 2))))).pt (ss_one (s_setI 1 (x_tup (a_cons (x_ix (x_getA 1 (x_neg x_int)) x_int) (a_cons (x_add (xv 2) x_int) a_nil))) (x_neg x_int))) (ss_one (s_app 1 (d_ofP (x_tup (a_cons (xv 2) (a_cons (x_add (xv 2) x_int) a_nil)))))))) ss_nil)))
  (ss_one (s_fz 1 (s_ret (d_ofP (xv 1)))))))
/-! ### ticks_of -/
abbrev st_ticks_of : Stmt := PySem.Challenge.pw_hornwright_k50_books_of_runs_and_rhythms.main.body.getD 2 (.Pass ⟨0, 0, 0, 0⟩)
def N_ticks_of : List Str := ["runs", "long", "at", "low", "high"]
theorem sc_ticks_of : FnScope N_ticks_of ["runs", "long"] (defScope st_ticks_of) := ⟨rfl, rfl, rfl, by decide +kernel, rfl, by decide +kernel, by decide +kernel⟩
theorem ok_ticks_of {P : Program} {w : World} {K : PySem.W.Frag} {mg : Str → Option Value} {base : Heap} {cm : Str → Addr → Prop} {fa : Addr} {fd : FuncData} (B : Bs mg) (G : L2.Fun K "ticks_of" "ticks_of" st_ticks_of fa fd)  :
    FnOk P w K mg base CX0 1 fa fd ["runs", "long"] (spQ K cm 2 ticks_of_s) :=
  fn_Q 2 G sc_ticks_of rfl fun cdv A outer s H E hr =>
  (ss_one (s_ret (d_ofP (x_ofL (l_comp (own := [("at", 2)]) rfl sc_ticks_of.nd (blkOk_by (by rfl)) (i_range1 B.range (a_cons (xv 1) a_nil)) (fun _ _ _ _ _ => (g_nm 2 sc_ticks_of.nd)) (fun _ _ _ _ _ => c_yes) (fun _ _ _ _ _ => (x_if (t_tru (x_any rfl B.any (a_cons (x_ofL (l_comp (own := [("low", 3), ("high", 4)]) rfl sc_ticks_of.nd (blkOk_by (by rfl)) (i_val (xv 0)) (fun _ _ _ _ _ => (g_tup rfl (gs_cons (g_nm 3 sc_ticks_of.nd) (gs_cons (g_nm 4 sc_ticks_of.nd) gs_nil)))) (fun _ _ _ _ _ => c_yes) (fun _ _ _ _ _ => (x_chn (op_leD (hu_room hr)) (op_ltD (hu_room hr)) cop_dat cop_dat (xv 3) (xv 2) (xv 4))))) a_nil))) x_int x_int)))))))
/-! ### put_together -/
abbrev st_put_together : Stmt := PySem.Challenge.pw_hornwright_k50_books_of_runs_and_rhythms.main.body.getD 3 (.Pass ⟨0, 0, 0, 0⟩)
def N_put_together : List Str := ["one", "other", "wanted", "edges", "found", "low", "high", "pair", "run", "edge", "a", "b"]
theorem sc_put_together : FnScope N_put_together ["one", "other", "wanted"] (defScope st_put_together) := ⟨rfl, rfl, rfl, by decide +kernel, rfl, by decide +kernel, by decide +kernel⟩
theorem ok_put_together {P : Program} {w : World} {K : PySem.W.Frag} {mg : Str → Option Value} {base : Heap} {cm : Str → Addr → Prop} {fa : Addr} {fd : FuncData} (B : Bs mg) (G : L2.Fun K "put_together" "put_together" st_put_together fa fd)  :
    FnOk P w K mg base CX0 1 fa fd ["one", "other", "wanted"] (spQ K cm 3 put_together_s) :=
  fn_Q 3 G sc_put_together rfl fun cdv A outer s H E hr =>
  (ss_cons (s_set 3 (d_ofP (x_ofL (l_sset rfl B.sorted B.set (a_cons (x_ofL (l_comp2 (own := [("run", 8), ("edge", 9)]) [9] rfl sc_put_together.nd (blkOk_by (by rfl)) (i_val (x_add (x_ofL (l_list B.list (a_cons (xv 0) a_nil))) (x_ofL (l_list B.list (a_cons (xv 1) a_nil))))) (fun _ _ _ _ _ => (g_nm 8 sc_put_together.nd)) (fun _ _ _ _ _ => (i_val (xv 8))) (fun _ _ _ _ _ => (g_nm 9 sc_put_together.nd)) (fun _ _ _ _ _ => (xv 9)))) a_nil)))) sc_put_together.nd)
  (ss_cons (s_set 4 (d_ofL (l_lst a_nil)) sc_put_together.nd)
  (ss_cons (s_for rfl (i_zip B.zip (a_cons (xv 3) (a_cons (x_slA (xv 3) (o_so x_int) o_no) a_nil))) (g_tup rfl (gs_cons (g_nm 5 sc_put_together.nd) (gs_cons (g_nm 6 sc_put_together.nd) gs_nil))) (ss_cons (s_set 7 (d_ofP (x_tup (a_cons (x_any rfl B.any (a_cons (x_ofL (l_comp (own := [("a", 10), ("b", 11)]) rfl sc_put_together.nd (blkOk_by (by rfl)) (i_val (xv 0)) (fun _ _ _ _ _ => (g_tup rfl (gs_cons (g_nm 10 sc_put_together.nd) (gs_cons (g_nm 11 sc_put_together.nd) gs_nil)))) (fun _ _ _ _ _ => c_yes) (fun _ _ _ _ _ => (x_chn (op_leD (hu_room hr)) (op_ltD (hu_room hr)) cop_dat cop_dat (xv 10) (xv 5) (xv 11))))) a_nil)) (a_cons (x_any rfl B.any (a_cons (x_ofL (l_comp (own := [("a", 10), ("b", 11)]) rfl sc_put_together.nd (blkOk_by (by rfl)) (i_val (xv 1)) (fun _ _ _ _ _ => (g_tup rfl (gs_cons (g_nm 10 sc_put_together.nd) (gs_cons (g_nm 11 sc_put_together.nd) gs_nil)))) (fun _ _ _ _ _ => c_yes) (fun _ _ _ _ _ => (x_chn (op_leD (hu_room hr)) (op_ltD (hu_room hr)) cop_dat cop_dat (xv 10) (xv 5) (xv 11))))) a_nil)) a_nil)))) sc_put_together.nd)
  (ss_one (s_if ((w_and (t_in (hu_room hr) (xv 7) (xv 2)) (w_one_and (t_ne (hu_room hr) (xv 7) (x_tup (a_cons x_bl (a_cons x_bl a_nil))))))).pt (ss_one (s_if ((w_and (t_pk 4 (t_tru (xv 4))) (w_one_and (t_eq (hu_room hr) (x_ix (x_getA 4 (x_neg x_int)) x_int) (xv 5))))).pt (ss_one (s_setI 4 (x_tup (a_cons (x_ix (x_getA 4 (x_neg x_int)) x_int) (a_cons (xv 6) a_nil))) (x_neg x_int))) (ss_one (s_app 4 (d_ofP (x_tup (a_cons (xv 5) (a_cons (xv 6) a_nil)))))))) ss_nil))))
  (ss_one (s_fz 4 (s_ret (d_ofP (xv 4))))))))
/-! ### turned1 -/
abbrev st_turned1 : Stmt := PySem.Challenge.pw_hornwright_k50_books_of_runs_and_rhythms.main.body.getD 4 (.Pass ⟨0, 0, 0, 0⟩)
def N_turned1 : List Str := ["runs", "steps", "long", "found", "low", "high", "start", "end"]
theorem sc_turned1 : FnScope N_turned1 ["runs", "steps", "long"] (defScope st_turned1) := ⟨rfl, rfl, rfl, by decide +kernel, rfl, by decide +kernel, by decide +kernel⟩
theorem ok_turned1 {P : Program} {w : World} {K : PySem.W.Frag} {mg : Str → Option Value} {base : Heap} {cm : Str → Addr → Prop} {fa : Addr} {fd : FuncData} (B : Bs mg) (G : L2.Fun K "turned" "turned" st_turned1 fa fd) (h_put_together : HasFn P w K mg base 1 "put_together" ["one", "other", "wanted"] (spQ K cm 3 put_together_s)) :
    FnOk P w K mg base CX0 2 fa fd ["runs", "steps", "long"] (spQ K cm 3 turned1_s) :=
  fn_Q 3 G sc_turned1 rfl fun cdv A outer s H E hr =>
  (ss_cons (s_set 3 (d_ofL (l_lst a_nil)) sc_turned1.nd)
  (ss_cons (s_for rfl (i_val (xv 0)) (g_tup rfl (gs_cons (g_nm 4 sc_turned1.nd) (gs_cons (g_nm 5 sc_turned1.nd) gs_nil))) (ss_cons (s_set 6 (d_ofP (x_mod (x_add (xv 4) (xv 1)) (xv 2))) sc_turned1.nd)
  (ss_cons (s_set 7 (d_ofP (x_sub (x_add (xv 6) (xv 5)) (xv 4))) sc_turned1.nd)
  (ss_cons (s_app 3 (d_ofP (x_tup (a_cons (xv 6) (a_cons (x_min2 rfl B.min (a_cons (xv 7) (a_cons (xv 2) a_nil))) a_nil)))))
  (ss_one (s_if (t_gt (hu_room hr) (xv 7) (xv 2)) (ss_one (s_app 3 (d_ofP (x_tup (a_cons x_int (a_cons (x_sub (xv 7) (xv 2)) a_nil)))))) ss_nil))))))
  (ss_one (s_fz 3 (s_ret (d_ofP (x_callQ h_put_together (hr.mono (by decide)) (a_cons (xv 3) (a_cons (x_ofL (l_lst a_nil)) (a_cons (x_ofL (l_lst (a_cons (x_tup (a_cons x_bl (a_cons x_bl a_nil))) a_nil))) a_nil))))))))))
/-! ### alike -/
abbrev st_alike : Stmt := PySem.Challenge.pw_hornwright_k50_books_of_runs_and_rhythms.main.body.getD 6 (.Pass ⟨0, 0, 0, 0⟩)
def N_alike : List Str := ["one", "other", "long", "steps"]
theorem sc_alike : FnScope N_alike ["one", "other", "long"] (defScope st_alike) := ⟨rfl, rfl, rfl, by decide +kernel, rfl, by decide +kernel, by decide +kernel⟩
theorem ok_alike {P : Program} {w : World} {K : PySem.W.Frag} {mg : Str → Option Value} {base : Heap} {cm : Str → Addr → Prop} {fa : Addr} {fd : FuncData} (B : Bs mg) (G : L2.Fun K "alike" "alike" st_alike fa fd) (h_turned_runs : HasFn P w K mg base 2 "turned_runs" ["runs", "steps", "long"] (spQ K cm 3 turned1_s)) :
    FnOk P w K mg base CX0 3 fa fd ["one", "other", "long"] (spQ K cm 3 alike_s) :=
  fn_Q 3 G sc_alike rfl fun cdv A outer s H E hr =>
  (ss_cons (s_for rfl (i_range1 B.range (a_cons (xv 2) a_nil)) (g_nm 3 sc_alike.nd) (ss_one (s_if (t_eq (hu_room hr) (x_callQ h_turned_runs (hr.mono (by decide)) (a_cons (xv 0) (a_cons (xv 3) (a_cons (xv 2) a_nil)))) (x_callQ h_turned_runs (hr.mono (by decide)) (a_cons (xv 1) (a_cons x_int (a_cons (xv 2) a_nil))))) (ss_one (s_ret (d_ofP (xv 3)))) ss_nil)))
  (ss_one (s_ret (d_ofP x_non))))
/-! ### least_round -/
abbrev st_least_round : Stmt := PySem.Challenge.pw_hornwright_k50_books_of_runs_and_rhythms.main.body.getD 7 (.Pass ⟨0, 0, 0, 0⟩)
def N_least_round : List Str := ["runs", "long", "whole", "steps"]
theorem sc_least_round : FnScope N_least_round ["runs", "long"] (defScope st_least_round) := ⟨rfl, rfl, rfl, by decide +kernel, rfl, by decide +kernel, by decide +kernel⟩
theorem ok_least_round {P : Program} {w : World} {K : PySem.W.Frag} {mg : Str → Option Value} {base : Heap} {cm : Str → Addr → Prop} {fa : Addr} {fd : FuncData} (B : Bs mg) (G : L2.Fun K "least_round" "least_round" st_least_round fa fd) (h_turned_runs : HasFn P w K mg base 2 "turned_runs" ["runs", "steps", "long"] (spQ K cm 3 turned1_s)) :
    FnOk P w K mg base CX0 3 fa fd ["runs", "long"] (spQ K cm 2 least_round_s) :=
  fn_Q 2 G sc_least_round rfl fun cdv A outer s H E hr =>
  (ss_cons (s_set 2 (d_ofP (x_callQ h_turned_runs (hr.mono (by decide)) (a_cons (xv 0) (a_cons x_int (a_cons (xv 1) a_nil))))) sc_least_round.nd)
  (ss_one (s_ret (d_ofP (x_ix (x_ofL (l_comp (own := [("steps", 3)]) rfl sc_least_round.nd (blkOk_by (by rfl)) (i_range2 B.range (a_cons x_int (a_cons (x_add (xv 1) x_int) a_nil))) (fun _ _ _ _ _ => (g_nm 3 sc_least_round.nd)) (fun _ _ _ _ _ => (c_one ((w_and (t_eq (hu_room hr) (x_mod (xv 1) (xv 3)) x_int) (w_one_and (t_eq (hu_room hr) (x_callQ h_turned_runs (hr.mono (by decide)) (a_cons (xv 0) (a_cons (xv 3) (a_cons (xv 1) a_nil)))) (xv 2))))).pt)) (fun _ _ _ _ _ => (xv 3)))) x_int)))))
/-! ### cost_of -/
abbrev st_cost_of : Stmt := PySem.Challenge.pw_hornwright_k50_books_of_runs_and_rhythms.main.body.getD 8 (.Pass ⟨0, 0, 0, 0⟩)
def N_cost_of : List Str := ["way", "runs", "before", "long"]
theorem sc_cost_of : FnScope N_cost_of ["way", "runs", "before", "long"] (defScope st_cost_of) := ⟨rfl, rfl, rfl, by decide +kernel, rfl, by decide +kernel, by decide +kernel⟩
theorem ok_cost_of {P : Program} {w : World} {K : PySem.W.Frag} {mg : Str → Option Value} {base : Heap} {cm : Str → Addr → Prop} {fa : Addr} {fd : FuncData} (B : Bs mg) (G : L2.Fun K "cost_of" "cost_of" st_cost_of fa fd) (h_alike : HasFn P w K mg base 3 "alike" ["one", "other", "long"] (spQ K cm 3 alike_s)) (h_put_together : HasFn P w K mg base 1 "put_together" ["one", "other", "wanted"] (spQ K cm 3 put_together_s)) :
    FnOk P w K mg base CX0 4 fa fd ["way", "runs", "before", "long"] (spQ K cm 4 cost_of_s) :=
  fn_Q 4 G sc_cost_of rfl fun cdv A outer s H E hr =>
  (ss_cons (s_if (t_eq (hu_room hr) (xv 0) x_str) (ss_one (s_ret (d_ofP (x_add x_int (x_fdiv (x_add (xv 3) x_int) x_int))))) ss_nil)
  (ss_cons (s_if (t_eq (hu_room hr) (xv 0) x_str) (ss_one (s_ret (d_ofP (x_add x_int (x_mul x_int (x_len B.len (a_cons (xv 1) a_nil))))))) ss_nil)
  (ss_cons (s_if (t_isN (xv 2)) (ss_one (s_ret (d_ofP x_non))) ss_nil)
  (ss_cons (s_if (t_eq (hu_room hr) (xv 0) x_str) (ss_one (s_ret (d_ofP (x_if (t_notN (x_callQ h_alike (hr.mono (by decide)) (a_cons (xv 2) (a_cons (xv 1) (a_cons (xv 3) a_nil))))) x_int x_non)))) ss_nil)
  (ss_one (s_ret (d_ofP (x_add x_int (x_mul x_int (x_len B.len (a_cons (x_callQ h_put_together (hr.mono (by decide)) (a_cons (xv 1) (a_cons (xv 2) (a_cons (x_ofL (l_lst (a_cons (x_tup (a_cons x_bl (a_cons x_bl a_nil))) (a_cons (x_tup (a_cons x_bl (a_cons x_bl a_nil))) a_nil)))) a_nil)))) a_nil)))))))))))
/-! ### coded -/
abbrev st_coded : Stmt := PySem.Challenge.pw_hornwright_k50_books_of_runs_and_rhythms.main.body.getD 9 (.Pass ⟨0, 0, 0, 0⟩)
def N_coded : List Str := ["book", "long", "ways", "total", "before", "runs", "rows", "at", "way", "cost"]
theorem sc_coded : FnScope N_coded ["book", "long"] (defScope st_coded) := ⟨rfl, rfl, rfl, by decide +kernel, rfl, by decide +kernel, by decide +kernel⟩
theorem ok_coded {P : Program} {w : World} {K : PySem.W.Frag} {mg : Str → Option Value} {base : Heap} {cm : Str → Addr → Prop} {fa : Addr} {fd : FuncData} (B : Bs mg) (G : L2.Fun K "coded" "coded" st_coded fa fd) (h_cost_of : HasFn P w K mg base 4 "cost_of" ["way", "runs", "before", "long"] (spQ K cm 4 cost_of_s)) :
    FnOk P w K mg base CX0 5 fa fd ["book", "long"] (spQ K cm 2 coded_s) :=
  fn_Q 2 G sc_coded rfl fun cdv A outer s H E hr =>
  (ss_cons (s_set 2 (d_ofL (l_lst a_nil)) sc_coded.nd)
  (ss_cons (s_set 3 (d_ofP x_int) sc_coded.nd)
  (ss_cons (s_set 4 (d_ofP x_non) sc_coded.nd)
  (ss_cons (s_for rfl (i_val (xv 0)) (g_nm 5 sc_coded.nd) (ss_cons (s_set 6 (d_ofL (l_lst a_nil)) sc_coded.nd)
  (ss_cons (s_for rfl (i_enumA B.enumerate (a_cons (x_tup (a_cons x_str (a_cons x_str (a_cons x_str (a_cons x_str a_nil))))) a_nil)) (g_tup rfl (gs_cons (g_nm 7 sc_coded.nd) (gs_cons (g_nm 8 sc_coded.nd) gs_nil))) (ss_cons (s_set 9 (d_ofP (x_callQ h_cost_of (hr.mono (by decide)) (a_cons (xv 8) (a_cons (xv 5) (a_cons (xv 4) (a_cons (xv 1) a_nil)))))) sc_coded.nd)
  (ss_one (s_if (t_notN (xv 9)) (ss_one (s_app 6 (d_ofP (x_tup (a_cons (xv 9) (a_cons (xv 7) (a_cons (xv 8) a_nil))))))) ss_nil))))
  (ss_cons (s_fz 6 (s_app 2 (d_ofP (x_ix (x_min rfl (hu_room hr) B.min (a_cons (xv 6) a_nil)) x_int))))
  (ss_cons (s_fz 6 (s_set 3 (d_ofP (x_add (xv 3) (x_ix (x_min rfl (hu_room hr) B.min (a_cons (xv 6) a_nil)) x_int))) sc_coded.nd))
  (ss_one (s_set 4 (d_ofP (xv 5)) sc_coded.nd)))))))
  (ss_one (s_fz 2 (s_ret (d_ofP (x_tup (a_cons (xv 2) (a_cons (xv 3) a_nil)))))))))))
/-! ### told_by -/
abbrev st_told_by : Stmt := PySem.Challenge.pw_hornwright_k50_books_of_runs_and_rhythms.main.body.getD 10 (.Pass ⟨0, 0, 0, 0⟩)
def N_told_by : List Str := ["book", "long", "ways", "found", "before", "place", "runs", "way"]
theorem sc_told_by : FnScope N_told_by ["book", "long", "ways"] (defScope st_told_by) := ⟨rfl, rfl, rfl, by decide +kernel, rfl, by decide +kernel, by decide +kernel⟩
theorem ok_told_by {P : Program} {w : World} {K : PySem.W.Frag} {mg : Str → Option Value} {base : Heap} {cm : Str → Addr → Prop} {fa : Addr} {fd : FuncData} (B : Bs mg) (G : L2.Fun K "told_by" "told_by" st_told_by fa fd) (h_cost_of : HasFn P w K mg base 4 "cost_of" ["way", "runs", "before", "long"] (spQ K cm 4 cost_of_s)) (h_ticks_of : HasFn P w K mg base 1 "ticks_of" ["runs", "long"] (spQ K cm 2 ticks_of_s)) (h_alike : HasFn P w K mg base 3 "alike" ["one", "other", "long"] (spQ K cm 3 alike_s)) (h_put_together : HasFn P w K mg base 1 "put_together" ["one", "other", "wanted"] (spQ K cm 3 put_together_s)) :
    FnOk P w K mg base CX0 5 fa fd ["book", "long", "ways"] (spQ K cm 3 told_by_s) :=
  fn_Q 3 G sc_told_by rfl fun cdv A outer s H E hr =>
  (ss_cons (s_set 3 (d_ofL (l_lst a_nil)) sc_told_by.nd)
  (ss_cons (s_set 4 (d_ofP x_non) sc_told_by.nd)
  (ss_cons (s_for rfl (i_enumZ B.enumerate B.zip (a_cons (xv 0) (a_cons (xv 2) a_nil))) (g_tup rfl (gs_cons (g_nm 5 sc_told_by.nd) (gs_cons (g_tup rfl (gs_cons (g_nm 6 sc_told_by.nd) (gs_cons (g_nm 7 sc_told_by.nd) gs_nil))) gs_nil))) (ss_cons (s_if (t_isN (x_callQ h_cost_of (hr.mono (by decide)) (a_cons (xv 7) (a_cons (xv 6) (a_cons (xv 4) (a_cons (xv 1) a_nil)))))) (ss_one (s_ret (d_ofP (xv 5)))) ss_nil)
  (ss_cons (s_if (t_eq (hu_room hr) (xv 7) x_str) (ss_one (s_app 3 (d_ofP (x_tup (a_cons (xv 7) (a_cons (x_callQ h_ticks_of (hr.mono (by decide)) (a_cons (xv 6) (a_cons (xv 1) a_nil))) a_nil)))))) (ss_one (s_if (t_eq (hu_room hr) (xv 7) x_str) (ss_one (s_app 3 (d_ofP (x_tup (a_cons (xv 7) (a_cons (x_ofL (l_list B.list (a_cons (xv 6) a_nil))) a_nil)))))) (ss_one (s_if (t_eq (hu_room hr) (xv 7) x_str) (ss_one (s_app 3 (d_ofP (x_tup (a_cons (xv 7) (a_cons (x_callQ h_alike (hr.mono (by decide)) (a_cons (xv 4) (a_cons (xv 6) (a_cons (xv 1) a_nil)))) a_nil)))))) (ss_one (s_app 3 (d_ofP (x_tup (a_cons (xv 7) (a_cons (x_callQ h_put_together (hr.mono (by decide)) (a_cons (xv 6) (a_cons (xv 4) (a_cons (x_ofL (l_lst (a_cons (x_tup (a_cons x_bl (a_cons x_bl a_nil))) (a_cons (x_tup (a_cons x_bl (a_cons x_bl a_nil))) a_nil)))) a_nil)))) a_nil)))))))))))
  (ss_one (s_set 4 (d_ofP (xv 6)) sc_told_by.nd)))))
  (ss_one (s_fz 3 (s_ret (d_ofP (xv 3))))))))
/-! ### read_back -/
abbrev st_read_back : Stmt := PySem.Challenge.pw_hornwright_k50_books_of_runs_and_rhythms.main.body.getD 11 (.Pass ⟨0, 0, 0, 0⟩)
def N_read_back : List Str := ["rows", "long", "found", "place", "way", "what"]
theorem sc_read_back : FnScope N_read_back ["rows", "long"] (defScope st_read_back) := ⟨rfl, rfl, rfl, by decide +kernel, rfl, by decide +kernel, by decide +kernel⟩
theorem ok_read_back {P : Program} {w : World} {K : PySem.W.Frag} {mg : Str → Option Value} {base : Heap} {cm : Str → Addr → Prop} {fa : Addr} {fd : FuncData} (B : Bs mg) (G : L2.Fun K "read_back" "read_back" st_read_back fa fd) (h_runs_of : HasFn P w K mg base 1 "runs_of" ["row"] (spQ K cm 1 runs_of_s)) (h_turned_runs : HasFn P w K mg base 2 "turned_runs" ["runs", "steps", "long"] (spQ K cm 3 turned1_s)) (h_put_together : HasFn P w K mg base 1 "put_together" ["one", "other", "wanted"] (spQ K cm 3 put_together_s)) :
    FnOk P w K mg base CX0 3 fa fd ["rows", "long"] (spQ K cm 2 read_back_s) :=
  fn_Q 2 G sc_read_back rfl fun cdv A outer s H E hr =>
  (ss_cons (s_set 2 (d_ofL (l_lst a_nil)) sc_read_back.nd)
  (ss_cons (s_for rfl (i_enumA B.enumerate (a_cons (xv 0) a_nil)) (g_tup rfl (gs_cons (g_nm 3 sc_read_back.nd) (gs_cons (g_tup rfl (gs_cons (g_nm 4 sc_read_back.nd) (gs_cons (g_nm 5 sc_read_back.nd) gs_nil))) gs_nil))) (ss_one (s_if (t_eq (hu_room hr) (xv 4) x_str) (ss_one (s_app 2 (d_ofP (x_callQ h_runs_of (hr.mono (by decide)) (a_cons (xv 5) a_nil))))) (ss_one (s_if (t_eq (hu_room hr) (xv 4) x_str) (ss_one (s_app 2 (d_ofP (x_ofL (l_list B.list (a_cons (xv 5) a_nil)))))) (ss_one (s_if ((w_or (t_nin (hu_room hr) (xv 4) (x_tup (a_cons x_str (a_cons x_str a_nil)))) (w_one_or (t_not (t_pk 2 (t_tru (xv 2))))))).pt (ss_one (s_ret (d_ofP (xv 3)))) (ss_one (s_if (t_eq (hu_room hr) (xv 4) x_str) (ss_one (s_app 2 (d_ofP (x_callQ h_turned_runs (hr.mono (by decide)) (a_cons (x_getA 2 (x_neg x_int)) (a_cons (xv 5) (a_cons (xv 1) a_nil))))))) (ss_one (s_app 2 (d_ofP (x_callQ h_put_together (hr.mono (by decide)) (a_cons (x_getA 2 (x_neg x_int)) (a_cons (xv 5) (a_cons (x_ofL (l_lst (a_cons (x_tup (a_cons x_bl (a_cons x_bl a_nil))) (a_cons (x_tup (a_cons x_bl (a_cons x_bl a_nil))) a_nil)))) a_nil))))))))))))))))
  (ss_one (s_fz 2 (s_ret (d_ofP (xv 2)))))))
/-! ### changes -/
abbrev st_changes : Stmt := PySem.Challenge.pw_hornwright_k50_books_of_runs_and_rhythms.main.body.getD 12 (.Pass ⟨0, 0, 0, 0⟩)
def N_changes : List Str := ["one", "other"]
theorem sc_changes : FnScope N_changes ["one", "other"] (defScope st_changes) := ⟨rfl, rfl, rfl, by decide +kernel, rfl, by decide +kernel, by decide +kernel⟩
theorem ok_changes {P : Program} {w : World} {K : PySem.W.Frag} {mg : Str → Option Value} {base : Heap} {cm : Str → Addr → Prop} {fa : Addr} {fd : FuncData} (B : Bs mg) (G : L2.Fun K "changes" "changes" st_changes fa fd) (h_put_together : HasFn P w K mg base 1 "put_together" ["one", "other", "wanted"] (spQ K cm 3 put_together_s)) :
    FnOk P w K mg base CX0 2 fa fd ["one", "other"] (spQ K cm 2 changes_s) :=
  fn_Q 2 G sc_changes rfl fun cdv A outer s H E hr =>
  (ss_one (s_ret (d_ofP (x_mul x_int (x_len B.len (a_cons (x_callQ h_put_together (hr.mono (by decide)) (a_cons (xv 0) (a_cons (xv 1) (a_cons (x_ofL (l_lst (a_cons (x_tup (a_cons x_bl (a_cons x_bl a_nil))) (a_cons (x_tup (a_cons x_bl (a_cons x_bl a_nil))) a_nil)))) a_nil)))) a_nil))))))
/-! ### order_cost -/
abbrev st_order_cost : Stmt := PySem.Challenge.pw_hornwright_k50_books_of_runs_and_rhythms.main.body.getD 13 (.Pass ⟨0, 0, 0, 0⟩)
def N_order_cost : List Str := ["book", "order", "total", "before", "at"]
theorem sc_order_cost : FnScope N_order_cost ["book", "order"] (defScope st_order_cost) := ⟨rfl, rfl, rfl, by decide +kernel, rfl, by decide +kernel, by decide +kernel⟩
theorem ok_order_cost {P : Program} {w : World} {K : PySem.W.Frag} {mg : Str → Option Value} {base : Heap} {cm : Str → Addr → Prop} {fa : Addr} {fd : FuncData} (B : Bs mg) (G : L2.Fun K "order_cost" "order_cost" st_order_cost fa fd) (h_changes : HasFn P w K mg base 2 "changes" ["one", "other"] (spQ K cm 2 changes_s)) :
    FnOk P w K mg base CX0 3 fa fd ["book", "order"] (spQ K cm 2 order_cost_s) :=
  fn_Q 2 G sc_order_cost rfl fun cdv A outer s H E hr =>
  (ss_cons (s_set 2 (d_ofP x_int) sc_order_cost.nd)
  (ss_cons (s_set 3 (d_ofP (x_ofL (l_lst a_nil))) sc_order_cost.nd)
  (ss_cons (s_for rfl (i_val (xv 1)) (g_nm 4 sc_order_cost.nd) (ss_cons (s_set 2 (d_ofP (x_add (xv 2) (x_callQ h_changes (hr.mono (by decide)) (a_cons (xv 3) (a_cons (x_ix (xv 0) (xv 4)) a_nil))))) sc_order_cost.nd)
  (ss_one (s_set 3 (d_ofP (x_ix (xv 0) (xv 4))) sc_order_cost.nd))))
  (ss_one (s_ret (d_ofP (xv 2)))))))
/-! ### at -/
abbrev st_at : Stmt := PySem.Challenge.pw_hornwright_k50_books_of_runs_and_rhythms.main.body.getD 15 (.Pass ⟨0, 0, 0, 0⟩)
def N_at : List Str := ["rhythm", "tick"]
theorem sc_at : FnScope N_at ["rhythm", "tick"] (defScope st_at) := ⟨rfl, rfl, rfl, by decide +kernel, rfl, by decide +kernel, by decide +kernel⟩
theorem ok_at {P : Program} {w : World} {K : PySem.W.Frag} {mg : Str → Option Value} {base : Heap} {cm : Str → Addr → Prop} {fa : Addr} {fd : FuncData} (B : Bs mg) (G : L2.Fun K "at" "at" st_at fa fd)  :
    FnOk P w K mg base CX0 1 fa fd ["rhythm", "tick"] (spQ K cm 2 at_s) :=
  fn_Q 2 G sc_at rfl fun cdv A outer s H E hr =>
  (ss_one (s_ret (d_ofP (x_ix (xv 0) (x_mod (xv 1) (x_len B.len (a_cons (xv 0) a_nil)))))))
/-! ### least_turn -/
abbrev st_least_turn : Stmt := PySem.Challenge.pw_hornwright_k50_books_of_runs_and_rhythms.main.body.getD 16 (.Pass ⟨0, 0, 0, 0⟩)
def N_least_turn : List Str := ["rhythm", "size"]
theorem sc_least_turn : FnScope N_least_turn ["rhythm"] (defScope st_least_turn) := ⟨rfl, rfl, rfl, by decide +kernel, rfl, by decide +kernel, by decide +kernel⟩
theorem ok_least_turn {P : Program} {w : World} {K : PySem.W.Frag} {mg : Str → Option Value} {base : Heap} {cm : Str → Addr → Prop} {fa : Addr} {fd : FuncData} (B : Bs mg) (G : L2.Fun K "least_turn" "least_turn" st_least_turn fa fd)  :
    FnOk P w K mg base CX0 1 fa fd ["rhythm"] (spQ K cm 1 least_turn_s) :=
  fn_Q 1 G sc_least_turn rfl fun cdv A outer s H E hr =>
  (ss_cons (s_for rfl (i_range2 B.range (a_cons x_int (a_cons (x_add (x_len B.len (a_cons (xv 0) a_nil)) x_int) a_nil))) (g_nm 1 sc_least_turn.nd) (ss_one (s_if ((w_and (t_eq (hu_room hr) (x_mod (x_len B.len (a_cons (xv 0) a_nil)) (xv 1)) x_int) (w_one_and (t_eq (hu_room hr) (x_mul (x_slA (xv 0) o_no (o_so (xv 1))) (x_fdiv (x_len B.len (a_cons (xv 0) a_nil)) (xv 1))) (xv 0))))).pt (ss_one (s_ret (d_ofP (x_slA (xv 0) o_no (o_so (xv 1)))))) ss_nil)))
  (ss_one (s_ret (d_ofP (x_ofL (l_list B.list (a_cons (xv 0) a_nil)))))))
/-! ### turned2 -/
abbrev st_turned2 : Stmt := PySem.Challenge.pw_hornwright_k50_books_of_runs_and_rhythms.main.body.getD 17 (.Pass ⟨0, 0, 0, 0⟩)
def N_turned2 : List Str := ["rhythm", "begin", "place"]
theorem sc_turned2 : FnScope N_turned2 ["rhythm", "begin"] (defScope st_turned2) := ⟨rfl, rfl, rfl, by decide +kernel, rfl, by decide +kernel, by decide +kernel⟩
theorem ok_turned2 {P : Program} {w : World} {K : PySem.W.Frag} {mg : Str → Option Value} {base : Heap} {cm : Str → Addr → Prop} {fa : Addr} {fd : FuncData} (B : Bs mg) (G : L2.Fun K "turned" "turned" st_turned2 fa fd)  :
    FnOk P w K mg base CX0 1 fa fd ["rhythm", "begin"] (spQ K cm 2 turned2_s) :=
  fn_Q 2 G sc_turned2 rfl fun cdv A outer s H E hr =>
  (ss_cons (s_set 2 (d_ofP (x_mod (xv 1) (x_len B.len (a_cons (xv 0) a_nil)))) sc_turned2.nd)
  (ss_one (s_ret (d_ofP (x_add (x_slA (xv 0) (o_so (xv 2)) o_no) (x_slA (xv 0) o_no (o_so (xv 2))))))))
/-! ### same_but_for_begin -/
abbrev st_same_but_for_begin : Stmt := PySem.Challenge.pw_hornwright_k50_books_of_runs_and_rhythms.main.body.getD 19 (.Pass ⟨0, 0, 0, 0⟩)
def N_same_but_for_begin : List Str := ["one", "other", "left", "right", "begin"]
theorem sc_same_but_for_begin : FnScope N_same_but_for_begin ["one", "other"] (defScope st_same_but_for_begin) := ⟨rfl, rfl, rfl, by decide +kernel, rfl, by decide +kernel, by decide +kernel⟩
theorem ok_same_but_for_begin {P : Program} {w : World} {K : PySem.W.Frag} {mg : Str → Option Value} {base : Heap} {cm : Str → Addr → Prop} {fa : Addr} {fd : FuncData} (B : Bs mg) (G : L2.Fun K "same_but_for_begin" "same_but_for_begin" st_same_but_for_begin fa fd) (h_least_turn : HasFn P w K mg base 1 "least_turn" ["rhythm"] (spQ K cm 1 least_turn_s)) (h_turned_apart : HasFn P w K mg base 1 "turned_apart" ["rhythm", "begin"] (spQ K cm 2 turned2_s)) :
    FnOk P w K mg base CX0 2 fa fd ["one", "other"] (spQ K cm 2 same_but_for_begin_s) :=
  fn_Q 2 G sc_same_but_for_begin rfl fun cdv A outer s H E hr =>
  (ss_cons (s_par 2 3 rfl sc_same_but_for_begin.nd (a_cons (x_callQ h_least_turn (hr.mono (by decide)) (a_cons (xv 0) a_nil)) (a_cons (x_callQ h_least_turn (hr.mono (by decide)) (a_cons (xv 1) a_nil)) a_nil)))
  (ss_cons (s_if (t_ne (hu_room hr) (x_len B.len (a_cons (xv 2) a_nil)) (x_len B.len (a_cons (xv 3) a_nil))) (ss_one (s_ret (d_ofP x_non))) ss_nil)
  (ss_cons (s_for rfl (i_range1 B.range (a_cons (x_len B.len (a_cons (xv 2) a_nil)) a_nil)) (g_nm 4 sc_same_but_for_begin.nd) (ss_one (s_if (t_eq (hu_room hr) (x_callQ h_turned_apart (hr.mono (by decide)) (a_cons (xv 2) (a_cons (xv 4) a_nil))) (xv 3)) (ss_one (s_ret (d_ofP (xv 4)))) ss_nil)))
  (ss_one (s_ret (d_ofP x_non))))))
/-! ### starts_of -/
abbrev st_starts_of : Stmt := PySem.Challenge.pw_hornwright_k50_books_of_runs_and_rhythms.main.body.getD 21 (.Pass ⟨0, 0, 0, 0⟩)
def N_starts_of : List Str := ["rhythms", "found", "mark", "rhythm", "begin"]
theorem sc_starts_of : FnScope N_starts_of ["rhythms"] (defScope st_starts_of) := ⟨rfl, rfl, rfl, by decide +kernel, rfl, by decide +kernel, by decide +kernel⟩
theorem ok_starts_of {P : Program} {w : World} {K : PySem.W.Frag} {mg : Str → Option Value} {base : Heap} {cm : Str → Addr → Prop} {fa : Addr} {fd : FuncData} (B : Bs mg) (G : L2.Fun K "starts_of" "starts_of" st_starts_of fa fd) (h_least_turn : HasFn P w K mg base 1 "least_turn" ["rhythm"] (spQ K cm 1 least_turn_s)) :
    FnOk P w K mg base CX0 2 fa fd ["rhythms"] (spQ K cm 1 starts_of_s) :=
  fn_Q 1 G sc_starts_of rfl fun cdv A outer s H E hr =>
  (ss_cons (s_set 1 (d_ofL (l_lst a_nil)) sc_starts_of.nd)
  (ss_cons (s_for rfl (i_enumA B.enumerate (a_cons (xv 0) a_nil)) (g_tup rfl (gs_cons (g_nm 2 sc_starts_of.nd) (gs_cons (g_nm 3 sc_starts_of.nd) gs_nil))) (ss_one (s_ext 1 (l_comp (own := [("begin", 4)]) rfl sc_starts_of.nd (blkOk_by (by rfl)) (i_range1 B.range (a_cons (x_len B.len (a_cons (x_callQ h_least_turn (hr.mono (by decide)) (a_cons (xv 3) a_nil)) a_nil)) a_nil)) (fun _ _ _ _ _ => (g_nm 4 sc_starts_of.nd)) (fun _ _ _ _ _ => c_yes) (fun _ _ _ _ _ => (x_tup (a_cons (xv 2) (a_cons (xv 4) a_nil))))))))
  (ss_one (s_fz 1 (s_ret (d_ofP (xv 1)))))))
/-! ### bar_of -/
abbrev st_bar_of : Stmt := PySem.Challenge.pw_hornwright_k50_books_of_runs_and_rhythms.main.body.getD 22 (.Pass ⟨0, 0, 0, 0⟩)
def N_bar_of : List Str := ["rhythm", "begin", "heard", "step", "sounded"]
theorem sc_bar_of : FnScope N_bar_of ["rhythm", "begin", "heard"] (defScope st_bar_of) := ⟨rfl, rfl, rfl, by decide +kernel, rfl, by decide +kernel, by decide +kernel⟩
theorem ok_bar_of {P : Program} {w : World} {K : PySem.W.Frag} {mg : Str → Option Value} {base : Heap} {cm : Str → Addr → Prop} {fa : Addr} {fd : FuncData} (B : Bs mg) (G : L2.Fun K "bar_of" "bar_of" st_bar_of fa fd) (h_at : HasFn P w K mg base 1 "at" ["rhythm", "tick"] (spQ K cm 2 at_s)) :
    FnOk P w K mg base CX0 2 fa fd ["rhythm", "begin", "heard"] (spQ K cm 3 bar_of_s) :=
  fn_Q 3 G sc_bar_of rfl fun cdv A outer s H E hr =>
  (ss_cons (s_for rfl (i_enumA B.enumerate (a_cons (xv 2) a_nil)) (g_tup rfl (gs_cons (g_nm 3 sc_bar_of.nd) (gs_cons (g_nm 4 sc_bar_of.nd) gs_nil))) (ss_one (s_if ((w_and (t_notN (xv 4)) (w_one_and (t_ne (hu_room hr) (x_callQ h_at (hr.mono (by decide)) (a_cons (xv 0) (a_cons (x_add (xv 1) (xv 3)) a_nil))) (xv 4))))).pt (ss_one (s_ret (d_ofP (xv 3)))) ss_nil)))
  (ss_one (s_ret (d_ofP x_non))))
/-! ### fitting -/
abbrev st_fitting : Stmt := PySem.Challenge.pw_hornwright_k50_books_of_runs_and_rhythms.main.body.getD 23 (.Pass ⟨0, 0, 0, 0⟩)
def N_fitting : List Str := ["rhythms", "heard", "fits", "bars", "mark", "begin", "step"]
theorem sc_fitting : FnScope N_fitting ["rhythms", "heard"] (defScope st_fitting) := ⟨rfl, rfl, rfl, by decide +kernel, rfl, by decide +kernel, by decide +kernel⟩
theorem ok_fitting {P : Program} {w : World} {K : PySem.W.Frag} {mg : Str → Option Value} {base : Heap} {cm : Str → Addr → Prop} {fa : Addr} {fd : FuncData} (B : Bs mg) (G : L2.Fun K "fitting" "fitting" st_fitting fa fd) (h_starts_of : HasFn P w K mg base 2 "starts_of" ["rhythms"] (spQ K cm 1 starts_of_s)) (h_bar_of : HasFn P w K mg base 2 "bar_of" ["rhythm", "begin", "heard"] (spQ K cm 3 bar_of_s)) :
    FnOk P w K mg base CX0 3 fa fd ["rhythms", "heard"] (spQ K cm 2 fitting_s) :=
  fn_Q 2 G sc_fitting rfl fun cdv A outer s H E hr =>
  (ss_cons (s_set 2 (d_ofL (l_lst a_nil)) sc_fitting.nd)
  (ss_cons (s_set 3 (d_ofL (l_lst a_nil)) sc_fitting.nd)
  (ss_cons (s_for rfl (i_val (x_callQ h_starts_of (hr.mono (by decide)) (a_cons (xv 0) a_nil))) (g_tup rfl (gs_cons (g_nm 4 sc_fitting.nd) (gs_cons (g_nm 5 sc_fitting.nd) gs_nil))) (ss_cons (s_set 6 (d_ofP (x_callQ h_bar_of (hr.mono (by decide)) (a_cons (x_ix (xv 0) (xv 4)) (a_cons (xv 5) (a_cons (xv 1) a_nil))))) sc_fitting.nd)
  (ss_one (s_if (t_isN (xv 6)) (ss_one (s_app 2 (d_ofP (x_tup (a_cons (xv 4) (a_cons (xv 5) a_nil)))))) (ss_one (s_app 3 (d_ofP (x_tup (a_cons (xv 4) (a_cons (xv 5) (a_cons (xv 6) a_nil)))))))))))
  (ss_one (s_fz 3 (s_fz 2 (s_ret (d_ofP (x_tup (a_cons (xv 2) (a_cons (xv 3) a_nil)))))))))))
/-! ### _law_state -/
abbrev st__law_state : Stmt := PySem.Challenge.pw_hornwright_k50_books_of_runs_and_rhythms.main.body.getD 25 (.Pass ⟨0, 0, 0, 0⟩)
def N__law_state : List Str := ["script", "cells", "cell"]
theorem sc__law_state : FnScope N__law_state ["script"] (defScope st__law_state) := ⟨rfl, rfl, rfl, by decide +kernel, rfl, by decide +kernel, by decide +kernel⟩
theorem ok__law_state {P : Program} {w : World} {K : PySem.W.Frag} {mg : Str → Option Value} {base : Heap} {cm : Str → Addr → Prop} {fa : Addr} {fd : FuncData} (B : Bs mg) (G : L2.Fun K "_law_state" "_law_state" st__law_state fa fd)  :
    FnOk P w K mg base CX0 1 fa fd ["script"] (spP K cm 1 _law_state_s) :=
  fn_P G sc__law_state fun cdv A outer s H E hr =>
  (ss_cons (s_setLc (own := [("cell", 2)]) 1 ofL_imp rfl sc__law_state.nd (blkOk_by (by rfl)) (i_val (x_slA (xv 0) o_no (o_so x_int))) (fun _ _ _ _ _ => (g_nm 2 sc__law_state.nd)) (fun _ _ _ _ _ => c_yes) (fun _ _ _ _ _ => (x_abs B.abs (a_cons (xv 2) a_nil))))
  (ss_cons (s_if (t_eq (hu_room hr) (x_pk 1 (x_len B.len (a_cons (xv 1) a_nil))) x_int) (ss_one (s_set 1 (d_ofL (l_lst (a_cons x_int a_nil))) sc__law_state.nd)) ss_nil)
  (ss_one (s_ret (d_lst2 1 x_int)))))
/-! ### _law_take -/
abbrev st__law_take : Stmt := PySem.Challenge.pw_hornwright_k50_books_of_runs_and_rhythms.main.body.getD 26 (.Pass ⟨0, 0, 0, 0⟩)
theorem sc__law_take : FnScope ["state", "most", "cells", "at_v", "cell", "mixed"] ["state", "most"] (defScope st__law_take) := ⟨rfl, rfl, rfl, by decide +kernel, rfl, by decide +kernel, by decide +kernel⟩
theorem ok__law_take {P : Program} {w : World} {K : PySem.W.Frag} {mg : Str → Option Value} {base : Heap} {cm : Str → Addr → Prop} {fa : Addr} {fd : FuncData} (B : Bs mg) (G : L2.Fun K "_law_take" "_law_take" st__law_take fa fd) :
    FnOk P w K mg base CX0 1 fa fd ["state", "most"] (spM K cm 1 takeS) :=
  fn_take G sc__law_take rfl fun cdv A outer s H E hr => pss_cons (s_tk sc__law_take.nd)
  (ss_cons (s_set 3 (d_ofP (x_mod (x_getA 0 x_int) (x_pk 2 (x_len B.len (a_cons (xv 2) a_nil))))) sc__law_take.nd)
  (ss_cons (s_set 4 (d_ofP (x_getA 2 (xv 3))) sc__law_take.nd)
  (ss_cons (s_if (t_ge (hu_room hr) (xv 4) x_int) (ss_cons (s_setI 2 (x_fdiv (xv 4) (xv 1)) (xv 3))
  (ss_one (s_ret (d_ofP (x_mod (xv 4) (xv 1)))))) ss_nil)
  (ss_cons (s_setI 0 (x_add (x_getA 0 x_int) x_int) x_int)
  (ss_cons (s_set 5 (d_ofP (x_mod (x_int1 B.int (a_cons (x_add (x_mul (xv 4) x_int) (x_mul (x_getA 0 x_int) x_int)) a_nil)) x_int)) sc__law_take.nd)
  (ss_cons (s_set 5 (d_ofP (x_mod (x_int1 B.int (a_cons (x_add (x_mul (xv 5) x_int) (x_mul (x_getA 0 x_int) x_int)) a_nil)) x_int)) sc__law_take.nd)
  (ss_one (s_ret (d_ofP (x_mod (x_fdiv (xv 5) x_int) (xv 1)))))))))))
/-! ### law -/
abbrev st_law : Stmt := PySem.Challenge.pw_hornwright_k50_books_of_runs_and_rhythms.main.body.getD 27 (.Pass ⟨0, 0, 0, 0⟩)
def N_law : List Str := ["script", "state", "long", "rows", "k", "kind", "row", "steps", "spot", "book", "ways", "cost", "costs", "before", "prices", "changes_v", "ahead", "unlike", "rhythms", "i", "same", "j", "told", "begin", "runs", "way", "cell", "step", "price"]
theorem sc_law : FnScope N_law ["script"] (defScope st_law) := ⟨rfl, rfl, rfl, by decide +kernel, rfl, by decide +kernel, by decide +kernel⟩
theorem ok_law {P : Program} {w : World} {K : PySem.W.Frag} {mg : Str → Option Value} {base : Heap} {cm : Str → Addr → Prop} {fa : Addr} {fd : FuncData} (B : Bs mg) (G : L2.Fun K "law" "law" st_law fa fd) (h__law_state : HasFn P w K mg base 1 "_law_state" ["script"] (spP K cm 1 _law_state_s)) (h__law_take : HasFn P w K mg base 1 "_law_take" ["state", "most"] (spM K cm 1 _law_take_s)) (h_runs_of : HasFn P w K mg base 1 "runs_of" ["row"] (spQ K cm 1 runs_of_s)) (h_ticks_of : HasFn P w K mg base 1 "ticks_of" ["runs", "long"] (spQ K cm 2 ticks_of_s)) (h_coded : HasFn P w K mg base 5 "coded" ["book", "long"] (spQ K cm 2 coded_s)) (h_cost_of : HasFn P w K mg base 4 "cost_of" ["way", "runs", "before", "long"] (spQ K cm 4 cost_of_s)) (h_told_by : HasFn P w K mg base 5 "told_by" ["book", "long", "ways"] (spQ K cm 3 told_by_s)) (h_read_back : HasFn P w K mg base 3 "read_back" ["rows", "long"] (spQ K cm 2 read_back_s)) (h_order_cost : HasFn P w K mg base 3 "order_cost" ["book", "order"] (spQ K cm 2 order_cost_s)) (h_least_turn : HasFn P w K mg base 1 "least_turn" ["rhythm"] (spQ K cm 1 least_turn_s)) (h_least_round : HasFn P w K mg base 3 "least_round" ["runs", "long"] (spQ K cm 2 least_round_s)) (h_alike : HasFn P w K mg base 3 "alike" ["one", "other", "long"] (spQ K cm 3 alike_s)) (h_same_but_for_begin : HasFn P w K mg base 2 "same_but_for_begin" ["one", "other"] (spQ K cm 2 same_but_for_begin_s)) (h_turned_runs : HasFn P w K mg base 2 "turned_runs" ["runs", "steps", "long"] (spQ K cm 3 turned1_s)) (h_fitting : HasFn P w K mg base 3 "fitting" ["rhythms", "heard"] (spQ K cm 2 fitting_s)) :
    FnOk P w K mg base CX0 6 fa fd ["script"] (spQ K cm 1 law_s) :=
  fn_Q 1 G sc_law rfl fun cdv A outer s H E hr =>
  (ss_cons (s_set 1 (x_call h__law_state (hr.mono (by decide)) (a_cons (xv 0) a_nil)) sc_law.nd)
  (ss_cons (s_set 2 (d_ofP (x_add x_int (x_fr (x_callM 1 h__law_take (hr.mono (by decide)) (a_cons x_int a_nil))))) sc_law.nd)
  (ss_cons (s_set 3 (d_ofL (l_lst (a_cons (x_ofL (l_comp (own := [("k", 4)]) rfl sc_law.nd (blkOk_by (by rfl)) (i_range1 B.range (a_cons (xv 2) a_nil)) (fun _ _ _ _ _ => (g_nm 4 sc_law.nd)) (fun _ _ _ _ _ => c_yes) (fun _ _ _ _ _ => (x_fr (x_callM 1 h__law_take (hr.mono (by decide)) (a_cons x_int a_nil)))))) a_nil))) sc_law.nd)
  (ss_cons (s_for rfl (i_range1 B.range (a_cons (x_fr (x_callM 1 h__law_take (hr.mono (by decide)) (a_cons x_int a_nil))) a_nil)) (g_nm 4 sc_law.nd) (ss_cons (s_tgt (x_tup (a_cons (x_fr (x_callM 1 h__law_take (hr.mono (by decide)) (a_cons x_int a_nil))) (a_cons (x_getA 3 (x_fr (x_callM 1 h__law_take (hr.mono (by decide)) (a_cons (x_pk 3 (x_len B.len (a_cons (xv 3) a_nil))) a_nil)))) a_nil))) (g_tup rfl (gs_cons (g_nm 5 sc_law.nd) (gs_cons (g_nm 6 sc_law.nd) gs_nil))))
  (ss_cons (s_if (t_eq (hu_room hr) (xv 5) x_int) (ss_one (s_set 6 (d_ofP (x_ofL (l_comp (own := [("k", 4)]) rfl sc_law.nd (blkOk_by (by rfl)) (i_range1 B.range (a_cons (xv 2) a_nil)) (fun _ _ _ _ _ => (g_nm 4 sc_law.nd)) (fun _ _ _ _ _ => c_yes) (fun _ _ _ _ _ => (x_fr (x_callM 1 h__law_take (hr.mono (by decide)) (a_cons x_int a_nil))))))) sc_law.nd)) (ss_one (s_if (t_eq (hu_room hr) (xv 5) x_int) (ss_cons (s_set 7 (d_ofP (x_fr (x_callM 1 h__law_take (hr.mono (by decide)) (a_cons (xv 2) a_nil)))) sc_law.nd)
  (ss_one (s_set 6 (d_ofP (x_ofL (l_comp (own := [("j", 21)]) rfl sc_law.nd (blkOk_by (by rfl)) (i_range1 B.range (a_cons (xv 2) a_nil)) (fun _ _ _ _ _ => (g_nm 21 sc_law.nd)) (fun _ _ _ _ _ => c_yes) (fun _ _ _ _ _ => (x_ix (xv 6) (x_mod (x_sub (xv 21) (xv 7)) (xv 2))))))) sc_law.nd))) (ss_cons (s_set 8 (d_ofP (x_fr (x_callM 1 h__law_take (hr.mono (by decide)) (a_cons (xv 2) a_nil)))) sc_law.nd)
  (ss_one (s_set 6 (d_ofP (x_add (x_add (x_slA (xv 6) o_no (o_so (xv 8))) (x_ofL (l_lst (a_cons (x_sub x_int (x_ix (xv 6) (xv 8))) a_nil)))) (x_slA (xv 6) (o_so (x_add (xv 8) x_int)) o_no))) sc_law.nd))))))
  (ss_one (s_app 3 (d_ofP (xv 6)))))))
  (ss_cons (s_fz 3 (s_set 9 (d_ofP (x_ofL (l_comp (own := [("row", 6)]) rfl sc_law.nd (blkOk_by (by rfl)) (i_val (xv 3)) (fun _ _ _ _ _ => (g_nm 6 sc_law.nd)) (fun _ _ _ _ _ => c_yes) (fun _ _ _ _ _ => (x_callQ h_runs_of (hr.mono (by decide)) (a_cons (xv 6) a_nil)))))) sc_law.nd))
  (ss_cons (s_if (t_pk 3 (t_ne (hu_room hr) (x_ofL (l_comp (own := [("runs", 24)]) rfl sc_law.nd (blkOk_by (by rfl)) (i_val (xv 9)) (fun _ _ _ _ _ => (g_nm 24 sc_law.nd)) (fun _ _ _ _ _ => c_yes) (fun _ _ _ _ _ => (x_callQ h_ticks_of (hr.mono (by decide)) (a_cons (xv 24) (a_cons (xv 2) a_nil)))))) (xv 3))) (ss_one (s_ret (d_ofP x_bl))) ss_nil)
  (ss_cons (s_tgt (x_callQ h_coded (hr.mono (by decide)) (a_cons (xv 9) (a_cons (xv 2) a_nil))) (g_tup rfl (gs_cons (g_nm 10 sc_law.nd) (gs_cons (g_nm 11 sc_law.nd) gs_nil))))
  (ss_cons (s_set 12 (d_ofL (l_lst a_nil)) sc_law.nd)
  (ss_cons (s_for rfl (i_range1 B.range (a_cons (x_len B.len (a_cons (xv 9) a_nil)) a_nil)) (g_nm 4 sc_law.nd) (ss_cons (s_set 13 (d_ofP (x_if (t_gt (hu_room hr) (xv 4) x_int) (x_ix (xv 9) (x_sub (xv 4) x_int)) x_non)) sc_law.nd)
  (ss_cons (s_setLc (own := [("way", 25)]) 14 ofLP_imp rfl sc_law.nd (blkOk_by (by rfl)) (i_val (x_ofL (l_lst (a_cons x_str (a_cons x_str (a_cons x_str (a_cons x_str a_nil))))))) (fun _ _ _ _ _ => (g_nm 25 sc_law.nd)) (fun _ _ _ _ _ => c_yes) (fun _ _ _ _ _ => (x_callQ h_cost_of (hr.mono (by decide)) (a_cons (xv 25) (a_cons (x_ix (xv 9) (xv 4)) (a_cons (xv 13) (a_cons (xv 2) a_nil)))))))
  (ss_cons (s_if ((w_or (t_ne (hu_room hr) (x_ix (xv 14) x_int) (x_add x_int (x_fdiv (x_add (xv 2) x_int) x_int))) (w_or (t_ne (hu_room hr) (x_ix (xv 14) x_int) (x_add x_int (x_mul x_int (x_len B.len (a_cons (x_ix (xv 9) (xv 4)) a_nil))))) (w_one_or (t_ne (hu_room hr) (x_callQ h_cost_of (hr.mono (by decide)) (a_cons (x_ix (xv 10) (xv 4)) (a_cons (x_ix (xv 9) (xv 4)) (a_cons (xv 13) (a_cons (xv 2) a_nil))))) (x_min rfl (hu_room hr) B.min (a_cons (x_ofL (l_comp (own := [("price", 28)]) rfl sc_law.nd (blkOk_by (by rfl)) (i_val (xv 14)) (fun _ _ _ _ _ => (g_nm 28 sc_law.nd)) (fun _ _ _ _ _ => (c_one (t_notN (xv 28)))) (fun _ _ _ _ _ => (xv 28)))) a_nil))))))).pt (ss_one (s_ret (d_ofP x_bl))) ss_nil)
  (ss_one (s_app 12 (d_ofP (x_callQ h_cost_of (hr.mono (by decide)) (a_cons (x_ix (xv 10) (xv 4)) (a_cons (x_ix (xv 9) (xv 4)) (a_cons (xv 13) (a_cons (xv 2) a_nil))))))))))))
  (ss_cons (s_if ((w_or (t_ne (hu_room hr) (xv 11) (x_pk 12 (x_sum rfl B.sum (a_cons (xv 12) a_nil)))) (w_one_or (t_ne (hu_room hr) (x_callQ h_read_back (hr.mono (by decide)) (a_cons (x_callQ h_told_by (hr.mono (by decide)) (a_cons (xv 9) (a_cons (xv 2) (a_cons (xv 10) a_nil)))) (a_cons (xv 2) a_nil))) (xv 9))))).pt (ss_one (s_ret (d_ofP x_bl))) ss_nil)
  (ss_cons (s_tgt (x_tup (a_cons x_int (a_cons (x_mul (x_ofL (l_lst (a_cons x_int a_nil))) (xv 2)) a_nil))) (g_tup rfl (gs_cons (g_nm 15 sc_law.nd) (gs_cons (g_nm 16 sc_law.nd) gs_nil))))
  (ss_cons (s_fz 3 (s_for rfl (i_val (xv 3)) (g_nm 6 sc_law.nd) (ss_cons (s_setLc (own := [("k", 4)]) 17 ofLP_imp rfl sc_law.nd (blkOk_by (by rfl)) (i_range1 B.range (a_cons (xv 2) a_nil)) (fun _ _ _ _ _ => (g_nm 4 sc_law.nd)) (fun _ _ _ _ _ => c_yes) (fun _ _ _ _ _ => (x_int1 B.int (a_cons (x_ne (hu_room hr) (x_ix (xv 6) (xv 4)) (x_ix (xv 16) (xv 4))) a_nil))))
  (ss_cons (s_set 15 (d_ofP (x_add (xv 15) (x_mul x_int (x_len B.len (a_cons (x_callQ h_runs_of (hr.mono (by decide)) (a_cons (xv 17) a_nil)) a_nil))))) sc_law.nd)
  (ss_one (s_set 16 (d_ofP (xv 6)) sc_law.nd))))))
  (ss_cons (s_if (t_ne (hu_room hr) (x_callQ h_order_cost (hr.mono (by decide)) (a_cons (xv 9) (a_cons (x_ofL (l_listR B.list B.range (x_len B.len (a_cons (xv 9) a_nil)))) a_nil))) (xv 15)) (ss_one (s_ret (d_ofP x_bl))) ss_nil)
  (ss_cons (s_fz 3 (s_set 18 (d_ofP (x_ofL (l_comp (own := [("row", 6)]) rfl sc_law.nd (blkOk_by (by rfl)) (i_val (xv 3)) (fun _ _ _ _ _ => (g_nm 6 sc_law.nd)) (fun _ _ _ _ _ => c_yes) (fun _ _ _ _ _ => (x_ofL (l_comp (own := [("cell", 26)]) rfl sc_law.nd (blkOk_by (by rfl)) (i_val (xv 6)) (fun _ _ _ _ _ => (g_nm 26 sc_law.nd)) (fun _ _ _ _ _ => c_yes) (fun _ _ _ _ _ => (x_if (t_eq (hu_room hr) (xv 26) x_int) x_str x_str)))))))) sc_law.nd))
  (ss_cons (s_for rfl (i_range1 B.range (a_cons (x_pk 3 (x_len B.len (a_cons (xv 3) a_nil))) a_nil)) (g_nm 19 sc_law.nd) (ss_cons (s_if (t_ne (hu_room hr) (x_len B.len (a_cons (x_callQ h_least_turn (hr.mono (by decide)) (a_cons (x_ix (xv 18) (xv 19)) a_nil)) a_nil)) (x_callQ h_least_round (hr.mono (by decide)) (a_cons (x_ix (xv 9) (xv 19)) (a_cons (xv 2) a_nil)))) (ss_one (s_ret (d_ofP x_bl))) ss_nil)
  (ss_cons (s_set 20 (d_ofL (l_lst a_nil)) sc_law.nd)
  (ss_cons (s_for rfl (i_range1 B.range (a_cons (x_pk 3 (x_len B.len (a_cons (xv 3) a_nil))) a_nil)) (g_nm 21 sc_law.nd) (ss_cons (s_set 7 (d_ofP (x_ofL (l_comp (own := [("step", 27)]) rfl sc_law.nd (blkOk_by (by rfl)) (i_range1 B.range (a_cons (xv 2) a_nil)) (fun _ _ _ _ _ => (g_nm 27 sc_law.nd)) (fun _ _ _ _ _ => (c_one (t_eq (hu_room hr) (x_ofL (l_comp (own := [("k", 4)]) rfl sc_law.nd (blkOk_by (by rfl)) (i_range1 B.range (a_cons (xv 2) a_nil)) (fun _ _ _ _ _ => (g_nm 4 sc_law.nd)) (fun _ _ _ _ _ => c_yes) (fun _ _ _ _ _ => (x_ix (x_getA 3 (xv 19)) (x_mod (x_sub (xv 4) (xv 27)) (xv 2)))))) (x_getA 3 (xv 21))))) (fun _ _ _ _ _ => (xv 27))))) sc_law.nd)
  (ss_cons (s_set 22 (d_ofP (x_callQ h_alike (hr.mono (by decide)) (a_cons (x_ix (xv 9) (xv 19)) (a_cons (x_ix (xv 9) (xv 21)) (a_cons (xv 2) a_nil))))) sc_law.nd)
  (ss_cons (s_set 23 (d_ofP (x_callQ h_same_but_for_begin (hr.mono (by decide)) (a_cons (x_ix (xv 18) (xv 21)) (a_cons (x_ix (xv 18) (xv 19)) a_nil)))) sc_law.nd)
  (ss_cons (s_if ((w_or (t_ne (hu_room hr) (xv 22) (x_if (t_gt (hu_room hr) (x_len B.len (a_cons (xv 7) a_nil)) x_int) (x_ix (xv 7) x_int) x_non)) (w_or (t_ne (hu_room hr) (x_isN (xv 23)) (x_isN (xv 22))) (w_one_or ((w_and (t_notN (xv 22)) (w_one_and (t_ne (hu_room hr) (x_callQ h_turned_runs (hr.mono (by decide)) (a_cons (x_ix (xv 9) (xv 19)) (a_cons (xv 22) (a_cons (xv 2) a_nil)))) (x_ix (xv 9) (xv 21)))))).pt)))).pt (ss_one (s_ret (d_ofP x_bl))) ss_nil)
  (ss_one (s_if (t_notN (xv 23)) (ss_cons (s_if (t_ne (hu_room hr) (x_ofL (l_comp (own := [("k", 4)]) rfl sc_law.nd (blkOk_by (by rfl)) (i_range1 B.range (a_cons (xv 2) a_nil)) (fun _ _ _ _ _ => (g_nm 4 sc_law.nd)) (fun _ _ _ _ _ => c_yes) (fun _ _ _ _ _ => (x_ix (x_ix (xv 18) (xv 21)) (x_mod (x_add (xv 23) (xv 4)) (xv 2)))))) (x_ix (xv 18) (xv 19))) (ss_one (s_ret (d_ofP x_bl))) ss_nil)
  (ss_one (s_app 20 (d_ofP (x_tup (a_cons (xv 21) (a_cons (xv 23) a_nil))))))) ss_nil)))))))
  (ss_one (s_if (t_pk 20 (t_ne (hu_room hr) (x_ix (x_callQ h_fitting (hr.mono (by decide)) (a_cons (xv 18) (a_cons (x_add (x_ix (xv 18) (xv 19)) (x_ix (xv 18) (xv 19))) a_nil))) x_int) (xv 20))) (ss_one (s_ret (d_ofP x_bl))) ss_nil))))))
  (ss_one (s_ret (d_ofP x_bl))))))))))))))))))
end HW

namespace HW
open PySem PySem.Spec PyProof.Rows L2
abbrev RL := List (Int × Int)
def encR (r : Int × Int) : P := .tuple [.int r.1, .int r.2]
def encRs (rs : RL) : List P := rs.map encR
@[simp] theorem encRs_nil : encRs [] = [] := rfl
theorem encRs_snoc (l : RL) (r : Int × Int) : encRs (l ++ [r]) = encRs l ++ [encR r] := by simp [encRs]
@[simp] theorem encRs_len (l : RL) : (encRs l).length = l.length := by simp [encRs]
/-- the last run grows, or a new run -/
def addTick (acc : RL) (a b : Int) : RL := match acc.getLast? with
  | some r => if r.2 = a then acc.dropLast ++ [(r.1, b)] else acc ++ [(a, b)]
  | none => [(a, b)]
theorem addTick_len (acc : RL) (a b : Int) : (addTick acc a b).length ≤ acc.length + 1 := by
  rcases List.eq_nil_or_concat acc with e | ⟨l, r, e⟩
  · subst e; simp [addTick]
  · subst e
    rw [List.concat_eq_append]
    unfold addTick
    simp only [List.getLast?_concat, List.dropLast_concat]
    split <;> simp
def runStep (acc : RL) (z : Int × Nat) : RL := if z.1 = 1 then addTick acc z.2 (z.2 + 1) else acc
def runsOf (row : List Int) : RL := row.zipIdx.foldl runStep []
theorem runs_step (k c : Int) (acc : RL) (p0 : D) (h : acc.length < 1000) :
  runs_of_b1 [p0, .ol (pds (encRs acc)), .pd (.int k), .pd (.int c)] = some (.nx, [p0, .ol (pds (encRs (if c = 1 then addTick acc k (k+1) else acc))), .pd (.int k), .pd (.int c)]) := by
  unfold runs_of_b1
  by_cases hc : c = 1
  · subst hc
    rcases List.eq_nil_or_concat acc with e | ⟨l, r, e⟩
    · subst e
      simp [addTick, encR]
      simp [encRs, encR]
    · subst e
      rw [List.concat_eq_append] at *
      by_cases hb : r.2 = k
      · simp [encRs_snoc, addTick, pds_app, encR, hb]
      · simp [encRs_snoc, addTick, pds_app, encR, hb]
        constructor
        · simp at h; omega
        · simp [encRs, pds, encR]
  · simp [hc]
theorem runs_of_sem (row : List Int) (h : row.length < 1000) : runs_of_s [.list (intsL row)] = some (.list (encRs (runsOf row))) := by
  have L := forL_fold (t := .tcons (.nm 2) (.tcons (.nm 3) .tnil)) (body := runs_of_b1)
    (fun z : Int × Nat => .tuple [.int (z.2 : Int), .int z.1]) (fun s : RL × D × D => [.pd (.list (intsL row)), .ol (pds (encRs s.1)), s.2.1, s.2.2]) (fun s z => (runStep s.1 z, .pd (.int z.2), .pd (.int z.1))) row.zipIdx ([], .hole, .hole) (fun r s => s.1.length + r.length < 1000) (by simpa using h)
    (fun x r a hI => by
      have hl : a.1.length < 1000 := by simp at hI; omega
      refine ⟨?_, _, ?_, runs_step x.2 x.1 a.1 _ hl⟩
      · have := addTick_len a.1 x.2 (x.2 + 1)
        simp [runStep] at hI ⊢
        split <;> omega
      · simp)
  have F : ∀ (zs : List (Int × Nat)) (a : RL) (d e : D), (zs.foldl (fun s z => (runStep s.1 z, D.pd (.int z.2), D.pd (.int z.1))) (a, d, e)).1 = zs.foldl runStep a := by
    intro zs
    induction zs with
    | nil => intros; rfl
    | cons z zs ih => intro a d e; exact ih _ _ _
  unfold runs_of_s runQ runP runs_of_d
  have E : enumL 0 (intsL row) = row.zipIdx.map fun z => .tuple [.int (z.2 : Int), .int z.1] := enumL_map _ row 0
  simp only [encRs_nil, pds_nil] at L
  simp [E, L, F, runsOf]

def covers (runs : RL) (x : Int) : Bool := runs.any fun r => decide (r.1 ≤ x) && decide (x < r.2)
theorem wipe2_get (ρ : Sl) (a b j : Nat) (h1 : j ≠ a) (h2 : j ≠ b) : (wipeR ρ [a, b])[j]? = ρ[j]? := by
  rw [wipeR_get, if_neg (by simp [h1, h2])]
theorem anyP_bools (bs : List Bool) : anyP [.list (bs.map .bool)] = some (.bool (bs.any id)) := by
  simp [anyP, bolsP_map]
theorem covers_ev {ρ : Sl} {i j a b : Nat} (runs : RL) (x : Int) (h1 : ρ[i]? = some (.pd (.list (encRs runs)))) (h2 : ρ[j]? = some (.pd (.int x))) (hab : a ≠ b) (hja : j ≠ a) (hjb : j ≠ b) (hla : a < ρ.length) (hlb : b < ρ.length) (ho : ownOk ρ [a, b] = true) (hr : runs.length ≤ 1000) :
    dCall anyP (dArgs [dLst (dComp (dIt (dV i)) [a, b] (.tcons (.nm a) (.tcons (.nm b) .tnil)) dYes (dB (dChn leP ltP (dV a) (dV j) (dV b))))]) ρ = some (.bool (covers runs x), ρ) := by
  have C : dComp (dIt (dV i)) [a, b] (.tcons (.nm a) (.tcons (.nm b) .tnil)) dYes (dB (dChn leP ltP (dV a) (dV j) (dV b))) ρ = some (runs.map (fun r => .bool (decide (r.1 ≤ x) && decide (x < r.2))), ρ) := by
    refine dComp_map encR _ runs ρ ρ (by simp [h1, encRs]) (by omega) ho (by simp [tgIn]) fun r hr => ?_
    refine ⟨((wipeR ρ [a, b]).set a (.pd (.int r.1))).set b (.pd (.int r.2)), by simp [encR], ?_⟩
    have l1 : (wipeR ρ [a, b]).length = ρ.length := wipeR_len _ _
    have e1 : (((wipeR ρ [a, b]).set a (.pd (.int r.1))).set b (.pd (.int r.2)))[a]? = some (.pd (.int r.1)) := by
      rw [List.getElem?_set_ne (Ne.symm hab), List.getElem?_set_self (by omega)]
    have e2 : (((wipeR ρ [a, b]).set a (.pd (.int r.1))).set b (.pd (.int r.2)))[b]? = some (.pd (.int r.2)) := by
      rw [List.getElem?_set_self (by simp; omega)]
    have e3 : (((wipeR ρ [a, b]).set a (.pd (.int r.1))).set b (.pd (.int r.2)))[j]? = some (.pd (.int x)) := by
      rw [List.getElem?_set_ne (Ne.symm hjb), List.getElem?_set_ne (Ne.symm hja), wipe2_get ρ a b j hja hjb, h2]
    by_cases hc : r.1 ≤ x
    · simp [e1, e2, e3, hc]
    · simp [e1, e2, e3, hc]
  have E : (runs.map (fun r => PyData.bool (decide (r.1 ≤ x) && decide (x < r.2)))) = (runs.map (fun r => (decide (r.1 ≤ x) && decide (x < r.2)))).map .bool := by simp
  simp only [dCall_, dArgs_cons, dArgs_nil, dLst_, C, Option.map_some, Option.bind_some]
  rw [E, anyP_bools]
  simp only [Option.map_some, covers, List.any_map]
  rfl
def ticksOf (runs : RL) (long : Nat) : List Int := (List.range long).map fun (i : Nat) => if covers runs i then 1 else 0
theorem rng1P_eq (j : Int) : rng1P [.int j] = @ite _ (-(2 ^ 62) ≤ j ∧ j < 2 ^ 62) (Classical.propDecidable _) (some (rngL 0 j.toNat)) none := rfl
theorem rngL_nat (n : Nat) : rngL 0 n = (List.range n).map fun (i : Nat) => .int (i : Int) := by
  unfold rngL
  congr 1
  funext i
  rw [Int.zero_add]
theorem rng1P_nat (n : Nat) (h : n < 1000000) : rng1P [.int (n : Int)] = some ((List.range n).map fun (i : Nat) => .int (i : Int)) := by
  rw [rng1P_eq, if_pos (by omega), ← rngL_nat]
  rfl
theorem ticks_of_sem (runs : RL) (n : Nat) (hn : n < 1000) (hr : runs.length ≤ 1000) : ticks_of_s [.list (encRs runs), .int n] = some (.list (intsL (ticksOf runs n))) := by
  unfold ticks_of_s runQ runP ticks_of_d
  have C := dComp_map (it := dItA rng1P (dArgs [dV 1])) (vs := [2]) (tg := .nm 2) (el := dIf (dTru (dCall anyP (dArgs [(dLst (dComp (dIt (dV 0)) [3, 4] (.tcons (.nm 3) (.tcons (.nm 4) .tnil)) dYes (dB (dChn leP ltP (dV 3) (dV 2) (dV 4)))))]))) (dC (.int 1)) (dC (.int 0))) (fun i : Nat => .int (i : Int)) (fun i : Nat => .int (if covers runs i then 1 else 0)) (List.range n)
    [.pd (.list (encRs runs)), .pd (.int n), .hole, .hole, .hole] [.pd (.list (encRs runs)), .pd (.int n), .hole, .hole, .hole]
    (by simp [rng1P_nat n (by omega)]) (by simp; omega) (by rfl) (by rfl) (fun i _ => by
      refine ⟨_, by simp only [bind_nm]; rfl, ?_⟩
      have := covers_ev (ρ := (wipeR [.pd (.list (encRs runs)), .pd (.int n), .hole, .hole, .hole] [2]).set 2 (.pd (.int (i : Int)))) (i := 0) (j := 2) (a := 3) (b := 4) runs i (by simp [wipeR]) (by simp [wipeR]) (by decide) (by decide) (by decide) (by simp [wipeR]) (by simp [wipeR]) (by rfl) hr
      simp only [dIf_, dTru_, this, Option.bind_some, truP_bool, Option.map_some]
      cases covers runs i <;> simp)
  simp [C, ticksOf, intsL]
end HW

namespace HW
open PySem PySem.Spec PyProof.Rows L2
noncomputable section
def encW (ws : List (Bool × Bool)) : List P := ws.map fun w => .tuple [.bool w.1, .bool w.2]
def edgesOf (rs : RL) : List Int := rs.flatMap fun r => [r.1, r.2]
def putStep (one other : RL) (wanted : List (Bool × Bool)) (acc : RL) (z : Int × Int) : RL :=
  if wanted.contains (covers one z.1, covers other z.1) && (covers one z.1 || covers other z.1) then addTick acc z.1 z.2 else acc
def putEdges (one other : RL) : List Int := ssetI (edgesOf (one ++ other))
def putTogether (one other : RL) (wanted : List (Bool × Bool)) : RL :=
  ((putEdges one other).zip (putEdges one other).tail).foldl (putStep one other wanted) []
theorem eqv_pair (a b c d : Bool) : PyData.eqv (.tuple [.bool a, .bool b]) (.tuple [.bool c, .bool d]) = ((a, b) == (c, d)) := by
  cases a <;> cases b <;> cases c <;> cases d <;> simp [PyData.eqv, PyData.eqvAll]
theorem depth_pair (a b : Bool) : (PyData.tuple [.bool a, .bool b]).depth = 1 := by simp [PyData.depth, PyData.depthAll]
theorem inP_pair (ws : List (Bool × Bool)) (a b : Bool) : inP (.tuple [.bool a, .bool b]) (.list (encW ws)) = some (ws.contains (a, b)) := by
  have e : inP (.tuple [.bool a, .bool b]) (.list (encW ws)) = if Nat.ble (min (PyData.depthAll (encW ws)) (PyData.tuple [.bool a, .bool b]).depth) 100 then some ((encW ws).any fun z => PyData.eqv z (.tuple [.bool a, .bool b])) else none := rfl
  rw [e, if_pos (Nat.ble_eq_true_of_le (by rw [depth_pair]; omega))]
  congr 1
  unfold encW
  rw [List.any_map]
  clear e
  induction ws with
  | nil => rfl
  | cons w ws ih =>
    rw [List.any_cons, List.contains_cons, ih]
    simp only [Function.comp_def, eqv_pair]
    congr 1
    cases w with | mk c d => cases a <;> cases b <;> cases c <;> cases d <;> rfl
theorem neP_pair (a b : Bool) : neP (.tuple [.bool a, .bool b]) (.tuple [.bool false, .bool false]) = some (a || b) := by
  unfold neP eqP
  rw [shal_of (by rw [depth_pair]; omega)]
  simp only [eqv_pair, if_true, Option.map_some]
  cases a <;> cases b <;> rfl
theorem edges_ev (rs : RL) (ρw : Sl) (h : 9 < ρw.length) : comp2 [8, 9] [9] (.nm 8) (dIt (dV 8)) (.nm 9) (dV 9) ρw (encRs rs) = some (intsL (edgesOf rs)) := by
  induction rs with
  | nil => rfl
  | cons r rs ih =>
    show comp2 [8, 9] [9] (.nm 8) (dIt (dV 8)) (.nm 9) (dV 9) ρw (encR r :: encRs rs) = _
    have e8 : (ρw.set 8 (.pd (encR r)))[8]? = some (.pd (encR r)) := List.getElem?_set_self (by omega)
    have e9 : ∀ x : P, ((wipeR (ρw.set 8 (.pd (encR r))) [9]).set 9 (.pd x))[9]? = some (.pd x) := fun x => List.getElem?_set_self (by rw [wipeR_len]; simpa using h)
    have hr : encR r = .tuple [.int r.1, .int r.2] := rfl
    rw [hr] at e8 e9 ⊢
    unfold comp2
    simp only [bind_nm, Option.bind_some, dIt_, dV_, e8]
    simp [e9, ih, intsL, edgesOf, List.mapM_cons]
theorem neP_int (i j : Int) : neP (.int i) (.int j) = some (!decide (i = j)) := by simp [neP]
theorem put_step (one other : RL) (wanted : List (Bool × Bool)) (acc : RL) (z : Int × Int) (p3 d7 d8 d9 : D) (h : acc.length < 1000) (h1 : one.length ≤ 1000) (h2 : other.length ≤ 1000) :
    put_together_b1 [.pd (.list (encRs one)), .pd (.list (encRs other)), .pd (.list (encW wanted)), p3, .ol (pds (encRs acc)), .pd (.int z.1), .pd (.int z.2), d7, d8, d9, .hole, .hole] =
      some (.nx, [.pd (.list (encRs one)), .pd (.list (encRs other)), .pd (.list (encW wanted)), p3, .ol (pds (encRs (putStep one other wanted acc z))), .pd (.int z.1), .pd (.int z.2), .pd (.tuple [.bool (covers one z.1), .bool (covers other z.1)]), d8, d9, .hole, .hole]) := by
  unfold put_together_b1
  have c1 := covers_ev (ρ := [.pd (.list (encRs one)), .pd (.list (encRs other)), .pd (.list (encW wanted)), p3, .ol (pds (encRs acc)), .pd (.int z.1), .pd (.int z.2), d7, d8, d9, .hole, .hole]) (i := 0) (j := 5) (a := 10) (b := 11) one z.1 rfl rfl (by decide) (by decide) (by decide) (by simp) (by simp) rfl h1
  have c2 := covers_ev (ρ := [.pd (.list (encRs one)), .pd (.list (encRs other)), .pd (.list (encW wanted)), p3, .ol (pds (encRs acc)), .pd (.int z.1), .pd (.int z.2), d7, d8, d9, .hole, .hole]) (i := 1) (j := 5) (a := 10) (b := 11) other z.1 rfl rfl (by decide) (by decide) (by decide) (by simp) (by simp) rfl h2
  generalize hA : dCall anyP (dArgs [dLst (dComp (dIt (dV 0)) [10, 11] (.tcons (.nm 10) (.tcons (.nm 11) .tnil)) dYes (dB (dChn leP ltP (dV 10) (dV 5) (dV 11))))]) = A at c1 ⊢
  generalize hB : dCall anyP (dArgs [dLst (dComp (dIt (dV 1)) [10, 11] (.tcons (.nm 10) (.tcons (.nm 11) .tnil)) dYes (dB (dChn leP ltP (dV 10) (dV 5) (dV 11))))]) = B at c2 ⊢
  clear hA hB
  unfold putStep
  generalize covers one z.1 = u at *
  generalize covers other z.1 = v at *
  simp only [dSeq_, dSet_, dPd_, dTup_, dArgs_cons, dArgs_nil, c1, c2, Option.bind_some, Option.map_some]
  by_cases hw : (wanted.contains (u, v) && (u || v)) = true
  · rw [if_pos hw]
    rw [Bool.and_eq_true] at hw
    obtain ⟨w1, w2⟩ := hw
    have i1 := inP_pair wanted u v
    have i2 := neP_pair u v
    rw [w1] at i1
    rw [w2] at i2
    rcases List.eq_nil_or_concat acc with e | ⟨l, r, e⟩
    · subst e
      simp [addTick, encR, i1, i2]
      simp [encRs, encR]
    · subst e
      rw [List.concat_eq_append] at *
      by_cases hb : r.2 = z.1
      · simp [encRs_snoc, addTick, pds_app, encR, hb, i1, i2]
      · simp [encRs_snoc, addTick, pds_app, encR, hb, i1, i2]
        constructor
        · simp at h; omega
        · simp [encRs, pds, encR]
  · rw [if_neg hw]
    have i1 := inP_pair wanted u v
    have i2 := neP_pair u v
    cases hx : wanted.contains (u, v) with
    | false =>
      rw [hx] at i1
      simp [i1]
    | true =>
      rw [hx] at i1 hw
      have hv : (u || v) = false := by cases q : (u || v) <;> simp_all
      rw [hv] at i2
      simp [i1, i2]

theorem intsP_intsL (ns : List Int) : intsP (intsL ns) = some ns := intsP_map ns
theorem edges_len (rs : RL) : (edgesOf rs).length = 2 * rs.length := by
  induction rs with
  | nil => rfl
  | cons r rs ih => simp only [edgesOf, List.flatMap_cons, List.length_append, List.length_cons, List.length_nil] at ih ⊢; omega
theorem insI_len (k : Int) : ∀ r : List Int, (insI k r).length ≤ r.length + 1
  | [] => by simp [insI]
  | x :: r => by
    unfold insI
    split
    · simp
    · split
      · simp
      · have := insI_len k r; simp; omega
theorem ssetI_len (ns : List Int) : (ssetI ns).length ≤ ns.length := by
  unfold ssetI
  induction ns with
  | nil => simp
  | cons n ns ih => have := insI_len n (ns.foldr insI []); simp at ih ⊢; omega
theorem cutL_one (es : List P) : cutL es (some 1) none = es.tail := by
  unfold cutL
  have e1 : HT.sIx es.length 0 (some 1) = min 1 es.length := HT.sIx_nat es.length 0 1
  rw [e1, HT.sIx_none]
  cases es with
  | nil => rfl
  | cons x r =>
    rw [show min 1 (x :: r).length = 1 by simp]
    simp
theorem zip_ev (es : List Int) : zipL (intsL es) (intsL es).tail = (es.zip es.tail).map fun z => .tuple [.int z.1, .int z.2] := by
  have : (intsL es).tail = intsL es.tail := by cases es <;> rfl
  rw [this]
  exact zipL_map PyData.int PyData.int es es.tail
theorem put_together_sem (one other : RL) (wanted : List (Bool × Bool)) (h : one.length + other.length < 32) : put_together_s [.list (encRs one), .list (encRs other), .list (encW wanted)] = some (.list (encRs (putTogether one other wanted))) := by
  unfold put_together_s runQ runP put_together_d
  have hes : (putEdges one other).length < 64 := by
    have h1 := ssetI_len (edgesOf (one ++ other))
    have h2 := edges_len (one ++ other)
    simp at h2
    unfold putEdges
    omega
  have C : dComp2 (dIt (dBin addP (dLst (dCallL listP (dArgs [dV 0]))) (dLst (dCallL listP (dArgs [dV 1]))))) [8, 9] [9] (.nm 8) (dIt (dV 8)) (.nm 9) (dV 9) [.pd (.list (encRs one)), .pd (.list (encRs other)), .pd (.list (encW wanted)), .hole, .hole, .hole, .hole, .hole, .hole, .hole, .hole, .hole] =
      some (intsL (edgesOf (one ++ other)), [.pd (.list (encRs one)), .pd (.list (encRs other)), .pd (.list (encW wanted)), .hole, .hole, .hole, .hole, .hole, .hole, .hole, .hole, .hole]) := by
    have e := edges_ev (one ++ other) [.pd (.list (encRs one)), .pd (.list (encRs other)), .pd (.list (encW wanted)), .hole, .hole, .hole, .hole, .hole, .hole, .hole, .hole, .hole] (by simp)
    have ea : encRs (one ++ other) = encRs one ++ encRs other := by simp [encRs]
    have hl : addP (.list (encRs one)) (.list (encRs other)) = some (.list (encRs one ++ encRs other)) := by
      show (if _ then _ else _) = _
      rw [if_pos (by simp; omega)]
    rw [ea] at e
    unfold dComp2
    simp [hl, e, wipeR, fillR, ownOk, isPd, edges_len]
    omega
  have E : ssetP [.list (intsL (edgesOf (one ++ other)))] = some (intsL (putEdges one other)) := by
    have h2 := edges_len (one ++ other)
    simp at h2
    show ((intsP (intsL (edgesOf (one ++ other)))).bind fun ns => if ns.length < 64 then some ((ssetI ns).map PyData.int) else none) = _
    rw [intsP_intsL, Option.bind_some, if_pos (by omega)]
    rfl
  have L := forL_fold (t := .tcons (.nm 5) (.tcons (.nm 6) .tnil)) (body := put_together_b1)
    (fun z : Int × Int => .tuple [.int z.1, .int z.2]) (fun s : RL × D × D × D => [.pd (.list (encRs one)), .pd (.list (encRs other)), .pd (.list (encW wanted)), .pd (.list (intsL (putEdges one other))), .ol (pds (encRs s.1)), s.2.1, s.2.2.1, s.2.2.2, .hole, .hole, .hole, .hole]) (fun s z => (putStep one other wanted s.1 z, .pd (.int z.1), .pd (.int z.2), .pd (.tuple [.bool (covers one z.1), .bool (covers other z.1)]))) ((putEdges one other).zip (putEdges one other).tail) ([], .hole, .hole, .hole) (fun r s => s.1.length + r.length < 1000) (by simp; omega)
    (fun x r a hI => by
      have hl : a.1.length < 1000 := by simp at hI; omega
      refine ⟨?_, _, ?_, put_step one other wanted a.1 x _ a.2.2.2 _ _ hl (by omega) (by omega)⟩
      · have := addTick_len a.1 x.1 x.2
        simp [putStep] at hI ⊢
        split <;> omega
      · simp)
  have F : ∀ (zs : List (Int × Int)) (a : RL) (d e f : D), (zs.foldl (fun (s : RL × D × D × D) z => (putStep one other wanted s.1 z, D.pd (.int z.1), D.pd (.int z.2), D.pd (.tuple [.bool (covers one z.1), .bool (covers other z.1)]))) (a, d, e, f)).1 = zs.foldl (putStep one other wanted) a := by
    intro zs
    induction zs with
    | nil => intros; rfl
    | cons z zs ih => intro a d e f; exact ih _ _ _ _
  simp only [encRs_nil, pds_nil] at L
  have Z := zip_ev (putEdges one other)
  have S : sliceA (.list (intsL (putEdges one other))) (some 1) none = some (.list (intsL (putEdges one other)).tail) := by
    show some (PyData.list (cutL _ _ _)) = _
    rw [cutL_one]
  simp [C, E, S, Z, L, F, putTogether]
end
end HW

namespace HW
open PySem PySem.Spec PyProof.Rows L2
noncomputable section
theorem modP_pos {i j : Int} (h : 0 < j) : modP (.int i) (.int j) = some (.int (i % j)) := by
  show @ite _ (0 < j) (Classical.propDecidable _) _ _ = _
  rw [if_pos h]
theorem fdivP_pos {i j : Int} (h : 0 < j) (h2 : j < 1000000) : fdivP (.int i) (.int j) = some (.int (i / j)) := by
  show @ite _ (0 < j ∧ j < 1073741824) (Classical.propDecidable _) _ _ = _
  rw [if_pos ⟨h, by omega⟩]
theorem mulP_two {i : Int} : mulP (.int 2) (.int i) = some (.int (2 * i)) := by
  show @ite _ _ (Classical.propDecidable _) _ _ = _
  rw [if_pos (Or.inl ⟨by omega, by omega⟩)]
def pieceOf (steps long : Int) (r : Int × Int) : RL :=
  ((r.1 + steps) % long, if long < (r.1 + steps) % long + r.2 - r.1 then long else (r.1 + steps) % long + r.2 - r.1) ::
    (if long < (r.1 + steps) % long + r.2 - r.1 then [(0, (r.1 + steps) % long + r.2 - r.1 - long)] else [])
def turnedR (runs : RL) (steps long : Int) : RL := putTogether (runs.flatMap (pieceOf steps long)) [] [(true, false)]
theorem encRs_app (a b : RL) : encRs (a ++ b) = encRs a ++ encRs b := by simp [encRs]
theorem pieceOf_len (steps long : Int) (r : Int × Int) : (pieceOf steps long r).length ≤ 2 := by unfold pieceOf; split <;> simp
theorem pieces_len (steps long : Int) (runs : RL) : (runs.flatMap (pieceOf steps long)).length ≤ 2 * runs.length := by
  induction runs with
  | nil => simp
  | cons r rs ih => have := pieceOf_len steps long r; simp only [List.flatMap_cons, List.length_append, List.length_cons]; omega
theorem turned_step (p0 : D) (steps long : Int) (hl : 0 < long) (acc : RL) (r : Int × Int) (d6 d7 : D) (h : acc.length < 1000) :
    turned1_b1 [p0, .pd (.int steps), .pd (.int long), .ol (pds (encRs acc)), .pd (.int r.1), .pd (.int r.2), d6, d7] =
      some (.nx, [p0, .pd (.int steps), .pd (.int long), .ol (pds (encRs (acc ++ pieceOf steps long r))), .pd (.int r.1), .pd (.int r.2), .pd (.int ((r.1 + steps) % long)), .pd (.int ((r.1 + steps) % long + r.2 - r.1))]) := by
  unfold turned1_b1
  have m := modP_pos (i := r.1 + steps) hl
  have h1 : acc.length < 16777216 := by omega
  have h2 : acc.length + 1 < 16777216 := by omega
  by_cases hc : long < (r.1 + steps) % long + r.2 - r.1
  · simp [m, hc, pieceOf, encRs, encR, pds, h1, h2]
  · simp [m, hc, pieceOf, encRs, encR, pds, h1, h2]
theorem turned1_sem (runs : RL) (steps long : Int) (hl : 0 < long) (h : runs.length < 16) : turned1_s [.list (encRs runs), .int steps, .int long] = some (.list (encRs (turnedR runs steps long))) := by
  unfold turned1_s runQ runP turned1_d
  have L := forL_fold (t := .tcons (.nm 4) (.tcons (.nm 5) .tnil)) (body := turned1_b1) encR
    (fun s : RL × D × D × D × D => [.pd (.list (encRs runs)), .pd (.int steps), .pd (.int long), .ol (pds (encRs s.1)), s.2.1, s.2.2.1, s.2.2.2.1, s.2.2.2.2]) (fun s r => (s.1 ++ pieceOf steps long r, .pd (.int r.1), .pd (.int r.2), .pd (.int ((r.1 + steps) % long)), .pd (.int ((r.1 + steps) % long + r.2 - r.1)))) runs ([], .hole, .hole, .hole, .hole) (fun r s => s.1.length + 2 * r.length < 1000) (by simp; omega)
    (fun x r a hI => by
      have hl' : a.1.length < 1000 := by simp at hI; omega
      refine ⟨?_, _, ?_, turned_step _ steps long hl a.1 x a.2.2.2.1 a.2.2.2.2 hl'⟩
      · have := pieceOf_len steps long x
        simp at hI ⊢
        omega
      · simp [encR])
  have F : ∀ (zs : RL) (a : RL) (d e f g : D), (zs.foldl (fun (s : RL × D × D × D × D) r => (s.1 ++ pieceOf steps long r, D.pd (.int r.1), D.pd (.int r.2), D.pd (.int ((r.1 + steps) % long)), D.pd (.int ((r.1 + steps) % long + r.2 - r.1)))) (a, d, e, f, g)).1 = a ++ zs.flatMap (pieceOf steps long) := by
    intro zs
    induction zs with
    | nil => intros; simp
    | cons z zs ih => intro a d e f g; rw [List.foldl_cons, ih]; simp
  simp only [encRs_nil, pds_nil] at L
  have hL : List.map encR runs = encRs runs := rfl
  rw [hL] at L
  have P1 := put_together_sem (runs.flatMap (pieceOf steps long)) [] [(true, false)] (by have := pieces_len steps long runs; rw [List.length_nil]; omega)
  have e1 : encW [(true, false)] = [.tuple [.bool true, .bool false]] := rfl
  rw [encRs_nil, e1] at P1
  simp [L, F, P1, turnedR]
end
end HW

namespace HW
open PySem PySem.Spec PyProof.Rows L2
noncomputable section
theorem eqv_R (a b : Int × Int) : PyData.eqv (encR a) (encR b) = decide (a = b) := by
  obtain ⟨a1, a2⟩ := a
  obtain ⟨b1, b2⟩ := b
  simp only [encR, PyData.eqv, PyData.eqvAll, Bool.and_true, Prod.mk.injEq]
  by_cases h : a1 = b1 <;> by_cases h2 : a2 = b2 <;> simp [h, h2]
theorem eqv_Rs : ∀ a b : RL, PyData.eqvAll (encRs a) (encRs b) = decide (a = b)
  | [], [] => by simp [PyData.eqvAll]
  | [], _ :: _ => by simp [encRs, PyData.eqvAll]
  | _ :: _, [] => by simp [encRs, PyData.eqvAll]
  | x :: a, y :: b => by
    show PyData.eqvAll (encR x :: encRs a) (encR y :: encRs b) = _
    simp only [PyData.eqvAll, eqv_R, eqv_Rs a b, List.cons.injEq]
    by_cases h : x = y <;> by_cases h2 : a = b <;> simp [h, h2]
theorem depth_R (a : Int × Int) : (encR a).depth = 1 := by simp [encR, PyData.depth, PyData.depthAll]
theorem depth_Rs (a : RL) : (PyData.list (encRs a)).depth ≤ 2 := by
  have : PyData.depthAll (encRs a) ≤ 1 := depthAll_le fun x hx => by
    obtain ⟨r, _, rfl⟩ := List.mem_map.mp hx
    rw [depth_R]
    exact Nat.le_refl _
  simp only [PyData.depth]
  omega
theorem eqP_Rs (a b : RL) : eqP (.list (encRs a)) (.list (encRs b)) = some (decide (a = b)) := by
  unfold eqP
  rw [shal_of (by have := depth_Rs a; omega)]
  simp only [PyData.eqv, eqv_Rs, if_true]
def encO : Option Int → P
  | none => .none
  | some i => .int i
def alikeR (one other : RL) (long : Nat) : Option Nat := (List.range long).find? fun s : Nat => decide (turnedR one s long = turnedR other 0 long)
theorem alike_sem (one other : RL) (long : Nat) (hl : 0 < long) (hl2 : long < 1000) (h1 : one.length < 16) (h2 : other.length < 16) :
    alike_s [.list (encRs one), .list (encRs other), .int long] = some (encO ((alikeR one other long).map fun n => (n : Int))) := by
  have hl' : (0 : Int) < (long : Int) := by omega
  have t0 := turned1_sem other 0 long hl' h2
  have body : ∀ (s : Nat) (d : D), alike_b1 [.pd (.list (encRs one)), .pd (.list (encRs other)), .pd (.int long), .pd (.int s)] = if turnedR one s long = turnedR other 0 long then some (.rt (.pd (.int s)), [.pd (.list (encRs one)), .pd (.list (encRs other)), .pd (.int long), .pd (.int s)]) else some (.nx, [.pd (.list (encRs one)), .pd (.list (encRs other)), .pd (.int long), .pd (.int s)]) := fun s d => by
    unfold alike_b1
    have t1 := turned1_sem one s long hl' h1
    by_cases e : turnedR one s long = turnedR other 0 long
    · simp [t0, t1, eqP_Rs, e]
    · simp [t0, t1, eqP_Rs, e]
  have go : ∀ (ns : List Nat) (d : D), ∃ d', forL (.nm 3) alike_b1 (ns.map fun (i : Nat) => .int (i : Int)) [.pd (.list (encRs one)), .pd (.list (encRs other)), .pd (.int long), d] = match ns.find? fun s : Nat => decide (turnedR one s long = turnedR other 0 long) with
      | some s => some (.rt (.pd (.int s)), [.pd (.list (encRs one)), .pd (.list (encRs other)), .pd (.int long), d'])
      | none => some (.nx, [.pd (.list (encRs one)), .pd (.list (encRs other)), .pd (.int long), d']) := by
    intro ns
    induction ns with
    | nil => exact fun d => ⟨d, rfl⟩
    | cons n ns ih =>
      intro d
      rw [List.map_cons, List.find?_cons]
      unfold forL
      rw [bind_nm, Option.bind_some]
      show ∃ d', (alike_b1 [_, _, _, _]).bind _ = _
      rw [body n d]
      by_cases e : turnedR one n long = turnedR other 0 long
      · exact ⟨.pd (.int n), by simp [e]⟩
      · obtain ⟨d', hd⟩ := ih (.pd (.int n))
        exact ⟨d', by simpa [e] using hd⟩
  obtain ⟨d', G⟩ := go (List.range long) .hole
  have Rn := rng1P_nat long (by omega)
  unfold alike_s runQ runP alike_d
  unfold alikeR
  cases hf : (List.range long).find? fun s : Nat => decide (turnedR one s long = turnedR other 0 long) with
  | none =>
    rw [hf] at G
    simp [Rn, G, encO]
  | some s =>
    rw [hf] at G
    simp [Rn, G, encO]
end
end HW

namespace HW
open PySem PySem.Spec PyProof.Rows L2
noncomputable section
theorem rng2P_eq (i j : Int) : rng2P [.int i, .int j] = @ite _ (-(2 ^ 62) ≤ i ∧ i < 2 ^ 62 ∧ -(2 ^ 62) ≤ j ∧ j < 2 ^ 62) (Classical.propDecidable _) (some (rngL i (j - i).toNat)) none := rfl
theorem rng2P_one (n : Nat) (h : n < 1000000) : rng2P [.int 1, .int ((n : Int) + 1)] = some (((List.range n).map (· + 1)).map fun (i : Nat) => .int (i : Int)) := by
  rw [rng2P_eq, if_pos (by omega)]
  have e : ((n : Int) + 1 - 1).toNat = n := by omega
  rw [e]
  unfold rngL
  rw [List.map_map]
  congr 1
  apply List.map_congr_left
  intro i _
  show PyData.int _ = PyData.int _
  congr 1
  push_cast
  omega
def isRound (runs : RL) (long s : Nat) : Bool := decide (long % s = 0) && decide (turnedR runs s long = turnedR runs 0 long)
def leastRoundR (runs : RL) (long : Nat) : Option Nat := ((List.range long).map (· + 1)).find? (isRound runs long)
theorem least_round_sem (runs : RL) (long s : Nat) (hl : 0 < long) (hl2 : long < 1000) (h1 : runs.length < 16) (hs : leastRoundR runs long = some s) :
    least_round_s [.list (encRs runs), .int long] = some (.int s) := by
  have hl' : (0 : Int) < (long : Int) := by omega
  have t0 := turned1_sem runs 0 long hl' h1
  have C := dComp_pure (it := dItA rng2P (dArgs [(dC (.int 1)), (dBin addP (dV 1) (dC (.int 1)))])) (vs := [3]) (tg := .nm 3) (cnd := dAnd (dCmp eqP (dBin modP (dV 1) (dV 3)) (dC (.int 0))) (dCmp eqP (dCallN 3 turned1_s (dArgs [(dV 0), (dV 3), (dV 1)])) (dV 2))) (el := dV 3)
    (fun i : Nat => .int (i : Int)) (isRound runs long) (fun i : Nat => .int (i : Int)) ((List.range long).map (· + 1))
    [.pd (.list (encRs runs)), .pd (.int long), .pd (.list (encRs (turnedR runs 0 long))), .hole] [.pd (.list (encRs runs)), .pd (.int long), .pd (.list (encRs (turnedR runs 0 long))), .hole]
    (by simp [rng2P_one long (by omega)]) (by simp; omega) rfl rfl (fun i hi => by
      have hi0 : 0 < i := by
        obtain ⟨j, _, rfl⟩ := List.mem_map.mp hi
        exact Nat.succ_pos j
      refine ⟨[.pd (.list (encRs runs)), .pd (.int long), .pd (.list (encRs (turnedR runs 0 long))), .pd (.int i)], by simp [wipeR], ?_, fun _ => by simp⟩
      have t1 := turned1_sem runs i long hl' h1
      have m := modP_pos (i := (long : Int)) (j := (i : Int)) (by omega)
      have em : ((long : Int) % (i : Int) = 0) ↔ long % i = 0 := by omega
      by_cases hm : long % i = 0
      · by_cases e : turnedR runs i long = turnedR runs 0 long
        · simp [m, t1, eqP_Rs, hm, em, e, isRound]
        · simp [m, t1, eqP_Rs, hm, em, e, isRound]
      · simp [m, hm, em, isRound])
  unfold least_round_s runQ runP least_round_d
  have H : (((List.range long).map (· + 1)).filter (isRound runs long)).head? = some s := by rw [List.head?_filter]; exact hs
  cases hf : ((List.range long).map (· + 1)).filter (isRound runs long) with
  | nil => rw [hf] at H; cases H
  | cons a r =>
    rw [hf] at H
    cases H
    rw [hf] at C
    simp [t0, C]
end
end HW

namespace HW
open PySem PySem.Spec PyProof.Rows L2
noncomputable section
inductive Way where
  | ticks
  | runs
  | change
  | turn
  deriving DecidableEq
def wayS : Way → Str
  | .ticks => "ticks"
  | .runs => "runs"
  | .change => "change"
  | .turn => "turn"
def encWay (w : Way) : P := .str (wayS w)
theorem way_ne {a b : Str} (h : decide (a = b) = false) : eqP (.str a) (.str b) = some false := by rw [eqP_str, h]
theorem way_eq (a : Str) : eqP (.str a) (.str a) = some true := by rw [eqP_str]; simp
@[simp] theorem way_ticks (w : Way) : eqP (encWay w) (.str "ticks") = some (decide (w = .ticks)) := by
  cases w
  · exact way_eq _
  · exact way_ne (by decide)
  · exact way_ne (by decide)
  · exact way_ne (by decide)
@[simp] theorem way_runs (w : Way) : eqP (encWay w) (.str "runs") = some (decide (w = .runs)) := by
  cases w
  · exact way_ne (by decide)
  · exact way_eq _
  · exact way_ne (by decide)
  · exact way_ne (by decide)
@[simp] theorem way_turn (w : Way) : eqP (encWay w) (.str "turn") = some (decide (w = .turn)) := by
  cases w
  · exact way_ne (by decide)
  · exact way_ne (by decide)
  · exact way_ne (by decide)
  · exact way_eq _
def encB : Option RL → P
  | none => .none
  | some r => .list (encRs r)
@[simp] theorem isN_encB (b : Option RL) : isNP (encB b) = b.isNone := by cases b <;> rfl
@[simp] theorem isN_encO (b : Option Int) : isNP (encO b) = b.isNone := by cases b <;> rfl
def bothW : List (Bool × Bool) := [(true, false), (false, true)]
def costOf (w : Way) (runs : RL) (before : Option RL) (long : Nat) : Option Int := match w with
  | .ticks => some (1 + ((long : Int) + 7) / 8)
  | .runs => some (1 + 2 * (runs.length : Int))
  | .turn => before.bind fun b => if (alikeR b runs long).isSome then some 2 else none
  | .change => before.bind fun b => some (1 + 2 * ((putTogether runs b bothW).length : Int))
theorem cost_of_sem (w : Way) (runs : RL) (before : Option RL) (long : Nat) (hl : 0 < long) (hl2 : long < 1000) (h1 : runs.length < 16) (h2 : ∀ b, before = some b → b.length < 16) :
    cost_of_s [encWay w, .list (encRs runs), encB before, .int long] = some (encO (costOf w runs before long)) := by
  have f := fdivP_pos (i := (long : Int) + 7) (j := 8) (by omega) (by omega)
  have m := fun i : Int => mulP_two (i := i)
  unfold cost_of_s runQ runP cost_of_d
  cases w with
  | ticks => simp [f, costOf, encO]
  | runs => simp [m, costOf, encO]
  | turn =>
    cases before with
    | none => simp [costOf, encO, encB]
    | some b =>
      have a := alike_sem b runs long hl hl2 (h2 b rfl) h1
      cases ha : alikeR b runs long with
      | none =>
        rw [ha] at a
        simp [a, encB, costOf, ha, encO]
      | some s =>
        rw [ha] at a
        simp [a, encB, costOf, ha, encO]
  | change =>
    cases before with
    | none => simp [costOf, encO, encB]
    | some b =>
      have p := put_together_sem runs b bothW (by have := h2 b rfl; omega)
      have e1 : encW bothW = [.tuple [.bool true, .bool false], .tuple [.bool false, .bool true]] := rfl
      rw [e1] at p
      simp [p, m, encB, costOf, encO]
end
end HW

namespace HW
open PySem PySem.Spec PyProof.Rows L2
noncomputable section
abbrev Row := Int × Nat × Way
def encRow (r : Row) : P := .tuple [.int r.1, .int (r.2.1 : Int), encWay r.2.2]
theorem alike_row (a b : Row) : PySem.W.alike (encRow a) (encRow b) = true := by
  simp [encRow, encWay, PySem.W.alike, PySem.W.alikeAll]
theorem depth_row (a : Row) : (encRow a).depth = 1 := by simp [encRow, encWay, PyData.depth, PyData.depthAll]
theorem ordOk_rows (rs : List Row) : ordOk (rs.map encRow) = true := by
  unfold ordOk alikeB
  rw [Bool.and_eq_true]
  constructor
  · rw [List.all_eq_true]
    intro x hx
    obtain ⟨r, _, rfl⟩ := List.mem_map.mp hx
    rw [Bool.and_eq_true]
    refine ⟨rfl, ?_⟩
    rw [List.all_eq_true]
    intro y hy
    obtain ⟨r', _, rfl⟩ := List.mem_map.mp hy
    exact alike_row r r'
  · refine Nat.ble_eq_true_of_le (Nat.le_trans (depthAll_le (n := 1) fun x hx => ?_) (by omega))
    obtain ⟨r, _, rfl⟩ := List.mem_map.mp hx
    rw [depth_row]
    exact Nat.le_refl _
def rowLess (a b : Row) : Bool := PySem.W.dataLt (encRow a) (encRow b)
theorem rowLess_ne {a b : Row} (h : a.1 ≠ b.1) : rowLess a b = decide (a.1 < b.1) := by
  unfold rowLess PySem.W.dataLt encRow
  simp only [PySem.W.keyToks, PySem.W.keyToksAll]
  rw [PyProof.Rows.lex_self]
  exact PyProof.Rows.lex_diff (O := PyProof.Rows.itemOrd) (fun e => h (by simpa using e))
def bestRow (x : Row) (xs : List Row) : Row := xs.foldl (fun a y => if rowLess y a then y else a) x
theorem minD_rows : ∀ (xs : List Row) (x : Row), PySem.W.minD (encRow x) (xs.map encRow) = encRow (bestRow x xs)
  | [], x => rfl
  | y :: ys, x => by
    have ih := minD_rows ys (if rowLess y x then y else x)
    unfold PySem.W.minD at ih ⊢
    unfold bestRow
    rw [List.map_cons, List.foldl_cons, List.foldl_cons]
    have e : (if PySem.W.dataLt (encRow y) (encRow x) = true then encRow y else encRow x) = encRow (if rowLess y x then y else x) := by
      unfold rowLess
      split <;> rfl
    rw [e]
    exact ih
theorem bestRow_is : ∀ (xs : List Row) (x : Row), (bestRow x xs ∈ x :: xs) ∧ ∀ y ∈ x :: xs, (bestRow x xs).1 ≤ y.1
  | [], x => ⟨by simp [bestRow], fun y hy => by simp at hy; subst hy; exact Int.le_refl _⟩
  | z :: zs, x => by
    obtain ⟨h1, h2⟩ := bestRow_is zs (if rowLess z x then z else x)
    have e : bestRow x (z :: zs) = bestRow (if rowLess z x then z else x) zs := rfl
    rw [e]
    have le : (if rowLess z x then z else x).1 ≤ x.1 ∧ (if rowLess z x then z else x).1 ≤ z.1 := by
      by_cases hne : z.1 = x.1
      · split <;> constructor <;> omega
      · have := rowLess_ne hne
        rw [this]
        by_cases hlt : z.1 < x.1
        · simp only [decide_eq_true hlt, if_true]; omega
        · rw [decide_eq_false hlt, if_neg Bool.false_ne_true]; omega
    constructor
    · rcases List.mem_cons.mp h1 with h | h
      · rw [h]; split <;> simp
      · simp [h]
    · intro y hy
      have hb := h2 _ (List.mem_cons_self ..)
      rcases List.mem_cons.mp hy with rfl | hy
      · omega
      · rcases List.mem_cons.mp hy with rfl | hy
        · omega
        · exact h2 y (List.mem_cons_of_mem _ hy)
def ways4 : List (Way × Nat) := [(.ticks, 0), (.runs, 1), (.change, 2), (.turn, 3)]
def rowStep (runs : RL) (before : Option RL) (long : Nat) (acc : List Row) (z : Way × Nat) : List Row := match costOf z.1 runs before long with
  | some c => acc ++ [(c, z.2, z.1)]
  | none => acc
def rowsOf (runs : RL) (before : Option RL) (long : Nat) : List Row := ways4.foldl (rowStep runs before long) []
theorem coded_step1 (runs : RL) (before : Option RL) (long : Nat) (hl : 0 < long) (hl2 : long < 1000) (h1 : runs.length < 16) (h2 : ∀ b, before = some b → b.length < 16) (p0 p2 p3 d9 : D) (acc : List Row) (w : Way) (i : Nat) (ha : acc.length < 1000) :
    ∃ d, coded_b1 [p0, .pd (.int long), p2, p3, .pd (encB before), .pd (.list (encRs runs)), .ol (pds (acc.map encRow)), .pd (.int i), .pd (encWay w), d9] =
      some (.nx, [p0, .pd (.int long), p2, p3, .pd (encB before), .pd (.list (encRs runs)), .ol (pds ((rowStep runs before long acc (w, i)).map encRow)), .pd (.int i), .pd (encWay w), d]) := by
  have c := cost_of_sem w runs before long hl hl2 h1 h2
  unfold coded_b1 rowStep
  have hz : acc.length < 16777216 := by omega
  cases hc : costOf w runs before long with
  | none =>
    rw [hc] at c
    exact ⟨.pd .none, by simp [c, encO]⟩
  | some v =>
    rw [hc] at c
    exact ⟨.pd (.int v), by simp [c, encO, hz, encRow, pds]⟩
theorem rowStep_len (runs : RL) (before : Option RL) (long : Nat) (acc : List Row) (z : Way × Nat) : (rowStep runs before long acc z).length ≤ acc.length + 1 := by
  unfold rowStep
  split <;> simp
theorem coded_rows (runs : RL) (before : Option RL) (long : Nat) (hl : 0 < long) (hl2 : long < 1000) (h1 : runs.length < 16) (h2 : ∀ b, before = some b → b.length < 16) (p0 p2 p3 : D) :
    ∀ (zs : List (Way × Nat)) (acc : List Row) (d7 d8 d9 : D), acc.length + zs.length < 1000 → ∃ e7 e8 e9, forL (.tcons (.nm 7) (.tcons (.nm 8) .tnil)) coded_b1 (zs.map fun z => .tuple [.int (z.2 : Int), encWay z.1]) [p0, .pd (.int long), p2, p3, .pd (encB before), .pd (.list (encRs runs)), .ol (pds (acc.map encRow)), d7, d8, d9] =
      some (.nx, [p0, .pd (.int long), p2, p3, .pd (encB before), .pd (.list (encRs runs)), .ol (pds ((zs.foldl (rowStep runs before long) acc).map encRow)), e7, e8, e9])
  | [], acc, d7, d8, d9, _ => ⟨d7, d8, d9, rfl⟩
  | z :: zs, acc, d7, d8, d9, ha => by
    have ha' : acc.length < 1000 := by simp at ha; omega
    obtain ⟨d, hd⟩ := coded_step1 runs before long hl hl2 h1 h2 p0 p2 p3 d9 acc z.1 z.2 ha'
    have hlen := rowStep_len runs before long acc z
    obtain ⟨e7, e8, e9, ih⟩ := coded_rows runs before long hl hl2 h1 h2 p0 p2 p3 zs (rowStep runs before long acc z) (.pd (.int z.2)) (.pd (encWay z.1)) d (by simp at ha; omega)
    refine ⟨e7, e8, e9, ?_⟩
    rw [List.map_cons, List.foldl_cons]
    unfold forL
    simp only [bind_cons, bind_nm, bind_nil, Option.bind_some, List.set_cons_succ, List.set_cons_zero]
    rw [hd, Option.bind_some]
    exact ih
end
end HW

namespace HW
open PySem PySem.Spec PyProof.Rows L2
noncomputable section
theorem rows_cons (runs : RL) (before : Option RL) (long : Nat) : ∃ x xs, rowsOf runs before long = x :: xs := by
  have go : ∀ (zs : List (Way × Nat)) (x : Row) (acc : List Row), ∃ y ys, zs.foldl (rowStep runs before long) (x :: acc) = y :: ys := by
    intro zs
    induction zs with
    | nil => exact fun x acc => ⟨x, acc, rfl⟩
    | cons z zs ih =>
      intro x acc
      rw [List.foldl_cons]
      unfold rowStep
      split
      · rw [List.cons_append]; exact ih _ _
      · exact ih _ _
  exact go _ _ _
def chosen (runs : RL) (before : Option RL) (long : Nat) : Row := match rowsOf runs before long with
  | x :: xs => bestRow x xs
  | [] => (0, 0, .ticks)
theorem minP_rows (runs : RL) (before : Option RL) (long : Nat) : minP [.list ((rowsOf runs before long).map encRow)] = some (encRow (chosen runs before long)) := by
  obtain ⟨x, xs, e⟩ := rows_cons runs before long
  unfold chosen
  rw [e]
  show (if ordOk ((x :: xs).map encRow) = true then some (PySem.W.minD (encRow x) (xs.map encRow)) else none) = _
  rw [if_pos (ordOk_rows (x :: xs)), minD_rows]
theorem seq_nx {s1 s2 : SF} {ρ ρ1 : Sl} (h : s1 ρ = some (.nx, ρ1)) : dSeq s1 s2 ρ = s2 ρ1 := by rw [dSeq_, h]; rfl
abbrev CS := List Way × Int × Option RL
def codedStep (long : Nat) (s : CS) (runs : RL) : CS := (s.1 ++ [(chosen runs s.2.2 long).2.2], s.2.1 + (chosen runs s.2.2 long).1, some runs)
theorem enum4 : enumAP [.tuple [.str "ticks", .str "runs", .str "change", .str "turn"]] = some (ways4.map fun z => .tuple [.int (z.2 : Int), encWay z.1]) := rfl
theorem coded_step2 (p0 : D) (long : Nat) (hl : 0 < long) (hl2 : long < 1000) (s : CS) (runs : RL) (h1 : runs.length < 16) (h2 : ∀ b, s.2.2 = some b → b.length < 16) (hw : s.1.length < 1000) (d6 d7 d8 d9 : D) :
    ∃ e6 e7 e8 e9, coded_b2 [p0, .pd (.int long), .ol (pds (s.1.map encWay)), .pd (.int s.2.1), .pd (encB s.2.2), .pd (.list (encRs runs)), d6, d7, d8, d9] =
      some (.nx, [p0, .pd (.int long), .ol (pds ((codedStep long s runs).1.map encWay)), .pd (.int (codedStep long s runs).2.1), .pd (encB (codedStep long s runs).2.2), .pd (.list (encRs runs)), e6, e7, e8, e9]) := by
  obtain ⟨e7, e8, e9, L⟩ := coded_rows runs s.2.2 long hl hl2 h1 h2 p0 (.ol (pds (s.1.map encWay))) (.pd (.int s.2.1)) ways4 [] d7 d8 d9 (by simp [ways4])
  have m := minP_rows runs s.2.2 long
  have hz : s.1.length < 16777216 := by omega
  refine ⟨.pd (.list ((rowsOf runs s.2.2 long).map encRow)), e7, e8, e9, ?_⟩
  unfold coded_b2
  have e : List.foldl (rowStep runs s.2.2 long) [] ways4 = rowsOf runs s.2.2 long := rfl
  rw [e] at L
  simp only [List.map_nil, pds_nil] at L
  have k1 : (encRow (chosen runs s.2.2 long)) = .tuple [.int (chosen runs s.2.2 long).1, .int ((chosen runs s.2.2 long).2.1 : Int), encWay (chosen runs s.2.2 long).2.2] := rfl
  rw [k1] at m
  generalize hR : (rowsOf runs s.2.2 long).map encRow = Rw at *
  unfold codedStep
  generalize chosen runs s.2.2 long = ch at *
  have st1 : dSet 6 (dOl (dArgs [])) [p0, .pd (.int long), .ol (pds (s.1.map encWay)), .pd (.int s.2.1), .pd (encB s.2.2), .pd (.list (encRs runs)), d6, d7, d8, d9] = some (.nx, [p0, .pd (.int long), .ol (pds (s.1.map encWay)), .pd (.int s.2.1), .pd (encB s.2.2), .pd (.list (encRs runs)), .ol [], d7, d8, d9]) := by simp
  rw [seq_nx st1]
  have st2 : dFor (dItA enumAP (dArgs [(dTup [(dC (.str "ticks")), (dC (.str "runs")), (dC (.str "change")), (dC (.str "turn"))])])) (.tcons (.nm 7) (.tcons (.nm 8) .tnil)) coded_b1 [p0, .pd (.int long), .ol (pds (s.1.map encWay)), .pd (.int s.2.1), .pd (encB s.2.2), .pd (.list (encRs runs)), .ol [], d7, d8, d9] = some (.nx, [p0, .pd (.int long), .ol (pds (s.1.map encWay)), .pd (.int s.2.1), .pd (encB s.2.2), .pd (.list (encRs runs)), .ol (pds Rw), e7, e8, e9]) := by
    rw [dFor_]
    have : dItA enumAP (dArgs [(dTup [(dC (.str "ticks")), (dC (.str "runs")), (dC (.str "change")), (dC (.str "turn"))])]) [p0, .pd (.int long), .ol (pds (s.1.map encWay)), .pd (.int s.2.1), .pd (encB s.2.2), .pd (.list (encRs runs)), .ol [], d7, d8, d9] = some (ways4.map fun z => .tuple [.int (z.2 : Int), encWay z.1], [p0, .pd (.int long), .ol (pds (s.1.map encWay)), .pd (.int s.2.1), .pd (encB s.2.2), .pd (.list (encRs runs)), .ol [], d7, d8, d9]) := rfl
    rw [this, Option.bind_some]
    exact L
  rw [seq_nx st2]
  have st3 : dFz 6 (dApp 2 (dPd (dBin idxP (dCall minP (dArgs [(dV 6)])) (dC (.int 2))))) [p0, .pd (.int long), .ol (pds (s.1.map encWay)), .pd (.int s.2.1), .pd (encB s.2.2), .pd (.list (encRs runs)), .ol (pds Rw), e7, e8, e9] =
      some (.nx, [p0, .pd (.int long), .ol (pds ((s.1 ++ [ch.2.2]).map encWay)), .pd (.int s.2.1), .pd (encB s.2.2), .pd (.list (encRs runs)), .pd (.list Rw), e7, e8, e9]) := by
    simp [m, hz]
    simp [pds]
  rw [seq_nx st3]
  have st4 : dFz 6 (dSet 3 (dPd (dBin addP (dV 3) (dBin idxP (dCall minP (dArgs [(dV 6)])) (dC (.int 0)))))) [p0, .pd (.int long), .ol (pds ((s.1 ++ [ch.2.2]).map encWay)), .pd (.int s.2.1), .pd (encB s.2.2), .pd (.list (encRs runs)), .pd (.list Rw), e7, e8, e9] =
      some (.nx, [p0, .pd (.int long), .ol (pds ((s.1 ++ [ch.2.2]).map encWay)), .pd (.int (s.2.1 + ch.1)), .pd (encB s.2.2), .pd (.list (encRs runs)), .pd (.list Rw), e7, e8, e9]) := by
    simp [m]
  rw [seq_nx st4]
  simp [encB]
end
end HW

namespace HW
open PySem PySem.Spec PyProof.Rows L2
noncomputable section
def encBk (book : List RL) : List P := book.map fun r => .list (encRs r)
def codedR (book : List RL) (long : Nat) : CS := book.foldl (codedStep long) ([], 0, none)
theorem codedR_loop (p0 : D) (long : Nat) (hl : 0 < long) (hl2 : long < 1000) : ∀ (book : List RL) (s : CS) (d5 d6 d7 d8 d9 : D), (∀ r ∈ book, r.length < 16) → (∀ b, s.2.2 = some b → b.length < 16) → s.1.length + book.length < 1000 →
    ∃ e5 e6 e7 e8 e9, forL (.nm 5) coded_b2 (encBk book) [p0, .pd (.int long), .ol (pds (s.1.map encWay)), .pd (.int s.2.1), .pd (encB s.2.2), d5, d6, d7, d8, d9] =
      some (.nx, [p0, .pd (.int long), .ol (pds ((book.foldl (codedStep long) s).1.map encWay)), .pd (.int (book.foldl (codedStep long) s).2.1), .pd (encB (book.foldl (codedStep long) s).2.2), e5, e6, e7, e8, e9])
  | [], s, d5, d6, d7, d8, d9, _, _, _ => ⟨d5, d6, d7, d8, d9, rfl⟩
  | r :: rs, s, d5, d6, d7, d8, d9, hb, hs, hn => by
    obtain ⟨e6, e7, e8, e9, h⟩ := coded_step2 p0 long hl hl2 s r (hb r (by simp)) hs (by simp at hn; omega) d6 d7 d8 d9
    obtain ⟨f5, f6, f7, f8, f9, ih⟩ := codedR_loop p0 long hl hl2 rs (codedStep long s r) (.pd (.list (encRs r))) e6 e7 e8 e9 (fun x hx => hb x (by simp [hx])) (fun b hbb => by
      have : r = b := by simpa [codedStep] using hbb
      rw [← this]
      exact hb r (by simp)) (by simp [codedStep] at hn ⊢; omega)
    refine ⟨f5, f6, f7, f8, f9, ?_⟩
    show forL (.nm 5) coded_b2 (.list (encRs r) :: encBk rs) _ = _
    unfold forL
    simp only [bind_nm, Option.bind_some, List.set_cons_succ, List.set_cons_zero]
    rw [h, Option.bind_some, List.foldl_cons]
    exact ih
theorem coded_sem (book : List RL) (long : Nat) (hl : 0 < long) (hl2 : long < 1000) (hb : ∀ r ∈ book, r.length < 16) (hn : book.length < 1000) :
    coded_s [.list (encBk book), .int long] = some (.tuple [.list ((codedR book long).1.map encWay), .int (codedR book long).2.1]) := by
  obtain ⟨e5, e6, e7, e8, e9, L⟩ := codedR_loop (.pd (.list (encBk book))) long hl hl2 book ([], 0, none) .hole .hole .hole .hole .hole hb (fun b h => by cases h) (by simpa using hn)
  have e : List.foldl (codedStep long) ([], 0, none) book = codedR book long := rfl
  rw [e] at L
  generalize codedR book long = cr at *
  simp only [List.map_nil, pds_nil, encB] at L
  unfold coded_s runQ runP coded_d
  simp [L]
/-! changes, order_cost -/
def changesR (one other : RL) : Int := 2 * ((putTogether one other bothW).length : Int)
theorem changes_sem (one other : RL) (h1 : one.length < 16) (h2 : other.length < 16) : changes_s [.list (encRs one), .list (encRs other)] = some (.int (changesR one other)) := by
  have p := put_together_sem one other bothW (by omega)
  have e1 : encW bothW = [.tuple [.bool true, .bool false], .tuple [.bool false, .bool true]] := rfl
  rw [e1] at p
  have m := fun i : Int => mulP_two (i := i)
  unfold changes_s runQ runP changes_d
  simp [p, m, changesR]
end
end HW

namespace HW
open PySem PySem.Spec PyProof.Rows L2
noncomputable section
def costStep (s : Int × RL) (r : RL) : Int × RL := (s.1 + changesR s.2 r, r)
theorem order_loop (book : List RL) (hb : ∀ r ∈ book, r.length < 16) (p1 : D) : ∀ (m k : Nat) (s : Int × RL) (d : D), k + m = book.length → s.2.length < 16 →
    ∃ e, forL (.nm 4) order_cost_b1 ((List.range' k m).map fun (i : Nat) => .int (i : Int)) [.pd (.list (encBk book)), p1, .pd (.int s.1), .pd (.list (encRs s.2)), d] =
      some (.nx, [.pd (.list (encBk book)), p1, .pd (.int ((book.drop k).foldl costStep s).1), .pd (.list (encRs ((book.drop k).foldl costStep s).2)), e])
  | 0, k, s, d, hk, _ => ⟨d, by rw [List.drop_of_length_le (by omega)]; rfl⟩
  | m + 1, k, s, d, hk, hs => by
    have hlt : k < book.length := by omega
    have hr : (book[k]).length < 16 := hb _ (List.getElem_mem hlt)
    obtain ⟨e, ih⟩ := order_loop book hb p1 m (k + 1) (costStep s book[k]) (.pd (.int k)) (by omega) hr
    refine ⟨e, ?_⟩
    have c := changes_sem s.2 book[k] hs hr
    have g : atI (encBk book) (k : Int) = some (.list (encRs book[k])) := atI_natP (by unfold encBk; rw [List.getElem?_map, List.getElem?_eq_getElem hlt]; rfl)
    have st : order_cost_b1 [.pd (.list (encBk book)), p1, .pd (.int s.1), .pd (.list (encRs s.2)), .pd (.int k)] = some (.nx, [.pd (.list (encBk book)), p1, .pd (.int (costStep s book[k]).1), .pd (.list (encRs (costStep s book[k]).2)), .pd (.int k)]) := by
      unfold order_cost_b1
      simp [c, g, costStep]
    rw [List.range'_succ, List.map_cons, List.drop_eq_getElem_cons hlt, List.foldl_cons]
    unfold forL
    simp only [bind_nm, Option.bind_some, List.set_cons_succ, List.set_cons_zero]
    rw [st, Option.bind_some]
    exact ih
theorem order_cost_sem (book : List RL) (hb : ∀ r ∈ book, r.length < 16) : order_cost_s [.list (encBk book), .list ((List.range book.length).map fun (i : Nat) => .int (i : Int))] = some (.int (book.foldl costStep (0, [])).1) := by
  obtain ⟨e, L⟩ := order_loop book hb (.pd (.list ((List.range book.length).map fun (i : Nat) => .int (i : Int)))) book.length 0 (0, []) .hole (by omega) (by simp)
  rw [← List.range_eq_range', List.drop_zero] at L
  simp only [encRs_nil] at L
  generalize List.foldl costStep (0, []) book = z at *
  unfold order_cost_s runQ runP order_cost_d
  simp [L]
/-! ### rhythms -/
def strsL (xs : List Str) : List P := xs.map .str
@[simp] theorem strsL_len (xs : List Str) : (strsL xs).length = xs.length := by simp [strsL]
theorem eqv_strs : ∀ a b : List Str, PyData.eqvAll (strsL a) (strsL b) = decide (a = b)
  | [], [] => by simp [strsL, PyData.eqvAll]
  | [], _ :: _ => by simp [strsL, PyData.eqvAll]
  | _ :: _, [] => by simp [strsL, PyData.eqvAll]
  | x :: a, y :: b => by
    show PyData.eqvAll (.str x :: strsL a) (.str y :: strsL b) = _
    simp only [PyData.eqvAll, eqv_strs a b, PyData.eqv, List.cons.injEq]
    by_cases h : x = y
    · subst h
      by_cases h2 : a = b <;> simp [h2]
    · simp [h]
theorem eqP_strs (a b : List Str) : eqP (.list (strsL a)) (.list (strsL b)) = some (decide (a = b)) := by
  unfold eqP
  have : PyData.depthAll (strsL a) ≤ 0 := depthAll_le fun x hx => by
    obtain ⟨r, _, rfl⟩ := List.mem_map.mp hx
    simp
  rw [shal_of (by simp only [PyData.depth]; omega)]
  simp only [PyData.eqv, eqv_strs, if_true]
theorem cutL_to (xs : List P) (k : Nat) : cutL xs none (some (k : Int)) = xs.take k := by
  unfold cutL
  rw [HT.sIx_none, HT.sIx_nat]
  simp only [List.drop_zero, Nat.sub_zero]
  rw [List.take_eq_take_iff]
  omega
theorem cutL_from (xs : List P) (k : Nat) : cutL xs (some (k : Int)) none = xs.drop k := by
  unfold cutL
  rw [HT.sIx_none, HT.sIx_nat]
  by_cases h : k ≤ xs.length
  · rw [Nat.min_eq_left h]
    exact List.take_of_length_le (by simp)
  · rw [Nat.min_eq_right (by omega), List.drop_of_length_le (Nat.le_refl _), List.drop_of_length_le (by omega)]
    simp
theorem strs_take (xs : List Str) (k : Nat) : (strsL xs).take k = strsL (xs.take k) := by simp [strsL]
theorem strs_drop (xs : List Str) (k : Nat) : (strsL xs).drop k = strsL (xs.drop k) := by simp [strsL]
theorem strs_app (xs ys : List Str) : strsL xs ++ strsL ys = strsL (xs ++ ys) := by simp [strsL]
theorem slA_to (xs : List P) (k : Nat) : sliceA (.list xs) none (some (k : Int)) = some (.list (xs.take k)) := by
  show some (PyData.list (cutL xs none (some (k : Int)))) = _
  rw [cutL_to]
theorem slA_from (xs : List P) (k : Nat) : sliceA (.list xs) (some (k : Int)) none = some (.list (xs.drop k)) := by
  show some (PyData.list (cutL xs (some (k : Int)) none)) = _
  rw [cutL_from]
theorem mulP_list (xs : List P) (k : Nat) (h : k < 1000000) (h2 : xs.length * k < 1000000) : mulP (.list xs) (.int (k : Int)) = some (.list (List.replicate k xs).flatten) := by
  show @ite _ _ (Classical.propDecidable _) _ _ = _
  rw [if_pos ⟨by omega, by omega, by simp; omega⟩]
  simp
theorem strs_rep (xs : List Str) (k : Nat) : (List.replicate k (strsL xs)).flatten = strsL (List.replicate k xs).flatten := by simp [strsL]
def isPeriod (xs : List Str) (s : Nat) : Bool := decide (xs.length % s = 0) && decide ((List.replicate (xs.length / s) (xs.take s)).flatten = xs)
def leastTurn (xs : List Str) : List Str := match ((List.range xs.length).map (· + 1)).find? (isPeriod xs) with
  | some s => xs.take s
  | none => xs
theorem least_turn_sem (xs : List Str) (h : xs.length < 1000) : least_turn_s [.list (strsL xs)] = some (.list (strsL (leastTurn xs))) := by
  have body : ∀ s : Nat, 0 < s → s ≤ xs.length → least_turn_b1 [.pd (.list (strsL xs)), .pd (.int s)] = if isPeriod xs s = true then some (.rt (.pd (.list (strsL (xs.take s)))), [.pd (.list (strsL xs)), .pd (.int s)]) else some (.nx, [.pd (.list (strsL xs)), .pd (.int s)]) := fun s hs hs2 => by
    have m := modP_pos (i := (xs.length : Int)) (j := (s : Int)) (by omega)
    have f := fdivP_pos (i := (xs.length : Int)) (j := (s : Int)) (by omega) (by omega)
    have hd : xs.length / s ≤ xs.length := Nat.div_le_self _ _
    have hm2 : s * (xs.length / s) ≤ xs.length := Nat.mul_div_le _ _
    have r := mulP_list (strsL (xs.take s)) (xs.length / s) (by omega) (by rw [strsL_len, List.length_take, Nat.min_eq_left hs2]; omega)
    rw [strs_rep] at r
    rw [← Int.natCast_emod] at m
    rw [← Int.natCast_ediv] at f
    unfold least_turn_b1 isPeriod
    generalize xs.length / s = q at *
    generalize xs.length % s = z at *
    by_cases hm : z = 0
    · subst hm
      by_cases he : (List.replicate q (xs.take s)).flatten = xs
      · have hq := eqP_strs (List.replicate q (xs.take s)).flatten xs
        have hq2 := eqP_strs xs xs
        rw [decide_eq_true rfl] at hq2
        simp [m, f, slA_to, strs_take, r, hq2, he]
      · have hq := eqP_strs (List.replicate q (xs.take s)).flatten xs
        rw [decide_eq_false he] at hq
        simp [m, f, slA_to, strs_take, r, hq, he]
    · have hz : ¬ ((z : Int) = 0) := by omega
      simp [m, hm, hz]
  have go : ∀ (ns : List Nat) (d : D), (∀ s ∈ ns, 0 < s ∧ s ≤ xs.length) → ∃ d', forL (.nm 1) least_turn_b1 (ns.map fun (i : Nat) => .int (i : Int)) [.pd (.list (strsL xs)), d] = match ns.find? (isPeriod xs) with
      | some s => some (.rt (.pd (.list (strsL (xs.take s)))), [.pd (.list (strsL xs)), d'])
      | none => some (.nx, [.pd (.list (strsL xs)), d']) := by
    intro ns
    induction ns with
    | nil => exact fun d _ => ⟨d, rfl⟩
    | cons n ns ih =>
      intro d hn
      rw [List.map_cons, List.find?_cons]
      unfold forL
      rw [bind_nm, Option.bind_some]
      show ∃ d', (least_turn_b1 [_, _]).bind _ = _
      rw [body n (hn n (by simp)).1 (hn n (by simp)).2]
      cases e : isPeriod xs n with
      | true => exact ⟨.pd (.int n), rfl⟩
      | false =>
        obtain ⟨d', hd⟩ := ih (.pd (.int n)) fun s hs => hn s (by simp [hs])
        exact ⟨d', hd⟩
  obtain ⟨d', G⟩ := go ((List.range xs.length).map (· + 1)) .hole (fun s hs => by
    obtain ⟨j, hj, rfl⟩ := List.mem_map.mp hs
    have := List.mem_range.mp hj
    exact ⟨Nat.succ_pos j, by show j + 1 ≤ _; omega⟩)
  have Rn := rng2P_one xs.length (by omega)
  unfold least_turn_s runQ runP least_turn_d leastTurn
  cases hf : ((List.range xs.length).map (· + 1)).find? (isPeriod xs) with
  | none =>
    rw [hf] at G
    simp only [] at G
    rw [List.map_map] at G Rn
    simp [Rn, G]
  | some s =>
    rw [hf] at G
    simp only [] at G
    rw [List.map_map] at G Rn
    simp [Rn, G]
end
end HW

namespace HW
open PySem PySem.Spec PyProof.Rows L2
noncomputable section
def rot (xs : List Str) (b : Nat) : List Str := xs.drop (b % xs.length) ++ xs.take (b % xs.length)
theorem addP_list {xs ys : List P} (h : xs.length + ys.length < 1000000) : addP (.list xs) (.list ys) = some (.list (xs ++ ys)) := by
  show (if _ then _ else _) = _
  rw [if_pos (by omega)]
theorem turned2_sem (xs : List Str) (b : Nat) (h : 0 < xs.length) (h2 : xs.length < 1000) : turned2_s [.list (strsL xs), .int b] = some (.list (strsL (rot xs b))) := by
  have m := modP_pos (i := (b : Int)) (j := (xs.length : Int)) (by omega)
  rw [← Int.natCast_emod] at m
  have hz : b % xs.length < xs.length := Nat.mod_lt _ h
  unfold turned2_s runQ runP turned2_d rot
  generalize b % xs.length = z at *
  have a := addP_list (xs := strsL (xs.drop z)) (ys := strsL (xs.take z)) (by simp; omega)
  rw [strs_app] at a
  simp [m, slA_to, slA_from, strs_take, strs_drop, a]
theorem leastTurn_len (xs : List Str) : (leastTurn xs).length ≤ xs.length := by
  unfold leastTurn
  split
  · simp; omega
  · exact Nat.le_refl _
def sbfb (one other : List Str) : Option Nat := if (leastTurn one).length = (leastTurn other).length then (List.range (leastTurn one).length).find? fun b => decide (rot (leastTurn one) b = leastTurn other) else none
theorem same_but_for_begin_sem (one other : List Str) (h1 : one.length < 1000) (h2 : other.length < 1000) :
    same_but_for_begin_s [.list (strsL one), .list (strsL other)] = some (encO ((sbfb one other).map fun n => (n : Int))) := by
  have l1 := least_turn_sem one h1
  have l2 := least_turn_sem other h2
  have k1 := leastTurn_len one
  unfold sbfb
  generalize leastTurn one = L at *
  generalize leastTurn other = R at *
  have body : ∀ s : Nat, s < L.length → same_but_for_begin_b1 [.pd (.list (strsL one)), .pd (.list (strsL other)), .pd (.list (strsL L)), .pd (.list (strsL R)), .pd (.int s)] = if rot L s = R then some (.rt (.pd (.int s)), [.pd (.list (strsL one)), .pd (.list (strsL other)), .pd (.list (strsL L)), .pd (.list (strsL R)), .pd (.int s)]) else some (.nx, [.pd (.list (strsL one)), .pd (.list (strsL other)), .pd (.list (strsL L)), .pd (.list (strsL R)), .pd (.int s)]) := fun s hs => by
    unfold same_but_for_begin_b1
    have t1 := turned2_sem L s (by omega) (by omega)
    have q := eqP_strs (rot L s) R
    by_cases e : rot L s = R
    · rw [decide_eq_true e] at q
      rw [if_pos e]
      simp [t1, q]
    · rw [decide_eq_false e] at q
      rw [if_neg e]
      simp [t1, q]
  have go : ∀ (ns : List Nat) (d : D), (∀ s ∈ ns, s < L.length) → ∃ d', forL (.nm 4) same_but_for_begin_b1 (ns.map fun (i : Nat) => .int (i : Int)) [.pd (.list (strsL one)), .pd (.list (strsL other)), .pd (.list (strsL L)), .pd (.list (strsL R)), d] = match ns.find? fun s : Nat => decide (rot L s = R) with
      | some s => some (.rt (.pd (.int s)), [.pd (.list (strsL one)), .pd (.list (strsL other)), .pd (.list (strsL L)), .pd (.list (strsL R)), d'])
      | none => some (.nx, [.pd (.list (strsL one)), .pd (.list (strsL other)), .pd (.list (strsL L)), .pd (.list (strsL R)), d']) := by
    intro ns
    induction ns with
    | nil => exact fun d _ => ⟨d, rfl⟩
    | cons n ns ih =>
      intro d hn
      rw [List.map_cons, List.find?_cons]
      unfold forL
      rw [bind_nm, Option.bind_some]
      show ∃ d', (same_but_for_begin_b1 [_, _, _, _, _]).bind _ = _
      rw [body n (hn n (by simp))]
      by_cases e : rot L n = R
      · exact ⟨.pd (.int n), by simp [e]⟩
      · obtain ⟨d', hd⟩ := ih (.pd (.int n)) fun s hs => hn s (by simp [hs])
        exact ⟨d', by simpa [e] using hd⟩
  obtain ⟨d', G⟩ := go (List.range L.length) .hole (fun s hs => List.mem_range.mp hs)
  have Rn := rng1P_nat L.length (by omega)
  unfold same_but_for_begin_s runQ runP same_but_for_begin_d
  have nq := neP_int (L.length : Int) (R.length : Int)
  by_cases hl : L.length = R.length
  · rw [if_pos hl]
    have hl' : (L.length : Int) = (R.length : Int) := by omega
    rw [decide_eq_true hl'] at nq
    cases hf : (List.range L.length).find? fun s : Nat => decide (rot L s = R) with
    | none =>
      rw [hf] at G
      simp only [] at G
      simp [l1, l2, nq, Rn, G, encO]
    | some s =>
      rw [hf] at G
      simp only [] at G
      simp [l1, l2, nq, Rn, G, encO]
  · rw [if_neg hl]
    have hl' : ¬ (L.length : Int) = (R.length : Int) := by omega
    rw [decide_eq_false hl'] at nq
    simp [l1, l2, nq, encO]
end
end HW

namespace HW
open PySem PySem.Spec PyProof.Rows L2
noncomputable section
abbrev Start := Nat × Nat
def encSt (z : Start) : P := .tuple [.int (z.1 : Int), .int (z.2 : Int)]
def encRh (rs : List (List Str)) : List P := rs.map fun r => .list (strsL r)
def startsAt (z : List Str × Nat) : List Start := (List.range (leastTurn z.1).length).map fun b => (z.2, b)
def startsOf (rs : List (List Str)) : List Start := rs.zipIdx.flatMap startsAt
theorem starts_step (p0 d4 : D) (acc : List Start) (r : List Str) (k : Nat) (hr : r.length < 1000) (ha : acc.length < 100000) (h4 : isPd d4 = true) :
    starts_of_b1 [p0, .ol (pds (acc.map encSt)), .pd (.int k), .pd (.list (strsL r)), d4] = some (.nx, [p0, .ol (pds ((acc ++ startsAt (r, k)).map encSt)), .pd (.int k), .pd (.list (strsL r)), d4]) := by
  have l := least_turn_sem r hr
  have hl := leastTurn_len r
  unfold startsAt
  generalize leastTurn r = L at *
  have Rn := rng1P_nat L.length (by omega)
  have C := dComp_map (it := dItA rng1P (dArgs [(dCall lenP (dArgs [(dCallN 1 least_turn_s (dArgs [(dV 3)]))]))])) (vs := [4]) (tg := .nm 4) (el := dTup [(dV 2), (dV 4)]) (fun i : Nat => .int (i : Int)) (fun i : Nat => encSt (k, i)) (List.range L.length)
    [p0, .ol (pds (acc.map encSt)), .pd (.int k), .pd (.list (strsL r)), d4] [p0, .ol (pds (acc.map encSt)), .pd (.int k), .pd (.list (strsL r)), d4]
    (by simp [l, Rn]) (by simp; omega) (by simp [ownOk, h4]) rfl (fun i _ => ⟨_, by simp only [bind_nm]; rfl, by simp [wipeR, encSt]⟩)
  unfold starts_of_b1
  rw [dExt_]
  simp only [C, Option.bind_some, someL_, List.getElem?_cons_succ, List.getElem?_cons_zero, if_true, pds_len, List.length_map, List.length_range]
  rw [if_pos (by omega)]
  simp [pds, Function.comp_def]
theorem startsAt_len (z : List Str × Nat) : (startsAt z).length ≤ z.1.length := by
  unfold startsAt
  rw [List.length_map, List.length_range]
  exact leastTurn_len _
theorem starts_loop (p0 : D) : ∀ (zs : List (List Str × Nat)) (acc : List Start) (d2 d3 d4 : D), (∀ z ∈ zs, z.1.length < 100) → acc.length + 100 * zs.length < 100000 → isPd d4 = true →
    ∃ e2 e3, forL (.tcons (.nm 2) (.tcons (.nm 3) .tnil)) starts_of_b1 (zs.map fun z => .tuple [.int (z.2 : Int), .list (strsL z.1)]) [p0, .ol (pds (acc.map encSt)), d2, d3, d4] = some (.nx, [p0, .ol (pds ((acc ++ zs.flatMap startsAt).map encSt)), e2, e3, d4])
  | [], acc, d2, d3, d4, _, _, _ => ⟨d2, d3, by simp⟩
  | z :: zs, acc, d2, d3, d4, hz, ha, h4 => by
    have h1 := hz z (by simp)
    have h2 := startsAt_len z
    have st := starts_step p0 d4 acc z.1 z.2 (by omega) (by simp at ha; omega) h4
    obtain ⟨e2, e3, ih⟩ := starts_loop p0 zs (acc ++ startsAt z) (.pd (.int z.2)) (.pd (.list (strsL z.1))) d4 (fun y hy => hz y (by simp [hy])) (by simp at ha ⊢; omega) h4
    refine ⟨e2, e3, ?_⟩
    rw [List.map_cons]
    unfold forL
    simp only [bind_cons, bind_nm, bind_nil, Option.bind_some, List.set_cons_succ, List.set_cons_zero]
    rw [st, Option.bind_some, List.flatMap_cons, ← List.append_assoc]
    exact ih
theorem starts_of_sem (rs : List (List Str)) (h : ∀ r ∈ rs, r.length < 100) (hn : rs.length < 900) : starts_of_s [.list (encRh rs)] = some (.list ((startsOf rs).map encSt)) := by
  obtain ⟨e2, e3, L⟩ := starts_loop (.pd (.list (encRh rs))) rs.zipIdx [] .hole .hole .hole (fun z hz => h z.1 (List.fst_mem_of_mem_zipIdx hz)) (by simp; omega) rfl
  have E : enumL 0 (encRh rs) = rs.zipIdx.map fun z => .tuple [.int (z.2 : Int), .list (strsL z.1)] := enumL_map _ rs 0
  simp only [List.map_nil, pds_nil, List.nil_append] at L
  unfold starts_of_s runQ runP starts_of_d startsOf
  generalize rs.zipIdx.flatMap startsAt = S at *
  simp [E, L]
/-! at, bar_of -/
theorem at_sem (xs : List Str) (i : Nat) (y : Str) (h : 0 < xs.length) (hy : xs[i % xs.length]? = some y) : at_s [.list (strsL xs), .int i] = some (.str y) := by
  have m := modP_pos (i := (i : Int)) (j := (xs.length : Int)) (by omega)
  rw [← Int.natCast_emod] at m
  unfold at_s runQ runP at_d
  generalize i % xs.length = z at *
  have g : atI (strsL xs) (z : Int) = some (.str y) := atI_natP (by unfold strsL; rw [List.getElem?_map, hy]; rfl)
  simp [m, g]
def encH : Option Str → P
  | none => .none
  | some x => .str x
@[simp] theorem isN_encH (b : Option Str) : isNP (encH b) = b.isNone := by cases b <;> rfl
/-- the sound at a tick does not stand against what was heard -/
def okAt (r : List Str) (b : Nat) (z : Option Str × Nat) : Bool := match z.1 with
  | none => true
  | some x => decide (r[(b + z.2) % r.length]? = some x)
def barOf (r : List Str) (b : Nat) (heard : List (Option Str)) : Option Nat := (heard.zipIdx.find? fun z => !okAt r b z).map (·.2)
theorem bar_of_sem (r : List Str) (b : Nat) (heard : List (Option Str)) (h : 0 < r.length) : bar_of_s [.list (strsL r), .int b, .list (heard.map encH)] = some (encO ((barOf r b heard).map fun n => (n : Int))) := by
  have body : ∀ z : Option Str × Nat, bar_of_b1 [.pd (.list (strsL r)), .pd (.int b), .pd (.list (heard.map encH)), .pd (.int z.2), .pd (encH z.1)] = if okAt r b z = true then some (.nx, [.pd (.list (strsL r)), .pd (.int b), .pd (.list (heard.map encH)), .pd (.int z.2), .pd (encH z.1)]) else some (.rt (.pd (.int z.2)), [.pd (.list (strsL r)), .pd (.int b), .pd (.list (heard.map encH)), .pd (.int z.2), .pd (encH z.1)]) := fun z => by
    obtain ⟨x, k⟩ := z
    unfold bar_of_b1 okAt
    cases x with
    | none => simp
    | some x =>
      have hlt : (b + k) % r.length < r.length := Nat.mod_lt _ h
      obtain ⟨y, e1⟩ : ∃ y, r[(b + k) % r.length]? = some y := ⟨_, List.getElem?_eq_getElem hlt⟩
      have a := at_sem r (b + k) y h e1
      rw [Int.natCast_add] at a
      have q := eqP_str y x
      rw [e1]
      by_cases e : y = x
      · rw [decide_eq_true e] at q
        simp [encH, a, neP, q, e]
      · rw [decide_eq_false e] at q
        simp [encH, a, neP, q, e]
  have go : ∀ (zs : List (Option Str × Nat)) (d3 d4 : D), ∃ e3 e4, forL (.tcons (.nm 3) (.tcons (.nm 4) .tnil)) bar_of_b1 (zs.map fun z => .tuple [.int (z.2 : Int), encH z.1]) [.pd (.list (strsL r)), .pd (.int b), .pd (.list (heard.map encH)), d3, d4] = match zs.find? (fun z => !okAt r b z) with
      | some z => some (.rt (.pd (.int z.2)), [.pd (.list (strsL r)), .pd (.int b), .pd (.list (heard.map encH)), e3, e4])
      | none => some (.nx, [.pd (.list (strsL r)), .pd (.int b), .pd (.list (heard.map encH)), e3, e4]) := by
    intro zs
    induction zs with
    | nil => exact fun d3 d4 => ⟨d3, d4, rfl⟩
    | cons z zs ih =>
      intro d3 d4
      rw [List.map_cons, List.find?_cons]
      unfold forL
      simp only [bind_cons, bind_nm, bind_nil, Option.bind_some, List.set_cons_succ, List.set_cons_zero]
      rw [body z]
      cases e : okAt r b z with
      | true =>
        obtain ⟨e3, e4, hd⟩ := ih (.pd (.int z.2)) (.pd (encH z.1))
        exact ⟨e3, e4, by simpa using hd⟩
      | false => exact ⟨.pd (.int z.2), .pd (encH z.1), by simp⟩
  obtain ⟨e3, e4, G⟩ := go heard.zipIdx .hole .hole
  have E : enumL 0 (heard.map encH) = heard.zipIdx.map fun z => .tuple [.int (z.2 : Int), encH z.1] := enumL_map _ heard 0
  unfold bar_of_s runQ runP bar_of_d barOf
  cases hf : heard.zipIdx.find? fun z => !okAt r b z with
  | none =>
    rw [hf] at G
    simp only [] at G
    simp [E, G, encO]
  | some z =>
    rw [hf] at G
    simp only [] at G
    simp [E, G, encO]
/-! fitting -/
def fitStep (rs : List (List Str)) (heard : List (Option Str)) (s : List Start × List (Start × Nat)) (z : Start) : List Start × List (Start × Nat) := match barOf (rs.getD z.1 []) z.2 heard with
  | none => (s.1 ++ [z], s.2)
  | some k => (s.1, s.2 ++ [(z, k)])
def encBar (z : Start × Nat) : P := .tuple [.int (z.1.1 : Int), .int (z.1.2 : Int), .int (z.2 : Int)]
def fittingR (rs : List (List Str)) (heard : List (Option Str)) : List Start × List (Start × Nat) := (startsOf rs).foldl (fitStep rs heard) ([], [])
end
end HW

namespace HW
open PySem PySem.Spec PyProof.Rows L2
noncomputable section
theorem fit_step (rs : List (List Str)) (heard : List (Option Str)) (s : List Start × List (Start × Nat)) (z : Start) (d6 : D) (r : List Str) (hr : rs[z.1]? = some r) (h0 : 0 < r.length) (ha : s.1.length < 100000) (hb : s.2.length < 100000) :
    ∃ e, fitting_b1 [.pd (.list (encRh rs)), .pd (.list (heard.map encH)), .ol (pds (s.1.map encSt)), .ol (pds (s.2.map encBar)), .pd (.int z.1), .pd (.int z.2), d6] =
      some (.nx, [.pd (.list (encRh rs)), .pd (.list (heard.map encH)), .ol (pds ((fitStep rs heard s z).1.map encSt)), .ol (pds ((fitStep rs heard s z).2.map encBar)), .pd (.int z.1), .pd (.int z.2), e]) := by
  have b := bar_of_sem r z.2 heard h0
  have g : atI (encRh rs) (z.1 : Int) = some (.list (strsL r)) := atI_natP (by unfold encRh; rw [List.getElem?_map, hr]; rfl)
  have e0 : rs.getD z.1 [] = r := by rw [List.getD_eq_getElem?_getD, hr]; rfl
  have h1 : s.1.length < 16777216 := by omega
  have h2 : s.2.length < 16777216 := by omega
  unfold fitting_b1 fitStep
  rw [e0]
  cases hB : barOf r z.2 heard with
  | none =>
    rw [hB] at b
    exact ⟨.pd .none, by simp [b, g, encO, h1, pds, encSt]⟩
  | some k =>
    rw [hB] at b
    exact ⟨.pd (.int k), by simp [b, g, encO, h2, pds, encBar]⟩
theorem fit_len (rs : List (List Str)) (heard : List (Option Str)) (s : List Start × List (Start × Nat)) (z : Start) : (fitStep rs heard s z).1.length ≤ s.1.length + 1 ∧ (fitStep rs heard s z).2.length ≤ s.2.length + 1 := by
  unfold fitStep
  split <;> simp
theorem fit_loop (rs : List (List Str)) (heard : List (Option Str)) : ∀ (zs : List Start) (s : List Start × List (Start × Nat)) (d4 d5 d6 : D), (∀ z ∈ zs, ∃ r, rs[z.1]? = some r ∧ 0 < r.length) → s.1.length + zs.length < 100000 → s.2.length + zs.length < 100000 →
    ∃ e4 e5 e6, forL (.tcons (.nm 4) (.tcons (.nm 5) .tnil)) fitting_b1 (zs.map encSt) [.pd (.list (encRh rs)), .pd (.list (heard.map encH)), .ol (pds (s.1.map encSt)), .ol (pds (s.2.map encBar)), d4, d5, d6] =
      some (.nx, [.pd (.list (encRh rs)), .pd (.list (heard.map encH)), .ol (pds ((zs.foldl (fitStep rs heard) s).1.map encSt)), .ol (pds ((zs.foldl (fitStep rs heard) s).2.map encBar)), e4, e5, e6])
  | [], s, d4, d5, d6, _, _, _ => ⟨d4, d5, d6, rfl⟩
  | z :: zs, s, d4, d5, d6, hz, h1, h2 => by
    obtain ⟨r, hr, h0⟩ := hz z (by simp)
    obtain ⟨e, st⟩ := fit_step rs heard s z d6 r hr h0 (by simp at h1; omega) (by simp at h2; omega)
    obtain ⟨l1, l2⟩ := fit_len rs heard s z
    obtain ⟨e4, e5, e6, ih⟩ := fit_loop rs heard zs (fitStep rs heard s z) (.pd (.int z.1)) (.pd (.int z.2)) e (fun y hy => hz y (by simp [hy])) (by simp at h1 ⊢; omega) (by simp at h2 ⊢; omega)
    refine ⟨e4, e5, e6, ?_⟩
    rw [List.map_cons, List.foldl_cons]
    unfold forL
    have : encSt z = .tuple [.int (z.1 : Int), .int (z.2 : Int)] := rfl
    rw [this]
    simp only [bind_cons, bind_nm, bind_nil, Option.bind_some, List.set_cons_succ, List.set_cons_zero]
    rw [st, Option.bind_some]
    exact ih
theorem startsOf_mem (rs : List (List Str)) (h : ∀ r ∈ rs, 0 < r.length) : ∀ z ∈ startsOf rs, ∃ r, rs[z.1]? = some r ∧ 0 < r.length := by
  intro z hz
  unfold startsOf at hz
  obtain ⟨w, hw, hz⟩ := List.mem_flatMap.mp hz
  unfold startsAt at hz
  obtain ⟨b, _, rfl⟩ := List.mem_map.mp hz
  have h1 := List.mem_zipIdx_iff_getElem?.mp hw
  exact ⟨w.1, h1, h w.1 (List.mem_of_getElem? h1)⟩
theorem startsOf_len (rs : List (List Str)) (h : ∀ r ∈ rs, r.length < 100) : (startsOf rs).length ≤ 100 * rs.length := by
  unfold startsOf
  have go : ∀ (zs : List (List Str × Nat)), (∀ z ∈ zs, z.1.length < 100) → (zs.flatMap startsAt).length ≤ 100 * zs.length := by
    intro zs
    induction zs with
    | nil => intro _; simp
    | cons z zs ih =>
      intro hz
      have h1 := hz z (by simp)
      have h2 := startsAt_len z
      have h3 := ih fun y hy => hz y (by simp [hy])
      rw [List.flatMap_cons, List.length_append, List.length_cons]
      omega
  have := go rs.zipIdx fun z hz => h z.1 (List.fst_mem_of_mem_zipIdx hz)
  rwa [List.length_zipIdx] at this
theorem fitting_sem (rs : List (List Str)) (heard : List (Option Str)) (h : ∀ r ∈ rs, r.length < 100 ∧ 0 < r.length) (hn : rs.length < 900) :
    fitting_s [.list (encRh rs), .list (heard.map encH)] = some (.tuple [.list ((fittingR rs heard).1.map encSt), .list ((fittingR rs heard).2.map encBar)]) := by
  have S := starts_of_sem rs (fun r hr => (h r hr).1) hn
  have hl := startsOf_len rs fun r hr => (h r hr).1
  obtain ⟨e4, e5, e6, L⟩ := fit_loop rs heard (startsOf rs) ([], []) .hole .hole .hole (startsOf_mem rs fun r hr => (h r hr).2) (by simp; omega) (by simp; omega)
  have e : List.foldl (fitStep rs heard) ([], []) (startsOf rs) = fittingR rs heard := rfl
  rw [e] at L
  generalize fittingR rs heard = fr at *
  simp only [List.map_nil, pds_nil] at L
  unfold fitting_s runQ runP fitting_d
  simp [S, L]
end
end HW

namespace HW
open PySem PySem.Spec PyProof.Rows L2
noncomputable section
def toldOf (w : Way) (runs : RL) (before : Option RL) (long : Nat) : P := match w with
  | .ticks => .list (intsL (ticksOf runs long))
  | .runs => .list (encRs runs)
  | .turn => encO ((before.bind fun b => alikeR b runs long).map fun n => (n : Int))
  | .change => .list (encRs (putTogether runs (before.getD []) bothW))
def encTold (w : Way) (runs : RL) (before : Option RL) (long : Nat) : P := .tuple [encWay w, toldOf w runs before long]
theorem told_step (p0 p2 : D) (long : Nat) (hl : 0 < long) (hl2 : long < 1000) (acc : List P) (before : Option RL) (k : Nat) (runs : RL) (w : Way) (h1 : runs.length < 16) (h2 : ∀ b, before = some b → b.length < 16) (hc : (costOf w runs before long).isSome = true) (ha : acc.length < 1000) :
    told_by_b1 [p0, .pd (.int long), p2, .ol (pds acc), .pd (encB before), .pd (.int k), .pd (.list (encRs runs)), .pd (encWay w)] =
      some (.nx, [p0, .pd (.int long), p2, .ol (pds (acc ++ [encTold w runs before long])), .pd (encB (some runs)), .pd (.int k), .pd (.list (encRs runs)), .pd (encWay w)]) := by
  have c := cost_of_sem w runs before long hl hl2 h1 h2
  have hz : acc.length < 16777216 := by omega
  obtain ⟨v, hv⟩ := Option.isSome_iff_exists.mp hc
  rw [hv] at c
  have st1 : (dIfS (dIsN (dCallN 4 cost_of_s (dArgs [(dV 7), (dV 6), (dV 4), (dV 1)]))) (dRet (dPd (dV 5))) dNx) [p0, .pd (.int long), p2, .ol (pds acc), .pd (encB before), .pd (.int k), .pd (.list (encRs runs)), .pd (encWay w)] = some (.nx, [p0, .pd (.int long), p2, .ol (pds acc), .pd (encB before), .pd (.int k), .pd (.list (encRs runs)), .pd (encWay w)]) := by simp [c, encO]
  unfold told_by_b1
  rw [seq_nx st1]
  unfold encTold toldOf
  cases w with
  | ticks =>
    have t := ticks_of_sem runs long hl2 (by omega)
    simp [t, hz, pds_app, encB]
  | runs => simp [hz, pds_app, encB]
  | turn =>
    cases before with
    | none => simp [costOf] at hc
    | some b =>
      have a := alike_sem b runs long hl hl2 (h2 b rfl) h1
      simp [a, hz, pds_app, encB]
  | change =>
    cases before with
    | none => simp [costOf] at hc
    | some b =>
      have p := put_together_sem runs b bothW (by have := h2 b rfl; omega)
      have e1 : encW bothW = [.tuple [.bool true, .bool false], .tuple [.bool false, .bool true]] := rfl
      rw [e1] at p
      simp [p, hz, pds_app, encB]
def toldRows (long : Nat) : List (RL × Way) → Option RL → List P
  | [], _ => []
  | z :: zs, before => encTold z.2 z.1 before long :: toldRows long zs (some z.1)
def costsOk (long : Nat) : List (RL × Way) → Option RL → Bool
  | [], _ => true
  | z :: zs, before => (costOf z.2 z.1 before long).isSome && costsOk long zs (some z.1)
theorem told_loop (p0 p2 : D) (long : Nat) (hl : 0 < long) (hl2 : long < 1000) : ∀ (zs : List (RL × Way)) (k : Nat) (acc : List P) (before : Option RL) (d5 d6 d7 : D), (∀ z ∈ zs, z.1.length < 16) → (∀ b, before = some b → b.length < 16) → costsOk long zs before = true → acc.length + zs.length < 1000 →
    ∃ f4 f5 f6 f7, forL (.tcons (.nm 5) (.tcons (.tcons (.nm 6) (.tcons (.nm 7) .tnil)) .tnil)) told_by_b1 ((zs.zipIdx k).map fun z => .tuple [.int (z.2 : Int), .tuple [.list (encRs z.1.1), encWay z.1.2]]) [p0, .pd (.int long), p2, .ol (pds acc), .pd (encB before), d5, d6, d7] =
      some (.nx, [p0, .pd (.int long), p2, .ol (pds (acc ++ toldRows long zs before)), f4, f5, f6, f7])
  | [], k, acc, before, d5, d6, d7, _, _, _, _ => ⟨.pd (encB before), d5, d6, d7, by simp [toldRows]⟩
  | z :: zs, k, acc, before, d5, d6, d7, hz, hb, hc, hn => by
    unfold costsOk at hc
    rw [Bool.and_eq_true] at hc
    have st := told_step p0 p2 long hl hl2 acc before k z.1 z.2 (hz z (by simp)) hb hc.1 (by simp at hn; omega)
    obtain ⟨f4, f5, f6, f7, ih⟩ := told_loop p0 p2 long hl hl2 zs (k + 1) (acc ++ [encTold z.2 z.1 before long]) (some z.1) (.pd (.int k)) (.pd (.list (encRs z.1))) (.pd (encWay z.2)) (fun y hy => hz y (by simp [hy])) (fun b hbb => by cases hbb; exact hz z (by simp)) hc.2 (by simp at hn ⊢; omega)
    refine ⟨f4, f5, f6, f7, ?_⟩
    rw [List.zipIdx_cons, List.map_cons]
    unfold forL
    simp only [bind_cons, bind_nm, bind_nil, Option.bind_some, List.set_cons_succ, List.set_cons_zero]
    rw [st, Option.bind_some]
    simp only [toldRows]
    rw [List.append_assoc] at ih
    exact ih
theorem told_by_sem (book : List RL) (ws : List Way) (long : Nat) (hl : 0 < long) (hl2 : long < 1000) (hb : ∀ r ∈ book, r.length < 16) (hn : book.length < 1000) (hc : costsOk long (book.zip ws) none = true) :
    told_by_s [.list (encBk book), .int long, .list (ws.map encWay)] = some (.list (toldRows long (book.zip ws) none)) := by
  obtain ⟨f4, f5, f6, f7, L⟩ := told_loop (.pd (.list (encBk book))) (.pd (.list (ws.map encWay))) long hl hl2 (book.zip ws) 0 [] none .hole .hole .hole (fun z hz => hb z.1 (List.of_mem_zip hz).1) (fun b h => by cases h) hc (by simp; omega)
  have Z : zipL (encBk book) (ws.map encWay) = (book.zip ws).map fun z => .tuple [.list (encRs z.1), encWay z.2] := zipL_map (fun r => .list (encRs r)) encWay book ws
  have E : enumZP [.list (encBk book), .list (ws.map encWay)] = some (((book.zip ws).zipIdx 0).map fun z => .tuple [.int (z.2 : Int), .tuple [.list (encRs z.1.1), encWay z.1.2]]) := by
    show some (enumL 0 (zipL (encBk book) (ws.map encWay))) = _
    rw [Z, enumL_map]
  simp only [pds_nil, List.nil_append, encB] at L
  generalize toldRows long (book.zip ws) none = T at *
  unfold told_by_s runQ runP told_by_d
  simp [E, L]
end
end HW

namespace HW
open PySem PySem.Spec PyProof.Rows L2
noncomputable section
def stepsOf (b runs : RL) (long : Nat) : Nat := (alikeR b runs long).getD 0
/-- what is read back of a told row -/
def backOf (w : Way) (runs : RL) (before : Option RL) (long : Nat) : RL := match w with
  | .ticks => runsOf (ticksOf runs long)
  | .runs => runs
  | .turn => turnedR (before.getD []) (stepsOf (before.getD []) runs long) long
  | .change => putTogether (before.getD []) (putTogether runs (before.getD []) bothW) bothW
theorem inP_way (w : Way) (h : w = .ticks ∨ w = .runs ∨ w = .turn ∨ w = .change) : ninP (encWay w) (.tuple [.str "change", .str "turn"]) = some (decide (w = .ticks ∨ w = .runs)) := by
  have e : inP (encWay w) (.tuple [.str "change", .str "turn"]) = if Nat.ble (min (PyData.depthAll [.str "change", .str "turn"]) (encWay w).depth) 100 then some (([PyData.str "change", .str "turn"] : List P).any fun z => PyData.eqv z (encWay w)) else none := by
    cases w <;> rfl
  unfold ninP
  rw [e, if_pos (Nat.ble_eq_true_of_le (by unfold encWay; rw [depth_str]; omega))]
  cases w
  · rfl
  · rfl
  · rfl
  · rfl
theorem encBk_snoc (bk : List RL) (r : RL) : encBk (bk ++ [r]) = encBk bk ++ [.list (encRs r)] := by simp [encBk]
theorem ticksOf_len (runs : RL) (long : Nat) : (ticksOf runs long).length = long := by simp [ticksOf]
theorem read_step (p0 : D) (long : Nat) (hl : 0 < long) (hl2 : long < 1000) (bk : List RL) (before : Option RL) (k : Nat) (runs : RL) (w : Way) (h1 : runs.length < 16) (hbf : bk.getLast? = before) (h2 : ∀ b, before = some b → b.length < 16) (hc : (costOf w runs before long).isSome = true) (hch : ∀ b, before = some b → w = .change → (putTogether runs b bothW).length < 16) (ha : bk.length < 1000) :
    read_back_b1 [p0, .pd (.int long), .ol (pds (encBk bk)), .pd (.int k), .pd (encWay w), .pd (toldOf w runs before long)] =
      some (.nx, [p0, .pd (.int long), .ol (pds (encBk (bk ++ [backOf w runs before long]))), .pd (.int k), .pd (encWay w), .pd (toldOf w runs before long)]) := by
  have hz : (encBk bk).length < 16777216 := by simp [encBk]; omega
  unfold read_back_b1 toldOf backOf
  cases w with
  | ticks =>
    have t := runs_of_sem (ticksOf runs long) (by rw [ticksOf_len]; exact hl2)
    rw [encBk_snoc]
    simp [t, hz, pds_app]
  | runs =>
    rw [encBk_snoc]
    simp [hz, pds_app]
  | turn =>
    cases before with
    | none => simp [costOf] at hc
    | some b =>
      obtain ⟨l, hl3⟩ : ∃ l, bk = l ++ [b] := by
        rcases List.eq_nil_or_concat bk with e | ⟨l, r, e⟩
        · subst e; simp at hbf
        · subst e
          rw [List.concat_eq_append] at *
          simp at hbf
          subst hbf
          exact ⟨l, rfl⟩
      subst hl3
      have q := inP_way .turn (by simp)
      have hs : ∃ s, alikeR b runs long = some s := by
        simp only [costOf, Option.bind_some] at hc
        cases hA : alikeR b runs long with
        | none => rw [hA] at hc; simp at hc
        | some s => exact ⟨s, rfl⟩
      obtain ⟨s, hs⟩ := hs
      have t := turned1_sem b s long (by omega) (h2 b rfl)
      have e2 : stepsOf b runs long = s := by unfold stepsOf; rw [hs]; rfl
      simp only [Option.bind_some, Option.getD_some, hs, e2]
      rw [encBk_snoc (l ++ [b])]
      rw [encBk_snoc] at hz ⊢
      simp at hz
      simp [q, encO, t, hz, pds_app]
  | change =>
    cases before with
    | none => simp [costOf] at hc
    | some b =>
      obtain ⟨l, hl3⟩ : ∃ l, bk = l ++ [b] := by
        rcases List.eq_nil_or_concat bk with e | ⟨l, r, e⟩
        · subst e; simp at hbf
        · subst e
          rw [List.concat_eq_append] at *
          simp at hbf
          subst hbf
          exact ⟨l, rfl⟩
      subst hl3
      have q := inP_way .change (by simp)
      have p := put_together_sem b (putTogether runs b bothW) bothW (by have := h2 b rfl; have := hch b rfl rfl; omega)
      have e1 : encW bothW = [.tuple [.bool true, .bool false], .tuple [.bool false, .bool true]] := rfl
      rw [e1] at p
      simp only [Option.getD_some]
      rw [encBk_snoc (l ++ [b])]
      rw [encBk_snoc] at hz ⊢
      simp at hz
      simp [q, p, hz, pds_app]
end
end HW

namespace HW
open PySem PySem.Spec PyProof.Rows L2
noncomputable section
def BacksOk (long : Nat) : List (RL × Way) → Option RL → Prop
  | [], _ => True
  | z :: zs, before => backOf z.2 z.1 before long = z.1 ∧ (∀ b, before = some b → (putTogether z.1 b bothW).length < 16) ∧ BacksOk long zs (some z.1)
theorem read_loop (p0 : D) (long : Nat) (hl : 0 < long) (hl2 : long < 1000) : ∀ (zs : List (RL × Way)) (k : Nat) (bk : List RL) (before : Option RL) (d3 d4 d5 : D), (∀ z ∈ zs, z.1.length < 16) → (∀ b, before = some b → b.length < 16) → bk.getLast? = before → costsOk long zs before = true → BacksOk long zs before → bk.length + zs.length < 1000 →
    ∃ f3 f4 f5, forL (.tcons (.nm 3) (.tcons (.tcons (.nm 4) (.tcons (.nm 5) .tnil)) .tnil)) read_back_b1 (enumL k (toldRows long zs before)) [p0, .pd (.int long), .ol (pds (encBk bk)), d3, d4, d5] =
      some (.nx, [p0, .pd (.int long), .ol (pds (encBk (bk ++ zs.map (·.1)))), f3, f4, f5])
  | [], k, bk, before, d3, d4, d5, _, _, _, _, _, _ => ⟨d3, d4, d5, by simp [toldRows, enumL]⟩
  | z :: zs, k, bk, before, d3, d4, d5, hz, hb, hbf, hc, hB, hn => by
    unfold costsOk at hc
    rw [Bool.and_eq_true] at hc
    obtain ⟨B1, B2, B3⟩ := hB
    have st := read_step p0 long hl hl2 bk before k z.1 z.2 (hz z (by simp)) hbf hb hc.1 (fun b hbb _ => B2 b hbb) (by simp at hn; omega)
    rw [B1] at st
    obtain ⟨f3, f4, f5, ih⟩ := read_loop p0 long hl hl2 zs (k + 1) (bk ++ [z.1]) (some z.1) (.pd (.int k)) (.pd (encWay z.2)) (.pd (toldOf z.2 z.1 before long)) (fun y hy => hz y (by simp [hy])) (fun b hbb => by cases hbb; exact hz z (by simp)) (by simp) hc.2 B3 (by simp at hn ⊢; omega)
    refine ⟨f3, f4, f5, ?_⟩
    show forL _ read_back_b1 (.tuple [.int (k : Int), encTold z.2 z.1 before long] :: enumL (k + 1) (toldRows long zs (some z.1))) _ = _
    unfold forL
    have e : encTold z.2 z.1 before long = .tuple [encWay z.2, toldOf z.2 z.1 before long] := rfl
    rw [e]
    simp only [bind_cons, bind_nm, bind_nil, Option.bind_some, List.set_cons_succ, List.set_cons_zero]
    rw [st, Option.bind_some]
    rw [List.append_assoc] at ih
    exact ih
theorem read_back_sem (book : List RL) (ws : List Way) (long : Nat) (hl : 0 < long) (hl2 : long < 1000) (hb : ∀ r ∈ book, r.length < 16) (hn : book.length < 1000) (hw : ws.length = book.length) (hc : costsOk long (book.zip ws) none = true) (hB : BacksOk long (book.zip ws) none) :
    read_back_s [.list (toldRows long (book.zip ws) none), .int long] = some (.list (encBk book)) := by
  obtain ⟨f3, f4, f5, L⟩ := read_loop (.pd (.list (toldRows long (book.zip ws) none))) long hl hl2 (book.zip ws) 0 [] none .hole .hole .hole (fun z hz => hb z.1 (List.of_mem_zip hz).1) (fun b h => by cases h) rfl hc hB (by simp; omega)
  have e : (book.zip ws).map (·.1) = book := List.map_fst_zip (by omega)
  have e0 : encBk ([] : List RL) = [] := rfl
  rw [e] at L
  simp only [e0, pds_nil, List.nil_append] at L
  generalize toldRows long (book.zip ws) none = T at *
  unfold read_back_s runQ runP read_back_d
  simp [L]
/-! the ways that coded takes can be paid for -/
theorem chosen_mem (runs : RL) (before : Option RL) (long : Nat) : chosen runs before long ∈ rowsOf runs before long ∧ ∀ y ∈ rowsOf runs before long, (chosen runs before long).1 ≤ y.1 := by
  obtain ⟨x, xs, e⟩ := rows_cons runs before long
  unfold chosen
  rw [e]
  exact bestRow_is xs x
theorem rowsOf_mem (runs : RL) (before : Option RL) (long : Nat) (c : Int) (w : Way) : (∃ i, (c, i, w) ∈ rowsOf runs before long) ↔ costOf w runs before long = some c := by
  have go : ∀ (zs : List (Way × Nat)) (acc : List Row) (r : Row), r ∈ zs.foldl (rowStep runs before long) acc ↔ r ∈ acc ∨ ∃ z ∈ zs, costOf z.1 runs before long = some r.1 ∧ r.2.1 = z.2 ∧ r.2.2 = z.1 := by
    intro zs
    induction zs with
    | nil => simp
    | cons z zs ih =>
      intro acc r
      rw [List.foldl_cons, ih]
      have e : r ∈ rowStep runs before long acc z ↔ r ∈ acc ∨ (costOf z.1 runs before long = some r.1 ∧ r.2.1 = z.2 ∧ r.2.2 = z.1) := by
        unfold rowStep
        cases hc : costOf z.1 runs before long with
        | none => simp
        | some v =>
          simp only [List.mem_append, List.mem_singleton, Option.some.injEq]
          constructor
          · rintro (h | h)
            · exact .inl h
            · subst h; exact .inr ⟨rfl, rfl, rfl⟩
          · rintro (h | ⟨h1, h2, h3⟩)
            · exact .inl h
            · right; obtain ⟨a, b, c⟩ := r; simp at h1 h2 h3; subst h1 h2 h3; rfl
      rw [e]
      simp only [List.mem_cons, exists_eq_or_imp]
      exact or_assoc
  unfold rowsOf
  constructor
  · rintro ⟨i, h⟩
    rcases (go _ _ _).mp h with h | ⟨z, _, h1, _, h3⟩
    · cases h
    · simp at h3; rw [h3]; exact h1
  · intro h
    cases w
    · exact ⟨0, (go _ _ _).mpr (.inr ⟨(.ticks, 0), by simp [ways4], h, rfl, rfl⟩)⟩
    · exact ⟨1, (go _ _ _).mpr (.inr ⟨(.runs, 1), by simp [ways4], h, rfl, rfl⟩)⟩
    · exact ⟨2, (go _ _ _).mpr (.inr ⟨(.change, 2), by simp [ways4], h, rfl, rfl⟩)⟩
    · exact ⟨3, (go _ _ _).mpr (.inr ⟨(.turn, 3), by simp [ways4], h, rfl, rfl⟩)⟩
theorem chosen_cost (runs : RL) (before : Option RL) (long : Nat) : costOf (chosen runs before long).2.2 runs before long = some (chosen runs before long).1 :=
  (rowsOf_mem runs before long _ _).mp ⟨(chosen runs before long).2.1, (chosen_mem runs before long).1⟩
theorem chosen_least (runs : RL) (before : Option RL) (long : Nat) (w : Way) (c : Int) (h : costOf w runs before long = some c) : (chosen runs before long).1 ≤ c := by
  obtain ⟨i, hi⟩ := (rowsOf_mem runs before long c w).mpr h
  exact (chosen_mem runs before long).2 _ hi
end
end HW

namespace HW
open PySem PySem.Spec PyProof.Rows L2
noncomputable section
/-! ### runs in order and apart -/
structure Canon (rs : RL) : Prop where
  pos : ∀ r ∈ rs, r.1 < r.2
  apart : rs.Pairwise fun r s => r.2 < s.1
theorem Canon.nil : Canon [] := ⟨by simp, by simp⟩
theorem Canon.tail {r : Int × Int} {rs : RL} (c : Canon (r :: rs)) : Canon rs := ⟨fun x hx => c.pos x (by simp [hx]), (List.pairwise_cons.mp c.apart).2⟩
theorem covers_iff {rs : RL} {x : Int} : covers rs x = true ↔ ∃ r ∈ rs, r.1 ≤ x ∧ x < r.2 := by
  unfold covers
  rw [List.any_eq_true]
  constructor
  · rintro ⟨r, h1, h2⟩
    simp only [Bool.and_eq_true, decide_eq_true_eq] at h2
    exact ⟨r, h1, h2⟩
  · rintro ⟨r, h1, h2, h3⟩
    exact ⟨r, h1, by simp [h2, h3]⟩
theorem covers_cons {r : Int × Int} {rs : RL} {x : Int} : covers (r :: rs) x = ((decide (r.1 ≤ x) && decide (x < r.2)) || covers rs x) := rfl
theorem Canon.after {r : Int × Int} {rs : RL} (c : Canon (r :: rs)) {s : Int × Int} (hs : s ∈ rs) : r.2 < s.1 := (List.pairwise_cons.mp c.apart).1 s hs
theorem canon_unique : ∀ {a b : RL}, Canon a → Canon b → (∀ x, covers a x = covers b x) → a = b
  | [], [], _, _, _ => rfl
  | [], s :: b, _, cb, h => by
    have := h s.1
    have hs := cb.pos s (by simp)
    rw [covers_cons] at this
    simp [covers, hs] at this
  | r :: a, [], ca, _, h => by
    have := h r.1
    have hs := ca.pos r (by simp)
    rw [covers_cons] at this
    simp [covers, hs] at this
  | r :: a, s :: b, ca, cb, h => by
    have pr := ca.pos r (by simp)
    have ps := cb.pos s (by simp)
    have lo : ∀ {u v : Int × Int} {l m : RL}, Canon (u :: l) → Canon (v :: m) → (∀ x, covers (u :: l) x = covers (v :: m) x) → v.1 ≤ u.1 := fun {u v l m} cu cv hh => by
      have pu := cu.pos u (by simp)
      have h1 : covers (u :: l) u.1 = true := covers_iff.mpr ⟨u, by simp, by omega, pu⟩
      rw [hh] at h1
      obtain ⟨t, ht, t1, t2⟩ := covers_iff.mp h1
      rcases List.mem_cons.mp ht with rfl | ht
      · exact t1
      · have := cv.after ht; have := cv.pos v (by simp); omega
    have e1 : r.1 = s.1 := Int.le_antisymm (lo cb ca fun x => (h x).symm) (lo ca cb h)
    have hi : ∀ {u v : Int × Int} {l m : RL}, Canon (u :: l) → Canon (v :: m) → (∀ x, covers (u :: l) x = covers (v :: m) x) → u.1 = v.1 → v.2 ≤ u.2 := fun {u v l m} cu cv hh e => by
      have pu := cu.pos u (by simp)
      by_cases hlt : u.2 < v.2
      · have h1 : covers (v :: m) u.2 = true := covers_iff.mpr ⟨v, by simp, by omega, hlt⟩
        rw [← hh] at h1
        obtain ⟨t, ht, t1, t2⟩ := covers_iff.mp h1
        rcases List.mem_cons.mp ht with rfl | ht
        · omega
        · have := cu.after ht; omega
      · omega
    have e2 : r.2 = s.2 := Int.le_antisymm (hi cb ca (fun x => (h x).symm) e1.symm) (hi ca cb h e1)
    have e : r = s := Prod.ext e1 e2
    subst e
    congr 1
    refine canon_unique ca.tail cb.tail fun x => ?_
    have hx := h x
    rw [covers_cons, covers_cons] at hx
    by_cases hin : r.1 ≤ x ∧ x < r.2
    · have no : ∀ {l : RL}, Canon (r :: l) → covers l x = false := fun {l} cl => by
        cases hc : covers l x with
        | false => rfl
        | true =>
          obtain ⟨t, ht, t1, t2⟩ := covers_iff.mp hc
          have := cl.after ht
          omega
      rw [no ca, no cb]
    · have : (decide (r.1 ≤ x) && decide (x < r.2)) = false := by
        cases hd : (decide (r.1 ≤ x) && decide (x < r.2)) with
        | false => rfl
        | true => simp only [Bool.and_eq_true, decide_eq_true_eq] at hd; exact absurd hd hin
      rw [this] at hx
      simpa using hx
/-! growing -/
theorem addTick_canon {acc : RL} {a b : Int} (c : Canon acc) (he : ∀ r ∈ acc, r.2 ≤ a) (hab : a < b) :
    Canon (addTick acc a b) ∧ (∀ r ∈ addTick acc a b, r.2 ≤ b) ∧ ∀ x, covers (addTick acc a b) x = (covers acc x || (decide (a ≤ x) && decide (x < b))) := by
  rcases List.eq_nil_or_concat acc with e | ⟨l, r, e⟩
  · subst e
    have e2 : addTick [] a b = [(a, b)] := rfl
    rw [e2]
    exact ⟨⟨by simpa using hab, by simp⟩, by simp, fun x => by simp [covers]⟩
  · subst e
    rw [List.concat_eq_append] at *
    have hr := c.pos r (by simp)
    have hp := List.pairwise_append.mp c.apart
    have hl : ∀ s ∈ l, s.2 < r.1 := fun s hs => hp.2.2 s hs r (by simp)
    have hra := he r (by simp)
    unfold addTick
    simp only [List.getLast?_concat, List.dropLast_concat]
    by_cases hb : r.2 = a
    · rw [if_pos hb]
      refine ⟨⟨fun s hs => ?_, ?_⟩, fun s hs => ?_, fun x => ?_⟩
      · rcases List.mem_append.mp hs with hs | hs
        · exact c.pos s (by simp [hs])
        · simp at hs; subst hs; show r.1 < b; omega
      · rw [List.pairwise_append]
        exact ⟨hp.1, by simp, fun s hs t ht => by simp at ht; subst ht; exact hl s hs⟩
      · rcases List.mem_append.mp hs with hs | hs
        · have := he s (by simp [hs]); omega
        · simp at hs; subst hs; show b ≤ b; omega
      · simp only [covers, List.any_append, List.any_cons, List.any_nil, Bool.or_false]
        rw [Bool.or_assoc]
        congr 1
        subst hb
        by_cases h1 : r.1 ≤ x <;> by_cases h2 : x < r.2 <;> by_cases h3 : x < b <;> simp [h1, h2, h3] <;> omega
    · rw [if_neg hb]
      refine ⟨⟨fun s hs => ?_, ?_⟩, fun s hs => ?_, fun x => ?_⟩
      · rcases List.mem_append.mp hs with hs | hs
        · exact c.pos s hs
        · simp at hs; subst hs; exact hab
      · rw [List.pairwise_append]
        refine ⟨c.apart, by simp, fun s hs t ht => ?_⟩
        simp at ht; subst ht
        rcases List.mem_append.mp hs with hs | hs
        · have := hl s hs; show s.2 < a; omega
        · simp at hs; subst hs; show s.2 < a; omega
      · rcases List.mem_append.mp hs with hs | hs
        · have := he s hs; omega
        · simp at hs; subst hs; show b ≤ b; omega
      · simp only [covers, List.any_append, List.any_cons, List.any_nil, Bool.or_false]
end
end HW

namespace HW
open PySem PySem.Spec PyProof.Rows L2
noncomputable section
/-! ### runs_of -/
theorem runs_fold : ∀ (row : List Int) (k : Nat) (acc : RL), Canon acc → (∀ r ∈ acc, r.2 ≤ (k : Int)) →
    Canon ((row.zipIdx k).foldl runStep acc) ∧ ∀ x : Int, covers ((row.zipIdx k).foldl runStep acc) x = true ↔ (covers acc x = true ∨ ∃ j : Nat, row[j]? = some 1 ∧ x = (k : Int) + (j : Int))
  | [], k, acc, c, _ => ⟨c, fun x => by simp⟩
  | v :: row, k, acc, c, he => by
    rw [List.zipIdx_cons, List.foldl_cons]
    by_cases hv : v = 1
    · subst hv
      have e : runStep acc (1, k) = addTick acc k (k + 1) := rfl
      rw [e]
      obtain ⟨a1, a2, a3⟩ := addTick_canon c he (by omega : (k : Int) < k + 1)
      obtain ⟨b1, b2⟩ := runs_fold row (k + 1) _ a1 (fun r hr => by have := a2 r hr; push_cast; omega)
      refine ⟨b1, fun x => ?_⟩
      rw [b2, a3]
      simp only [Bool.or_eq_true, Bool.and_eq_true, decide_eq_true_eq]
      constructor
      · rintro ((h | h) | ⟨j, h1, h2⟩)
        · exact .inl h
        · exact .inr ⟨0, rfl, by omega⟩
        · exact .inr ⟨j + 1, by simpa using h1, by push_cast at h2 ⊢; omega⟩
      · rintro (h | ⟨j, h1, h2⟩)
        · exact .inl (.inl h)
        · cases j with
          | zero => exact .inl (.inr (by constructor <;> omega))
          | succ j => exact .inr ⟨j, by simpa using h1, by push_cast at h2 ⊢; omega⟩
    · have e : runStep acc (v, k) = acc := by unfold runStep; rw [if_neg hv]
      rw [e]
      obtain ⟨b1, b2⟩ := runs_fold row (k + 1) acc c (fun r hr => by have := he r hr; push_cast; omega)
      refine ⟨b1, fun x => ?_⟩
      rw [b2]
      constructor
      · rintro (h | ⟨j, h1, h2⟩)
        · exact .inl h
        · exact .inr ⟨j + 1, by simpa using h1, by push_cast at h2 ⊢; omega⟩
      · rintro (h | ⟨j, h1, h2⟩)
        · exact .inl h
        · cases j with
          | zero => simp at h1; exact absurd h1 hv
          | succ j => exact .inr ⟨j, by simpa using h1, by push_cast at h2 ⊢; omega⟩
theorem runsOf_canon (row : List Int) : Canon (runsOf row) := (runs_fold row 0 [] Canon.nil (by simp)).1
theorem runsOf_covers (row : List Int) (x : Int) : covers (runsOf row) x = true ↔ ∃ j : Nat, row[j]? = some 1 ∧ x = j := by
  have := (runs_fold row 0 [] Canon.nil (by simp)).2 x
  unfold runsOf
  rw [this]
  simp [covers]
theorem ticks_runs (row : List Int) (h : ∀ v ∈ row, v = 0 ∨ v = 1) : ticksOf (runsOf row) row.length = row := by
  apply List.ext_getElem?
  intro i
  unfold ticksOf
  rw [List.getElem?_map]
  by_cases hi : i < row.length
  · rw [List.getElem?_range hi, List.getElem?_eq_getElem hi]
    show some _ = some _
    congr 1
    rcases h row[i] (List.getElem_mem hi) with h0 | h0
    · have : covers (runsOf row) i = false := by
        cases hc : covers (runsOf row) i with
        | false => rfl
        | true =>
          obtain ⟨j, h1, h2⟩ := (runsOf_covers row i).mp hc
          have : i = j := by omega
          subst this
          rw [List.getElem?_eq_getElem hi, h0] at h1
          cases h1
      show (if covers (runsOf row) i = true then (1 : Int) else 0) = _
      rw [this, h0]; rfl
    · have : covers (runsOf row) i = true := (runsOf_covers row i).mpr ⟨i, by rw [List.getElem?_eq_getElem hi, h0], rfl⟩
      show (if covers (runsOf row) i = true then (1 : Int) else 0) = _
      rw [this, h0]; rfl
  · rw [List.getElem?_eq_none (by simpa using hi), List.getElem?_eq_none (by simpa using hi)]; rfl
/-! ### put_together -/
theorem cover_const {rs : RL} {lo hi x : Int} (he : ∀ e ∈ edgesOf rs, e ≤ lo ∨ hi ≤ e) (h1 : lo ≤ x) (h2 : x < hi) : covers rs x = covers rs lo := by
  have eg : ∀ r ∈ rs, r.1 ∈ edgesOf rs ∧ r.2 ∈ edgesOf rs := fun r hr => ⟨List.mem_flatMap.mpr ⟨r, hr, by simp⟩, List.mem_flatMap.mpr ⟨r, hr, by simp⟩⟩
  have : covers rs x = true ↔ covers rs lo = true := by
    rw [covers_iff, covers_iff]
    constructor
    · rintro ⟨r, hr, a1, a2⟩
      have b1 := he _ (eg r hr).1
      have b2 := he _ (eg r hr).2
      exact ⟨r, hr, by omega, by omega⟩
    · rintro ⟨r, hr, a1, a2⟩
      have b1 := he _ (eg r hr).1
      have b2 := he _ (eg r hr).2
      exact ⟨r, hr, by omega, by omega⟩
  cases hx : covers rs x <;> cases hl : covers rs lo <;> simp_all
def wantAt (one other : RL) (wanted : List (Bool × Bool)) (x : Int) : Bool := wanted.contains (covers one x, covers other x) && (covers one x || covers other x)
theorem put_fold (one other : RL) (wanted : List (Bool × Bool)) : ∀ (es : List Int) (acc : RL), es.Pairwise (· < ·) → (∀ p q : Int, ∀ l r, es = l ++ p :: q :: r → ∀ e ∈ edgesOf (one ++ other), e ≤ p ∨ q ≤ e) → Canon acc → (∀ e ∈ es.head?, ∀ r ∈ acc, r.2 ≤ e) →
    Canon ((es.zip es.tail).foldl (putStep one other wanted) acc) ∧ ∀ x, covers ((es.zip es.tail).foldl (putStep one other wanted) acc) x = true ↔ (covers acc x = true ∨ (wantAt one other wanted x = true ∧ ∃ a ∈ es.head?, ∃ b ∈ es.getLast?, a ≤ x ∧ x < b))
  | [], acc, _, _, c, _ => ⟨c, fun x => by simp⟩
  | [a], acc, _, _, c, _ => ⟨c, fun x => by
      simp
      intro _ h1 h2
      omega⟩
  | a :: b :: es, acc, hs, hg, c, he => by
    have hab : a < b := (List.pairwise_cons.mp hs).1 b (by simp)
    have hs' := (List.pairwise_cons.mp hs).2
    have ed : ∀ e ∈ edgesOf (one ++ other), e ≤ a ∨ b ≤ e := hg a b [] es rfl
    have ed1 : ∀ e ∈ edgesOf one, e ≤ a ∨ b ≤ e := fun e h => ed e (by unfold edgesOf at h ⊢; rw [List.flatMap_append]; exact List.mem_append_left _ h)
    have ed2 : ∀ e ∈ edgesOf other, e ≤ a ∨ b ≤ e := fun e h => ed e (by unfold edgesOf at h ⊢; rw [List.flatMap_append]; exact List.mem_append_right _ h)
    have wc : ∀ x, a ≤ x → x < b → wantAt one other wanted x = wantAt one other wanted a := fun x h1 h2 => by
      unfold wantAt
      rw [cover_const ed1 h1 h2, cover_const ed2 h1 h2]
    have stp : Canon (putStep one other wanted acc (a, b)) ∧ (∀ r ∈ putStep one other wanted acc (a, b), r.2 ≤ b) ∧ ∀ x, covers (putStep one other wanted acc (a, b)) x = true ↔ (covers acc x = true ∨ (wantAt one other wanted x = true ∧ a ≤ x ∧ x < b)) := by
      have hea : ∀ r ∈ acc, r.2 ≤ a := fun r hr => he a (by simp) r hr
      have e : putStep one other wanted acc (a, b) = if wantAt one other wanted a then addTick acc a b else acc := rfl
      rw [e]
      by_cases hw : wantAt one other wanted a = true
      · rw [if_pos hw]
        obtain ⟨a1, a2, a3⟩ := addTick_canon c hea hab
        refine ⟨a1, a2, fun x => ?_⟩
        rw [a3]
        simp only [Bool.or_eq_true, Bool.and_eq_true, decide_eq_true_eq]
        constructor
        · rintro (h | h)
          · exact .inl h
          · exact .inr ⟨by rw [wc x h.1 h.2]; exact hw, h⟩
        · rintro (h | h)
          · exact .inl h
          · exact .inr h.2
      · rw [if_neg hw]
        refine ⟨c, fun r hr => by have := hea r hr; omega, fun x => ⟨fun h => .inl h, ?_⟩⟩
        rintro (h | h)
        · exact h
        · rw [wc x h.2.1 h.2.2] at h; exact absurd h.1 hw
    obtain ⟨s1, s2, s3⟩ := stp
    have ih := put_fold one other wanted (b :: es) (putStep one other wanted acc (a, b)) hs' (fun p q l r e => hg p q (a :: l) r (by rw [e]; rfl)) s1 (fun e h r hr => by simp at h; subst h; exact s2 r hr)
    show Canon (((a, b) :: ((b :: es).zip es)).foldl _ acc) ∧ ∀ x, covers (((a, b) :: ((b :: es).zip es)).foldl _ acc) x = true ↔ _
    rw [List.foldl_cons]
    refine ⟨ih.1, fun x => ?_⟩
    have ih2 := ih.2 x
    have e2 : (b :: es).tail = es := rfl
    rw [e2] at ih2
    rw [ih2, s3]
    obtain ⟨z, hz⟩ : ∃ z, (b :: es).getLast? = some z := ⟨_, List.getLast?_eq_some_getLast (by simp)⟩
    have hz2 : (a :: b :: es).getLast? = some z := by rw [List.getLast?_cons_cons]; exact hz
    have hbz : b ≤ z := by
      cases es with
      | nil => simp at hz; omega
      | cons y ys =>
        have hm : z ∈ y :: ys := by
          rw [List.getLast?_cons_cons] at hz
          exact List.mem_of_getLast? hz
        exact Int.le_of_lt ((List.pairwise_cons.mp hs').1 z hm)
    rw [hz, hz2]
    simp only [List.head?_cons, Option.mem_def, Option.some.injEq, exists_eq_left']
    constructor
    · rintro ((h | ⟨h1, h2, h3⟩) | ⟨h1, h2, h3⟩)
      · exact .inl h
      · exact .inr ⟨h1, h2, by omega⟩
      · exact .inr ⟨h1, by omega, h3⟩
    · rintro (h | ⟨h1, h2, h3⟩)
      · exact .inl (.inl h)
      · by_cases hx : x < b
        · exact .inl (.inr ⟨h1, h2, hx⟩)
        · exact .inr ⟨h1, by omega, h3⟩
end
end HW

namespace HW
open PySem PySem.Spec PyProof.Rows L2
noncomputable section
theorem edges_mem (one other : RL) (e : Int) : e ∈ putEdges one other ↔ e ∈ edgesOf (one ++ other) := ssetI_mem
theorem edge_of_mem {rs : RL} {r : Int × Int} (h : r ∈ rs) : r.1 ∈ edgesOf rs ∧ r.2 ∈ edgesOf rs := ⟨List.mem_flatMap.mpr ⟨r, h, by simp⟩, List.mem_flatMap.mpr ⟨r, h, by simp⟩⟩
theorem putTogether_is (one other : RL) (wanted : List (Bool × Bool)) : Canon (putTogether one other wanted) ∧ ∀ x, covers (putTogether one other wanted) x = wantAt one other wanted x := by
  have hs : (putEdges one other).Pairwise (· < ·) := ssetI_sorted _
  have hg : ∀ p q : Int, ∀ l r, putEdges one other = l ++ p :: q :: r → ∀ e ∈ edgesOf (one ++ other), e ≤ p ∨ q ≤ e := by
    intro p q l r e0 e he
    rw [← edges_mem, e0] at he
    rw [e0] at hs
    have h1 := List.pairwise_append.mp hs
    have h2 := List.pairwise_cons.mp h1.2.1
    have h3 := List.pairwise_cons.mp h2.2
    rcases List.mem_append.mp he with h | h
    · exact .inl (Int.le_of_lt (h1.2.2 e h p (by simp)))
    · rcases List.mem_cons.mp h with rfl | h
      · exact .inl (Int.le_refl _)
      · rcases List.mem_cons.mp h with rfl | h
        · exact .inr (Int.le_refl _)
        · exact .inr (Int.le_of_lt (h3.1 e h))
  obtain ⟨c, hc⟩ := put_fold one other wanted (putEdges one other) [] hs hg Canon.nil (by simp)
  refine ⟨c, fun x => ?_⟩
  have key : covers (putTogether one other wanted) x = true ↔ wantAt one other wanted x = true := by
    unfold putTogether
    rw [hc x]
    constructor
    · rintro (h | h)
      · simp [covers] at h
      · exact h.1
    · intro h
      refine .inr ⟨h, ?_⟩
      have hcov : covers (one ++ other) x = true := by
        unfold wantAt at h
        rw [Bool.and_eq_true] at h
        have := h.2
        unfold covers at this ⊢
        rw [List.any_append]
        exact this
      obtain ⟨r, hr, r1, r2⟩ := covers_iff.mp hcov
      have m1 := (edges_mem one other r.1).mpr (edge_of_mem hr).1
      have m2 := (edges_mem one other r.2).mpr (edge_of_mem hr).2
      cases he : putEdges one other with
      | nil => rw [he] at m1; cases m1
      | cons a es =>
        rw [he] at m1 m2 hs
        obtain ⟨z, hz⟩ : ∃ z, (a :: es).getLast? = some z := ⟨_, List.getLast?_eq_some_getLast (by simp)⟩
        refine ⟨a, by simp, z, by simp [hz], ?_, ?_⟩
        · rcases List.mem_cons.mp m1 with e | e
          · omega
          · have := (List.pairwise_cons.mp hs).1 _ e; omega
        · have hle : r.2 ≤ z := by
            obtain ⟨l, hl⟩ : ∃ l, a :: es = l ++ [z] := List.getLast?_eq_some_iff.mp hz
            rw [hl] at m2 hs
            rcases List.mem_append.mp m2 with e | e
            · exact Int.le_of_lt ((List.pairwise_append.mp hs).2.2 _ e z (by simp))
            · simp at e; omega
          omega
  cases h1 : covers (putTogether one other wanted) x <;> cases h2 : wantAt one other wanted x <;> simp_all
theorem put_xor (a b : RL) (x : Int) : covers (putTogether a b bothW) x = (covers a x != covers b x) := by
  rw [(putTogether_is a b bothW).2]
  unfold wantAt bothW
  cases covers a x <;> cases covers b x <;> rfl
theorem put_self (a : RL) (x : Int) : covers (putTogether a [] [(true, false)]) x = covers a x := by
  rw [(putTogether_is a [] [(true, false)]).2]
  unfold wantAt
  have : covers [] x = false := rfl
  rw [this]
  cases covers a x <;> rfl
/-! ### turned -/
def Within (rs : RL) (long : Int) : Prop := ∀ r ∈ rs, 0 ≤ r.1 ∧ r.1 < r.2 ∧ r.2 ≤ long
theorem piece_covers {steps long x : Int} {r : Int × Int} (hl : 0 < long) (hr : 0 ≤ r.1 ∧ r.1 < r.2 ∧ r.2 ≤ long) (hx : 0 ≤ x ∧ x < long) : covers (pieceOf steps long r) x = true ↔ r.1 ≤ (x - steps) % long ∧ (x - steps) % long < r.2 := by
  have s0 := Int.emod_nonneg (r.1 + steps) (by omega : long ≠ 0)
  have s1 := Int.emod_lt_of_pos (r.1 + steps) hl
  have y0 := Int.emod_nonneg (x - steps) (by omega : long ≠ 0)
  have y1 := Int.emod_lt_of_pos (x - steps) hl
  have es := Int.emod_add_mul_ediv (r.1 + steps) long
  have ey := Int.emod_add_mul_ediv (x - steps) long
  unfold pieceOf
  generalize (r.1 + steps) % long = s at *
  generalize (x - steps) % long = y at *
  generalize (r.1 + steps) / long = q at *
  generalize (x - steps) / long = p at *
  have ht : long * (p + q) = x - s - y + r.1 := by rw [Int.mul_add]; omega
  have hb : p + q = 0 ∨ p + q = 1 ∨ p + q = -1 := by
    have h1 : -2 < p + q := by
      have : -2 * long < long * (p + q) := by omega
      have : long * (-2) < long * (p + q) := by rw [Int.mul_comm long (-2)]; exact this
      exact Int.lt_of_mul_lt_mul_left this (by omega)
    have h2 : p + q < 2 := by
      have : long * (p + q) < long * 2 := by omega
      exact Int.lt_of_mul_lt_mul_left this (by omega)
    omega
  have key : x - s - y + r.1 = 0 ∨ x - s - y + r.1 = long ∨ x - s - y + r.1 = -long := by
    rcases hb with h | h | h
    · rw [h] at ht; left; omega
    · rw [h] at ht; right; left; omega
    · rw [h] at ht; right; right; omega
  clear ht hb es ey
  rw [covers_iff]
  by_cases hc : long < s + r.2 - r.1
  · simp only [if_pos hc, List.mem_cons, List.not_mem_nil, or_false, exists_eq_or_imp, exists_eq_left]
    omega
  · simp only [if_neg hc, List.mem_cons, List.not_mem_nil, or_false, exists_eq_or_imp, exists_eq_left]
    omega
theorem piece_out {steps long x : Int} {r : Int × Int} (hl : 0 < long) (hr : 0 ≤ r.1 ∧ r.1 < r.2 ∧ r.2 ≤ long) (hx : ¬ (0 ≤ x ∧ x < long)) : covers (pieceOf steps long r) x = false := by
  have s0 := Int.emod_nonneg (r.1 + steps) (by omega : long ≠ 0)
  have s1 := Int.emod_lt_of_pos (r.1 + steps) hl
  cases h : covers (pieceOf steps long r) x with
  | false => rfl
  | true =>
    obtain ⟨t, ht, t1, t2⟩ := covers_iff.mp h
    unfold pieceOf at ht
    generalize (r.1 + steps) % long = s at *
    by_cases hc : long < s + r.2 - r.1
    · simp only [if_pos hc, List.mem_cons, List.not_mem_nil, or_false] at ht
      rcases ht with rfl | rfl
      · simp only at t1 t2; omega
      · simp only at t1 t2; omega
    · simp only [if_neg hc, List.mem_cons, List.not_mem_nil, or_false] at ht
      subst ht
      simp only at t1 t2
      omega
theorem turnedR_canon (rs : RL) (steps long : Int) : Canon (turnedR rs steps long) := (putTogether_is _ _ _).1
theorem turnedR_covers (rs : RL) (steps long : Int) (hl : 0 < long) (hw : Within rs long) (x : Int) : covers (turnedR rs steps long) x = (decide (0 ≤ x ∧ x < long) && covers rs ((x - steps) % long)) := by
  unfold turnedR
  rw [put_self]
  have e : covers (rs.flatMap (pieceOf steps long)) x = rs.any fun r => covers (pieceOf steps long r) x := by
    unfold covers
    rw [List.any_flatMap]
  rw [e]
  by_cases hx : 0 ≤ x ∧ x < long
  · rw [decide_eq_true hx, Bool.true_and]
    unfold covers
    apply Bool.eq_iff_iff.mpr
    rw [List.any_eq_true, List.any_eq_true]
    constructor
    · rintro ⟨r, hr, h⟩
      have := (piece_covers hl (hw r hr) hx).mp h
      exact ⟨r, hr, by simp [this.1, this.2]⟩
    · rintro ⟨r, hr, h⟩
      simp only [Bool.and_eq_true, decide_eq_true_eq] at h
      exact ⟨r, hr, (piece_covers hl (hw r hr) hx).mpr h⟩
  · rw [decide_eq_false hx, Bool.false_and]
    cases h : rs.any fun r => covers (pieceOf steps long r) x with
    | false => rfl
    | true =>
      obtain ⟨r, hr, h2⟩ := List.any_eq_true.mp h
      rw [piece_out hl (hw r hr) hx] at h2
      cases h2
end
end HW

namespace HW
open PySem PySem.Spec PyProof.Rows L2
noncomputable section
/-- a row of 0 and 1 -/
structure Row01 (long : Nat) (row : List Int) : Prop where
  len : row.length = long
  bit : ∀ v ∈ row, v = 0 ∨ v = 1
theorem runsOf_within {long : Nat} {row : List Int} (h : Row01 long row) : Within (runsOf row) long := fun r hr => by
  have hp := (runsOf_canon row).pos r hr
  have c1 : covers (runsOf row) r.1 = true := covers_iff.mpr ⟨r, hr, by omega, hp⟩
  have c2 : covers (runsOf row) (r.2 - 1) = true := covers_iff.mpr ⟨r, hr, by omega, by omega⟩
  obtain ⟨j, hj, e1⟩ := (runsOf_covers row _).mp c1
  obtain ⟨i, hi, e2⟩ := (runsOf_covers row _).mp c2
  have := (List.getElem?_eq_some_iff.mp hi).1
  have hl := h.len
  exact ⟨by omega, hp, by omega⟩
theorem canon_len : ∀ (rs : RL) (lo long : Int), Canon rs → (∀ r ∈ rs, lo ≤ r.1 ∧ r.2 ≤ long) → lo ≤ long + 1 → 2 * (rs.length : Int) ≤ long - lo + 1
  | [], lo, long, _, _, h => by simp; omega
  | r :: rs, lo, long, c, h, _ => by
    have hr := h r (by simp)
    have hp := c.pos r (by simp)
    have ih := canon_len rs (r.2 + 1) long c.tail (fun s hs => ⟨by have := c.after hs; omega, (h s (by simp [hs])).2⟩) (by omega)
    rw [List.length_cons]
    push_cast
    omega
theorem runsOf_len {long : Nat} {row : List Int} (h : Row01 long row) : 2 * (runsOf row).length ≤ long + 1 := by
  have := canon_len (runsOf row) 0 long (runsOf_canon row) (fun r hr => let ⟨a, _, b⟩ := runsOf_within h r hr; ⟨a, b⟩) (by omega)
  omega
theorem within_covers {rs : RL} {long x : Int} (hw : Within rs long) (h : covers rs x = true) : 0 ≤ x ∧ x < long := by
  obtain ⟨r, hr, h1, h2⟩ := covers_iff.mp h
  have := hw r hr
  omega
theorem turned_zero {rs : RL} {long : Int} (hl : 0 < long) (c : Canon rs) (hw : Within rs long) : turnedR rs 0 long = rs := by
  refine canon_unique (turnedR_canon _ _ _) c fun x => ?_
  rw [turnedR_covers rs 0 long hl hw]
  by_cases hx : 0 ≤ x ∧ x < long
  · rw [decide_eq_true hx, Bool.true_and, Int.sub_zero, Int.emod_eq_of_lt hx.1 hx.2]
  · rw [decide_eq_false hx, Bool.false_and]
    cases h : covers rs x with
    | false => rfl
    | true => exact absurd (within_covers hw h) hx
theorem back_ok {long : Nat} (hl : 0 < long) {row : List Int} (h : Row01 long row) {before : Option (List Int)} (hb : ∀ b, before = some b → Row01 long b) (w : Way) (hc : (costOf w (runsOf row) (before.map runsOf) long).isSome = true) :
    backOf w (runsOf row) (before.map runsOf) long = runsOf row := by
  have cr := runsOf_canon row
  cases w with
  | ticks =>
    show runsOf (ticksOf (runsOf row) long) = runsOf row
    rw [← h.len, ticks_runs row h.bit]
  | runs => rfl
  | turn =>
    cases before with
    | none => simp [costOf] at hc
    | some b =>
      have hB := hb b rfl
      simp only [Option.map_some, costOf, Option.bind_some] at hc
      show turnedR (runsOf b) (stepsOf (runsOf b) (runsOf row) long) long = runsOf row
      unfold stepsOf
      cases hA : alikeR (runsOf b) (runsOf row) long with
      | none => rw [hA] at hc; simp at hc
      | some s =>
        unfold alikeR at hA
        have := List.find?_some hA
        simp only [decide_eq_true_eq] at this
        show turnedR (runsOf b) (s : Int) long = _
        rw [this, turned_zero (by omega) cr (runsOf_within h)]
  | change =>
    cases before with
    | none => simp [costOf] at hc
    | some b =>
      show putTogether (runsOf b) (putTogether (runsOf row) (runsOf b) bothW) bothW = runsOf row
      refine canon_unique (putTogether_is _ _ _).1 cr fun x => ?_
      rw [put_xor, put_xor]
      cases covers (runsOf b) x <;> cases covers (runsOf row) x <;> rfl
theorem change_len {long : Nat} {row b : List Int} (h : Row01 long row) (hb : Row01 long b) : 2 * (putTogether (runsOf row) (runsOf b) bothW).length ≤ long + 1 := by
  have c := (putTogether_is (runsOf row) (runsOf b) bothW).1
  have hw : ∀ x, covers (putTogether (runsOf row) (runsOf b) bothW) x = true → 0 ≤ x ∧ x < (long : Int) := fun x hx => by
    rw [put_xor] at hx
    cases h1 : covers (runsOf row) x with
    | true => exact within_covers (runsOf_within h) h1
    | false =>
      cases h2 : covers (runsOf b) x with
      | true => exact within_covers (runsOf_within hb) h2
      | false => rw [h1, h2] at hx; cases hx
  have := canon_len _ 0 long c (fun r hr => by
    have hp := c.pos r hr
    have h1 := hw r.1 (covers_iff.mpr ⟨r, hr, by omega, hp⟩)
    have h2 := hw (r.2 - 1) (covers_iff.mpr ⟨r, hr, by omega, by omega⟩)
    omega) (by omega)
  omega
/-! the ways of coded -/
theorem coded_ways (long : Nat) : ∀ (book : List RL) (s : CS), (book.foldl (codedStep long) s).1 = s.1 ++ (book.zip (s.2.2 :: book.map some)).map (fun z => (chosen z.1 z.2 long).2.2) ∧ (book.foldl (codedStep long) s).2.1 = s.2.1 + ((book.zip (s.2.2 :: book.map some)).map (fun z => (chosen z.1 z.2 long).1)).sum
  | [], s => by simp
  | r :: rs, s => by
    obtain ⟨h1, h2⟩ := coded_ways long rs (codedStep long s r)
    rw [List.foldl_cons, h1, h2]
    constructor
    · simp [codedStep]
    · simp [codedStep, Int.add_assoc]
theorem costs_ok (long : Nat) : ∀ (book : List RL) (before : Option RL), costsOk long (book.zip ((book.zip (before :: book.map some)).map (fun z => (chosen z.1 z.2 long).2.2))) before = true
  | [], _ => rfl
  | r :: rs, before => by
    have ih := costs_ok long rs (some r)
    have hc := chosen_cost r before long
    show ((costOf (chosen r before long).2.2 r before long).isSome && costsOk long (rs.zip ((rs.zip (some r :: rs.map some)).map (fun z => (chosen z.1 z.2 long).2.2))) (some r)) = true
    rw [hc]
    exact ih
end
end HW

namespace HW
open PySem PySem.Spec PyProof.Rows L2
noncomputable section
/-- the row as it stands s steps on -/
def shiftRow (a : List Int) (long s : Nat) : List Int := (List.range long).map fun (k : Nat) => a.getD (((k : Int) - s) % long).toNat 0
theorem getD_mod {long : Nat} (hl : 0 < long) (k s : Int) : ((k - s) % (long : Int)).toNat < long := by
  have h0 := Int.emod_nonneg (k - s) (by omega : (long : Int) ≠ 0)
  have h1 := Int.emod_lt_of_pos (k - s) (by omega : (0 : Int) < long)
  omega
theorem covers_row {long : Nat} {a : List Int} (h : Row01 long a) (x : Int) : covers (runsOf a) x = (decide (0 ≤ x ∧ x < long) && decide (a.getD x.toNat 0 = 1)) := by
  apply Bool.eq_iff_iff.mpr
  rw [runsOf_covers]
  simp only [Bool.and_eq_true, decide_eq_true_eq]
  have hlen := h.len
  constructor
  · rintro ⟨j, h1, rfl⟩
    have := (List.getElem?_eq_some_iff.mp h1).1
    refine ⟨⟨by omega, by omega⟩, ?_⟩
    rw [List.getD_eq_getElem?_getD, Int.toNat_natCast, h1]
    rfl
  · rintro ⟨⟨h1, h2⟩, h3⟩
    refine ⟨x.toNat, ?_, by omega⟩
    rw [List.getD_eq_getElem?_getD] at h3
    have hx : x.toNat < a.length := by omega
    rw [List.getElem?_eq_getElem hx] at h3 ⊢
    simp at h3
    rw [h3]
theorem shiftRow_row {long s : Nat} (hl : 0 < long) {a : List Int} (h : Row01 long a) : Row01 long (shiftRow a long s) := by
  refine ⟨by simp [shiftRow], fun v hv => ?_⟩
  obtain ⟨k, _, rfl⟩ := List.mem_map.mp hv
  have hk := getD_mod hl (k : Int) (s : Int)
  rw [List.getD_eq_getElem?_getD, List.getElem?_eq_getElem (by rw [h.len]; exact hk)]
  exact h.bit _ (List.getElem_mem _)
theorem turned_shift {long s : Nat} (hl : 0 < long) {a : List Int} (h : Row01 long a) : turnedR (runsOf a) s long = runsOf (shiftRow a long s) := by
  refine canon_unique (turnedR_canon _ _ _) (runsOf_canon _) fun x => ?_
  rw [turnedR_covers _ _ _ (by omega) (runsOf_within h), covers_row (shiftRow_row hl h), covers_row h]
  by_cases hx : 0 ≤ x ∧ x < (long : Int)
  · have h0 := Int.emod_nonneg (x - s) (by omega : (long : Int) ≠ 0)
    have h1 := Int.emod_lt_of_pos (x - s) (by omega : (0 : Int) < long)
    have e : (shiftRow a long s).getD x.toNat 0 = a.getD ((x - s) % long).toNat 0 := by
      unfold shiftRow
      have hxl : x.toNat < long := by omega
      have ex : ((x.toNat : Nat) : Int) = x := by omega
      rw [List.getD_eq_getElem?_getD, List.getElem?_map, List.getElem?_range hxl]
      show a.getD ((((x.toNat : Nat) : Int) - s) % long).toNat 0 = _
      rw [ex]
    rw [decide_eq_true hx, e, decide_eq_true (⟨h0, h1⟩ : 0 ≤ (x - s) % (long : Int) ∧ (x - s) % (long : Int) < long)]
    rfl
  · rw [decide_eq_false hx]
    rfl
theorem runs_inj {long : Nat} {a b : List Int} (ha : Row01 long a) (hb : Row01 long b) (h : runsOf a = runsOf b) : a = b := by
  have := ticks_runs a ha.bit
  rw [h, ha.len, ← hb.len, ticks_runs b hb.bit] at this
  exact this.symm
/-- what alike tells -/
theorem alike_is {long : Nat} (hl : 0 < long) {a b : List Int} (ha : Row01 long a) (hb : Row01 long b) : alikeR (runsOf a) (runsOf b) long = (List.range long).find? fun s => decide (shiftRow a long s = b) := by
  unfold alikeR
  congr 1
  funext s
  have e0 : turnedR (runsOf b) 0 long = runsOf b := turned_zero (by omega) (runsOf_canon b) (runsOf_within hb)
  rw [e0, turned_shift hl ha]
  by_cases h : shiftRow a long s = b
  · rw [h]; simp
  · rw [decide_eq_false h]
    exact decide_eq_false fun z => h (runs_inj (shiftRow_row hl ha) hb z)
/-- what least_round tells -/
theorem round_is {long : Nat} (hl : 0 < long) {a : List Int} (ha : Row01 long a) (s : Nat) : isRound (runsOf a) long s = (decide (long % s = 0) && decide (shiftRow a long s = a)) := by
  unfold isRound
  have e0 : turnedR (runsOf a) 0 long = runsOf a := turned_zero (by omega) (runsOf_canon a) (runsOf_within ha)
  rw [e0, turned_shift hl ha]
  congr 1
  by_cases h : shiftRow a long s = a
  · rw [h]; simp
  · rw [decide_eq_false h]
    exact decide_eq_false fun z => h (runs_inj (shiftRow_row hl ha) ha z)
end
end HW

namespace HW
open PySem PySem.Spec PyProof.Rows L2
noncomputable section
def unlike (long : Nat) (row ahead : List Int) : List Int := (List.range long).map fun k => if row.getD k 0 = ahead.getD k 0 then 0 else 1
theorem unlike_row (long : Nat) (row ahead : List Int) : Row01 long (unlike long row ahead) := by
  refine ⟨by simp [unlike], fun v hv => ?_⟩
  obtain ⟨k, _, rfl⟩ := List.mem_map.mp hv
  show (if _ then _ else _) = _ ∨ _
  split
  · exact .inl rfl
  · exact .inr rfl
theorem bit_getD {long : Nat} {a : List Int} (h : Row01 long a) (k : Nat) : a.getD k 0 = 0 ∨ a.getD k 0 = 1 := by
  rw [List.getD_eq_getElem?_getD]
  cases hk : a[k]? with
  | none => exact .inl rfl
  | some v => exact h.bit v (List.mem_of_getElem? hk)
theorem put_unlike {long : Nat} {row ahead : List Int} (hr : Row01 long row) (ha : Row01 long ahead) : putTogether (runsOf ahead) (runsOf row) bothW = runsOf (unlike long row ahead) := by
  refine canon_unique (putTogether_is _ _ _).1 (runsOf_canon _) fun x => ?_
  rw [put_xor, covers_row hr, covers_row ha, covers_row (unlike_row long row ahead)]
  by_cases hx : 0 ≤ x ∧ x < (long : Int)
  · rw [decide_eq_true hx, Bool.true_and, Bool.true_and, Bool.true_and]
    have e : (unlike long row ahead).getD x.toNat 0 = if row.getD x.toNat 0 = ahead.getD x.toNat 0 then 0 else 1 := by
      unfold unlike
      rw [List.getD_eq_getElem?_getD, List.getElem?_map, List.getElem?_range (by omega)]
      rfl
    rw [e]
    rcases bit_getD hr x.toNat with h1 | h1 <;> rcases bit_getD ha x.toNat with h2 | h2 <;> rw [h1, h2] <;> rfl
  · rw [decide_eq_false hx]
    rfl
theorem runsOf_zeros (long : Nat) : runsOf (List.replicate long 0) = [] := by
  refine canon_unique (runsOf_canon _) Canon.nil fun x => ?_
  cases h : covers (runsOf (List.replicate long 0)) x with
  | false => rfl
  | true =>
    obtain ⟨j, h1, _⟩ := (runsOf_covers _ _).mp h
    have := List.mem_of_getElem? h1
    have := List.eq_of_mem_replicate this
    omega
/-! ### periods -/
theorem flat_get {α : Type} (b : List α) (s : Nat) (hs : 0 < s) (hb : b.length = s) : ∀ (q k : Nat), k < q * s → (List.replicate q b).flatten[k]? = b[k % s]?
  | 0, k, h => by simp at h
  | q + 1, k, h => by
    rw [List.replicate_succ, List.flatten_cons]
    by_cases hk : k < s
    · rw [List.getElem?_append_left (by omega), Nat.mod_eq_of_lt hk]
    · rw [List.getElem?_append_right (by omega), hb, flat_get b s hs hb q (k - s) (by have e : (q + 1) * s = q * s + s := Nat.succ_mul q s; omega)]
      rw [← Nat.mod_eq_sub_mod (by omega : k ≥ s)]
theorem flat_len {α : Type} (b : List α) (q : Nat) : (List.replicate q b).flatten.length = q * b.length := by simp
theorem period_iff {α : Type} (xs : List α) (s : Nat) (hs : 0 < s) (hd : xs.length % s = 0) (hle : s ≤ xs.length) : (List.replicate (xs.length / s) (xs.take s)).flatten = xs ↔ ∀ k, k < xs.length → xs[k]? = xs[k % s]? := by
  have hq : xs.length / s * s = xs.length := Nat.div_mul_cancel (Nat.dvd_of_mod_eq_zero hd)
  have hl : (xs.take s).length = s := by rw [List.length_take]; omega
  have g : ∀ k, k < xs.length → (List.replicate (xs.length / s) (xs.take s)).flatten[k]? = xs[k % s]? := fun k hk => by
    rw [flat_get (xs.take s) s hs hl _ k (by rw [hq]; exact hk), List.getElem?_take_of_lt (Nat.mod_lt _ hs)]
  constructor
  · intro h k hk
    rw [← g k hk, h]
  · intro h
    apply List.ext_getElem?
    intro k
    by_cases hk : k < xs.length
    · rw [g k hk, ← h k hk]
    · rw [List.getElem?_eq_none (by rw [flat_len, hl, hq]; omega), List.getElem?_eq_none (by omega)]
theorem shift_get {long s k : Nat} (a : List Int) (hk : k < long) : (shiftRow a long s)[k]? = some (a.getD (((k : Int) - s) % long).toNat 0) := by
  unfold shiftRow
  rw [List.getElem?_map, List.getElem?_range hk]
  rfl
theorem shift_period {long s : Nat} {a : List Int} (hl : 0 < long) (hlen : a.length = long) (hs : 0 < s) (hsl : s ≤ long) (hd : long % s = 0) : shiftRow a long s = a ↔ ∀ k, k < long → a[k]? = a[k % s]? := by
  have gd : ∀ k, k < long → a[k]? = some (a.getD k 0) := fun k hk => by
    rw [List.getD_eq_getElem?_getD, List.getElem?_eq_getElem (by omega)]
    rfl
  constructor
  · intro h k
    induction k using Nat.strongRecOn with
    | ind k ih =>
      intro hk
      by_cases hks : k < s
      · rw [Nat.mod_eq_of_lt hks]
      · have e := shift_get (s := s) a hk
        rw [h] at e
        have e2 : (((k : Int) - s) % long).toNat = k - s := by
          rw [Int.emod_eq_of_lt (by omega) (by omega)]
          omega
        rw [e2] at e
        rw [e, ← gd (k - s) (by omega), ih (k - s) (by omega) (by omega)]
        congr 1
        exact (Nat.mod_eq_sub_mod (by omega)).symm
  · intro h
    apply List.ext_getElem?
    intro k
    by_cases hk : k < long
    · rw [shift_get a hk]
      have hm := getD_mod hl (k : Int) (s : Int)
      rw [← gd _ hm, h _ hm, h k hk]
      congr 1
      have h0 := Int.emod_nonneg ((k : Int) - s) (by omega : (long : Int) ≠ 0)
      have hdv : (s : Int) ∣ (long : Int) := by exact_mod_cast Nat.dvd_of_mod_eq_zero hd
      have e3 : ((((k : Int) - s) % long).toNat : Int) % s = (k : Int) % s := by
        rw [Int.toNat_of_nonneg h0, Int.emod_emod_of_dvd _ hdv, Int.sub_emod_right]
      exact_mod_cast e3
    · rw [List.getElem?_eq_none (by simp [shiftRow]; omega), List.getElem?_eq_none (by omega)]
end
end HW

namespace HW
open PySem PySem.Spec PyProof.Rows L2
noncomputable section
def hOf (c : Int) : Str := if c = 1 then "H" else ""
def hs (row : List Int) : List Str := row.map hOf
@[simp] theorem hs_len (row : List Int) : (hs row).length = row.length := by simp [hs]
theorem hOf_inj {a b : Int} (ha : a = 0 ∨ a = 1) (hb : b = 0 ∨ b = 1) (h : hOf a = hOf b) : a = b := by
  rcases ha with rfl | rfl <;> rcases hb with rfl | rfl
  · rfl
  · exact absurd h (by decide)
  · exact absurd h (by decide)
  · rfl
theorem hs_get (row : List Int) (k : Nat) : (hs row)[k]? = (row[k]?).map hOf := by simp [hs]
theorem hs_get_iff {long : Nat} {a b : List Int} (ha : Row01 long a) (hb : Row01 long b) (i j : Nat) : (hs a)[i]? = (hs b)[j]? ↔ a[i]? = b[j]? := by
  rw [hs_get, hs_get]
  constructor
  · intro h
    cases hi : a[i]? with
    | none => cases hj : b[j]? with
      | none => rfl
      | some y => rw [hi, hj] at h; cases h
    | some x => cases hj : b[j]? with
      | none => rw [hi, hj] at h; cases h
      | some y =>
        rw [hi, hj] at h
        simp only [Option.map_some, Option.some.injEq] at h
        rw [hOf_inj (ha.bit x (List.mem_of_getElem? hi)) (hb.bit y (List.mem_of_getElem? hj)) h]
  · intro h; rw [h]
theorem period_round {long : Nat} (hl : 0 < long) {a : List Int} (ha : Row01 long a) {s : Nat} (hs0 : 0 < s) (hsl : s ≤ long) : isPeriod (hs a) s = isRound (runsOf a) long s := by
  rw [round_is hl ha]
  unfold isPeriod
  rw [hs_len, ha.len]
  by_cases hd : long % s = 0
  · rw [decide_eq_true hd, Bool.true_and, Bool.true_and]
    have e1 := period_iff (hs a) s hs0 (by rw [hs_len, ha.len]; exact hd) (by rw [hs_len, ha.len]; exact hsl)
    rw [hs_len, ha.len] at e1
    have e2 := shift_period (a := a) hl ha.len hs0 hsl hd
    apply Bool.eq_iff_iff.mpr
    rw [decide_eq_true_eq, decide_eq_true_eq, e1, e2]
    exact ⟨fun h k hk => (hs_get_iff ha ha k (k % s)).mp (h k hk), fun h k hk => (hs_get_iff ha ha k (k % s)).mpr (h k hk)⟩
  · rw [decide_eq_false hd]
    rfl
theorem find_congr {α : Type} {p q : α → Bool} : ∀ {xs : List α}, (∀ x ∈ xs, p x = q x) → xs.find? p = xs.find? q
  | [], _ => rfl
  | x :: xs, h => by
    rw [List.find?_cons, List.find?_cons, h x (by simp), find_congr fun y hy => h y (by simp [hy])]
theorem least_same {long : Nat} (hl : 0 < long) {a : List Int} (ha : Row01 long a) : ∃ s, leastRoundR (runsOf a) long = some s ∧ 0 < s ∧ s ≤ long ∧ long % s = 0 ∧ shiftRow a long s = a ∧ leastTurn (hs a) = (hs a).take s ∧ (leastTurn (hs a)).length = s ∧ ∀ t, 0 < t → t < s → ¬ (long % t = 0 ∧ shiftRow a long t = a) := by
  have hb : ∀ s ∈ (List.range long).map (· + 1), 0 < s ∧ s ≤ long := fun s hs => by
    obtain ⟨j, hj, rfl⟩ := List.mem_map.mp hs
    have := List.mem_range.mp hj
    exact ⟨Nat.succ_pos j, this⟩
  have same : ((List.range (hs a).length).map (· + 1)).find? (isPeriod (hs a)) = leastRoundR (runsOf a) long := by
    unfold leastRoundR
    rw [hs_len, ha.len]
    exact find_congr fun s hs' => period_round hl ha (hb s hs').1 (hb s hs').2
  have full : isRound (runsOf a) long long = true := by
    rw [round_is hl ha, Nat.mod_self]
    have : shiftRow a long long = a := (shift_period hl ha.len hl (Nat.le_refl _) (Nat.mod_self _)).mpr fun k hk => by rw [Nat.mod_eq_of_lt hk]
    rw [decide_eq_true this]
    rfl
  cases hf : leastRoundR (runsOf a) long with
  | none =>
    unfold leastRoundR at hf
    have := List.find?_eq_none.mp hf long (List.mem_map.mpr ⟨long - 1, List.mem_range.mpr (by omega), by show long - 1 + 1 = long; omega⟩)
    exact absurd full this
  | some s =>
    have hf' := hf
    unfold leastRoundR at hf'
    have hm := hb s (List.mem_of_find?_eq_some hf')
    have hr := List.find?_some hf'
    rw [round_is hl ha, Bool.and_eq_true, decide_eq_true_eq, decide_eq_true_eq] at hr
    have lt : leastTurn (hs a) = (hs a).take s := by
      unfold leastTurn
      rw [same, hf]
    refine ⟨s, rfl, hm.1, hm.2, hr.1, hr.2, lt, by rw [lt, List.length_take, hs_len, ha.len]; omega, fun t t0 ts hh => ?_⟩
    obtain ⟨_, i, hi, he, hbefore⟩ := List.find?_eq_some_iff_getElem.mp hf'
    have hi' : i < long := by simpa using hi
    have es : s = i + 1 := by rw [← he]; simp
    have := hbefore (t - 1) (by omega)
    simp only [List.getElem_map, List.getElem_range] at this
    have et : t - 1 + 1 = t := by omega
    rw [et, round_is hl ha] at this
    simp [hh.1, hh.2] at this
end
end HW

namespace HW
open PySem PySem.Spec PyProof.Rows L2
noncomputable section
/-- b, begun at t, is a -/
def Meets0 (long : Nat) (a b : List Int) (t : Nat) : Prop := ∀ k, k < long → b[(t + k) % long]? = a[k]?
theorem shift_meets {long : Nat} (hl : 0 < long) {a b : List Int} (ha : Row01 long a) (hb : Row01 long b) (s : Nat) (hs : s < long) : shiftRow a long s = b ↔ Meets0 long a b s := by
  have gd : ∀ k, k < long → a[k]? = some (a.getD k 0) := fun k hk => by
    rw [List.getD_eq_getElem?_getD, List.getElem?_eq_getElem (by rw [ha.len]; omega)]
    rfl
  have mod1 : ∀ k, k < long → (((((s + k) % long : Nat) : Int) - s) % long).toNat = k := fun k hk => by
    have e : (((s + k) % long : Nat) : Int) = ((s : Int) + k) % long := by push_cast; rfl
    rw [e, Int.emod_sub_emod]
    have : (s : Int) + k - s = k := by omega
    rw [this, Int.emod_eq_of_lt (by omega) (by omega)]
    omega
  constructor
  · intro h k hk
    have hm : (s + k) % long < long := Nat.mod_lt _ hl
    rw [← h, shift_get a hm, mod1 k hk, gd k hk]
  · intro h
    apply List.ext_getElem?
    intro k
    by_cases hk : k < long
    · have hm := getD_mod hl (k : Int) (s : Int)
      rw [shift_get a hk, ← gd _ hm, ← h _ hm]
      congr 1
      have h0 := Int.emod_nonneg ((k : Int) - s) (by omega : (long : Int) ≠ 0)
      have e : (((s + (((k : Int) - s) % long).toNat) % long : Nat) : Int) = k := by
        push_cast
        rw [Int.toNat_of_nonneg h0]
        have e2 : ((s : Int) + ((k : Int) - s) % long) % long = ((s : Int) + ((k : Int) - s)) % long := by simp
        rw [e2]
        have : (s : Int) + ((k : Int) - s) = k := by omega
        rw [this, Int.emod_eq_of_lt (by omega) (by omega)]
      omega
    · rw [List.getElem?_eq_none (by simp [shiftRow]; omega), List.getElem?_eq_none (by rw [hb.len]; omega)]
/-- with the period s, places are told by their rest -/
theorem per_get {long s : Nat} {a : List Int} (hl : 0 < long) (ha : Row01 long a) (hs : 0 < s) (hsl : s ≤ long) (hd : long % s = 0) (hp : shiftRow a long s = a) (m : Nat) : a[m % long]? = a[m % s]? := by
  have h := (shift_period hl ha.len hs hsl hd).mp hp (m % long) (Nat.mod_lt _ hl)
  rw [h]
  congr 1
  exact Nat.mod_mod_of_dvd m (Nat.dvd_of_mod_eq_zero hd)
theorem rot_get (xs : List Str) (t k : Nat) (h0 : 0 < xs.length) (hk : k < xs.length) : (rot xs t)[k]? = xs[(t + k) % xs.length]? := by
  unfold rot
  have hm : t % xs.length < xs.length := Nat.mod_lt _ h0
  have e : (t + k) % xs.length = (t % xs.length + k) % xs.length := by simp
  rw [e]
  generalize t % xs.length = z at *
  by_cases h : k < xs.length - z
  · rw [List.getElem?_append_left (by rw [List.length_drop]; exact h), List.getElem?_drop, Nat.mod_eq_of_lt (by omega)]
  · rw [List.getElem?_append_right (by rw [List.length_drop]; omega), List.length_drop, List.getElem?_take_of_lt (by omega)]
    congr 1
    rw [Nat.mod_eq_sub_mod (by omega), Nat.mod_eq_of_lt (by omega)]
    omega
theorem rot_len (xs : List Str) (t : Nat) : (rot xs t).length = xs.length := by
  unfold rot
  rw [List.length_append, List.length_drop, List.length_take]
  by_cases h0 : 0 < xs.length
  · have := Nat.mod_lt t h0; omega
  · have : xs.length = 0 := by omega
    omega

theorem take_get {α : Type} (xs : List α) {s k : Nat} (h : k < s) : (xs.take s)[k]? = xs[k]? := List.getElem?_take_of_lt h
/-- the turns meet iff the rows meet -/
theorem rot_meets {long s : Nat} (hl : 0 < long) {a b : List Int} (ha : Row01 long a) (hb : Row01 long b) (hs : 0 < s) (hsl : s ≤ long) (hd : long % s = 0) (pa : shiftRow a long s = a) (pb : shiftRow b long s = b) (t : Nat) :
    rot ((HW.hs b).take s) t = (HW.hs a).take s ↔ Meets0 long a b t := by
  have lb : ((HW.hs b).take s).length = s := by rw [List.length_take, hs_len, hb.len]; omega
  have la : ((HW.hs a).take s).length = s := by rw [List.length_take, hs_len, ha.len]; omega
  have key : ∀ k, k < s → ((rot ((HW.hs b).take s) t)[k]? = ((HW.hs a).take s)[k]? ↔ b[(t + k) % long]? = a[k]?) := fun k hk => by
    rw [rot_get _ t k (by omega) (by omega), lb, take_get _ (Nat.mod_lt _ hs), take_get _ hk, hs_get_iff hb ha, ← per_get hl hb hs hsl hd pb]
  constructor
  · intro h k hk
    have e := (key (k % s) (Nat.mod_lt _ hs)).mp (by rw [h])
    have e1 := per_get hl ha hs hsl hd pa k
    rw [Nat.mod_eq_of_lt hk] at e1
    rw [e1, ← e, per_get hl hb hs hsl hd pb, per_get hl hb hs hsl hd pb]
    congr 1
    simp
  · intro h
    apply List.ext_getElem?
    intro k
    by_cases hk : k < s
    · exact (key k hk).mpr (h k (by omega))
    · rw [List.getElem?_eq_none (by rw [rot_len, lb]; omega), List.getElem?_eq_none (by omega)]
end
end HW

namespace HW
open PySem PySem.Spec PyProof.Rows L2
noncomputable section
theorem meets_zero {long : Nat} (a : List Int) : Meets0 long a a 0 := fun k hk => by rw [Nat.zero_add, Nat.mod_eq_of_lt hk]
theorem meets_at {long : Nat} (hl : 0 < long) {a b : List Int} {t : Nat} (h : Meets0 long a b t) (m : Nat) : b[(t + m) % long]? = a[m % long]? := by
  rw [← h (m % long) (Nat.mod_lt _ hl)]
  congr 1
  simp
theorem inv_add {long : Nat} (hl : 0 < long) {a : List Int} {t u : Nat} (h1 : Meets0 long a a t) (h2 : Meets0 long a a u) : Meets0 long a a (t + u) := fun k hk => by
  rw [Nat.add_assoc, meets_at hl h1, meets_at hl h2, Nat.mod_eq_of_lt hk]
theorem inv_mul {long : Nat} (hl : 0 < long) {a : List Int} {t : Nat} (h : Meets0 long a a t) : ∀ q, Meets0 long a a (q * t)
  | 0 => by rw [Nat.zero_mul]; exact meets_zero a
  | q + 1 => by rw [Nat.succ_mul]; exact inv_add hl (inv_mul hl h q) h
theorem inv_sub {long : Nat} (hl : 0 < long) {a b : List Int} {t u : Nat} (h1 : Meets0 long a b t) (h2 : Meets0 long a b u) (hle : u ≤ t) : Meets0 long b b (t - u) := fun k hk => by
  have e1 := meets_at hl h2 (k + (long * u - u))
  have e2 := meets_at hl h1 (k + (long * u - u))
  have hlu : u ≤ long * u := Nat.le_mul_of_pos_left u hl
  have i1 : (u + (k + (long * u - u))) % long = k := by
    have : u + (k + (long * u - u)) = k + long * u := by omega
    rw [this, Nat.add_mul_mod_self_left, Nat.mod_eq_of_lt hk]
  have i2 : (t + (k + (long * u - u))) % long = (t - u + k) % long := by
    have : t + (k + (long * u - u)) = (t - u + k) + long * u := by omega
    rw [this, Nat.add_mul_mod_self_left]
  rw [i1] at e1
  rw [i2] at e2
  rw [e1, e2]
theorem inv_long {long : Nat} (a : List Int) : Meets0 long a a long := fun k hk => by rw [Nat.add_mod_left, Nat.mod_eq_of_lt hk]
theorem inv_rest {long : Nat} (hl : 0 < long) {a : List Int} {t : Nat} (h : Meets0 long a a t) : Meets0 long a a (long % t) := by
  have e : long % t = long - long / t * t := by
    have := Nat.div_add_mod long t
    rw [Nat.mul_comm] at this
    omega
  rw [e]
  exact inv_sub hl (inv_long a) (inv_mul hl h _) (Nat.div_mul_le_self _ _)
/-- nothing below the least turn keeps the row -/
theorem least_inv {long s : Nat} (hl : 0 < long) {a : List Int} (ha : Row01 long a) (hsl : s ≤ long) (hmin : ∀ t, 0 < t → t < s → ¬ (long % t = 0 ∧ shiftRow a long t = a)) : ∀ t, 0 < t → Meets0 long a a t → s ≤ t := by
  intro t
  induction t using Nat.strongRecOn with
  | ind t ih =>
    intro t0 h
    by_cases hts : t < s
    · have hr := inv_rest hl h
      by_cases h0 : long % t = 0
      · exact absurd ⟨h0, (shift_meets hl ha ha t (by omega)).mpr h⟩ (hmin t t0 hts)
      · have := ih (long % t) (Nat.mod_lt _ t0) (by omega) hr
        have := Nat.mod_lt long t0
        omega
    · omega
/-- where two rows meet, it is at one place only below the least turn -/
theorem meets_once {long s : Nat} (hl : 0 < long) {a b : List Int} (hb : Row01 long b) (hsl : s ≤ long) (hmin : ∀ t, 0 < t → t < s → ¬ (long % t = 0 ∧ shiftRow b long t = b)) {t u : Nat} (ht : t < s) (hu : u < s) (h1 : Meets0 long a b t) (h2 : Meets0 long a b u) : t = u := by
  rcases Nat.lt_trichotomy t u with h | h | h
  · have := least_inv hl hb hsl hmin (u - t) (by omega) (inv_sub hl h2 h1 (by omega)); omega
  · exact h
  · have := least_inv hl hb hsl hmin (t - u) (by omega) (inv_sub hl h1 h2 (by omega)); omega
/-- a meeting can be brought below the turn -/
theorem meets_mod {long s : Nat} (hl : 0 < long) {a b : List Int} (hb : Row01 long b) (hs : 0 < s) (hsl : s ≤ long) (hd : long % s = 0) (pb : shiftRow b long s = b) {t : Nat} (h : Meets0 long a b t) : Meets0 long a b (t % s) := fun k hk => by
  rw [← h k hk, per_get hl hb hs hsl hd pb, per_get hl hb hs hsl hd pb]
  congr 1
  simp
/-- meeting rows keep the same turns -/
theorem meets_inv {long : Nat} (hl : 0 < long) {a b : List Int} {t u : Nat} (h : Meets0 long a b t) (hu : Meets0 long a a u) : Meets0 long b b u := fun k hk => by
  have hlt : t ≤ long * t := Nat.le_mul_of_pos_left t hl
  have e1 := meets_at hl h (k + (long * t - t))
  have e2 := meets_at hl h (u + (k + (long * t - t)))
  have i1 : (t + (k + (long * t - t))) % long = k := by
    have : t + (k + (long * t - t)) = k + long * t := by omega
    rw [this, Nat.add_mul_mod_self_left, Nat.mod_eq_of_lt hk]
  have i2 : (t + (u + (k + (long * t - t)))) % long = (u + k) % long := by
    have : t + (u + (k + (long * t - t))) = (u + k) + long * t := by omega
    rw [this, Nat.add_mul_mod_self_left]
  rw [i1] at e1
  rw [i2, meets_at hl hu] at e2
  rw [e2, e1]
theorem meets_back {long : Nat} (hl : 0 < long) {a b : List Int} {t : Nat} (h : Meets0 long a b t) (ht : t ≤ long) : Meets0 long b a (long - t) := fun k hk => by
  have e := meets_at hl h (long - t + k)
  have : (t + (long - t + k)) % long = k := by
    have : t + (long - t + k) = k + long := by omega
    rw [this, Nat.add_mod_right, Nat.mod_eq_of_lt hk]
  rw [this] at e
  exact e.symm
end
end HW

namespace HW
open PySem PySem.Spec PyProof.Rows L2
noncomputable section
theorem turn_inv {long s : Nat} (hl : 0 < long) {a : List Int} (ha : Row01 long a) (hsl : s ≤ long) (p : shiftRow a long s = a) : Meets0 long a a s := by
  by_cases h : s < long
  · exact (shift_meets hl ha ha s h).mp p
  · have : s = long := by omega
    subst this
    exact inv_long a
/-- rows that meet have the same least turn -/
theorem same_turn {long sa sb : Nat} (hl : 0 < long) {a b : List Int} (ha : Row01 long a) (hb : Row01 long b) (la : sa ≤ long) (lb : sb ≤ long) (a0 : 0 < sa) (b0 : 0 < sb) (pa : shiftRow a long sa = a) (pb : shiftRow b long sb = b)
    (ma : ∀ t, 0 < t → t < sa → ¬ (long % t = 0 ∧ shiftRow a long t = a)) (mb : ∀ t, 0 < t → t < sb → ¬ (long % t = 0 ∧ shiftRow b long t = b)) {t : Nat} (h : Meets0 long a b t) (ht : t < long) : sa = sb := by
  have h1 : sb ≤ sa := least_inv hl hb lb mb sa a0 (meets_inv hl h (turn_inv hl ha la pa))
  have h2 : sa ≤ sb := least_inv hl ha la ma sb b0 (meets_inv hl (meets_back hl h (by omega)) (turn_inv hl hb lb pb))
  omega
theorem sbfb_is {long : Nat} (hl : 0 < long) {a b : List Int} (ha : Row01 long a) (hb : Row01 long b) :
    (∀ t, sbfb (hs b) (hs a) = some t → Meets0 long a b t ∧ t < (leastTurn (hs b)).length) ∧ (sbfb (hs b) (hs a) = none → ∀ t, t < long → ¬ Meets0 long a b t) := by
  obtain ⟨sa, _, a0, la, da, pa, ea, na, ma⟩ := least_same hl ha
  obtain ⟨sb, _, b0, lb, db, pb, eb, nb, mb⟩ := least_same hl hb
  unfold sbfb
  rw [na, nb, ea, eb]
  by_cases he : sb = sa
  · subst he
    rw [if_pos rfl]
    have key : ∀ t, decide (rot ((hs b).take sb) t = (hs a).take sb) = true ↔ Meets0 long a b t := fun t => by
      rw [decide_eq_true_eq]
      exact rot_meets hl ha hb b0 lb db pa pb t
    constructor
    · intro t h
      exact ⟨(key t).mp (List.find?_some (p := fun t => decide (rot ((hs b).take sb) t = (hs a).take sb)) h), List.mem_range.mp (List.mem_of_find?_eq_some h)⟩
    · intro h t ht hm
      have hm2 := meets_mod hl hb b0 lb db pb hm
      have := List.find?_eq_none.mp h (t % sb) (List.mem_range.mpr (Nat.mod_lt _ b0))
      exact this ((key _).mpr hm2)
  · rw [if_neg he]
    exact ⟨fun t h => by (cases h), fun _ t ht hm => he (same_turn hl ha hb la lb a0 b0 pa pb ma mb hm ht).symm⟩
theorem alike_none {long : Nat} (hl : 0 < long) {a b : List Int} (ha : Row01 long a) (hb : Row01 long b) : (alikeR (runsOf a) (runsOf b) long).isNone = (sbfb (hs b) (hs a)).isNone := by
  obtain ⟨h1, h2⟩ := sbfb_is hl ha hb
  rw [alike_is hl ha hb]
  have key : ∀ s, s < long → (decide (shiftRow a long s = b) = true ↔ Meets0 long a b s) := fun s hs => by
    rw [decide_eq_true_eq]
    exact shift_meets hl ha hb s hs
  cases hf : (List.range long).find? fun s => decide (shiftRow a long s = b) with
  | none =>
    cases hg : sbfb (hs b) (hs a) with
    | none => rfl
    | some t =>
      obtain ⟨m, lt⟩ := h1 t hg
      have hlt : t < long := by
        have := leastTurn_len (hs b)
        rw [hs_len, hb.len] at this
        omega
      have := List.find?_eq_none.mp hf t (List.mem_range.mpr hlt)
      exact absurd ((key t hlt).mpr m) this
  | some s =>
    have hs' := List.mem_range.mp (List.mem_of_find?_eq_some hf)
    have hm := (key s hs').mp (List.find?_some (p := fun s => decide (shiftRow a long s = b)) hf)
    cases hg : sbfb (hs b) (hs a) with
    | none => exact absurd hm (h2 hg s hs')
    | some t => rfl
/-! fitting what was heard twice round -/
theorem bar_none {long : Nat} (hl : 0 < long) {a b : List Int} (ha : Row01 long a) (hb : Row01 long b) (t : Nat) : barOf (hs b) t ((hs a ++ hs a).map some) = none ↔ Meets0 long a b t := by
  unfold barOf
  rw [Option.map_eq_none_iff, List.find?_eq_none]
  have hz : ∀ (x : Option Str) (k : Nat), (x, k) ∈ ((hs a ++ hs a).map some).zipIdx ↔ k < 2 * long ∧ x = some ((hs a ++ hs a).getD k "") := fun x k => by
    rw [List.mem_zipIdx_iff_getElem?, List.getElem?_map]
    have hlen : (hs a ++ hs a).length = 2 * long := by simp [ha.len]; omega
    constructor
    · intro h
      obtain ⟨y, hy, e⟩ := Option.map_eq_some_iff.mp h
      have := (List.getElem?_eq_some_iff.mp hy).1
      refine ⟨by omega, ?_⟩
      rw [List.getD_eq_getElem?_getD, hy]
      exact e.symm
    · rintro ⟨h, rfl⟩
      rw [List.getD_eq_getElem?_getD, List.getElem?_eq_getElem (by omega)]
      rfl
  have hg : ∀ k, k < 2 * long → (hs a ++ hs a)[k]? = (hs a)[k % long]? := fun k hk => by
    by_cases h : k < long
    · rw [List.getElem?_append_left (by rw [hs_len, ha.len]; exact h), Nat.mod_eq_of_lt h]
    · rw [List.getElem?_append_right (by rw [hs_len, ha.len]; omega), hs_len, ha.len]
      congr 1
      rw [Nat.mod_eq_sub_mod (by omega), Nat.mod_eq_of_lt (by omega)]
  have ok : ∀ k, k < 2 * long → (okAt (hs b) t (some ((hs a ++ hs a).getD k ""), k) = true ↔ b[(t + k) % long]? = a[k % long]?) := fun k hk => by
    unfold okAt
    simp only [decide_eq_true_eq]
    rw [hs_len, hb.len, List.getD_eq_getElem?_getD]
    obtain ⟨y, hy⟩ : ∃ y, (hs a ++ hs a)[k]? = some y := ⟨_, List.getElem?_eq_getElem (by simp [ha.len]; omega)⟩
    have e := hg k hk
    rw [hy] at e
    rw [hy, Option.getD_some, e, hs_get_iff hb ha]
  constructor
  · intro h k hk
    have := h (some ((hs a ++ hs a).getD k ""), k) ((hz _ _).mpr ⟨by omega, rfl⟩)
    have h2 : okAt (hs b) t (some ((hs a ++ hs a).getD k ""), k) = true := by simpa using this
    have := (ok k (by omega)).mp h2
    rwa [Nat.mod_eq_of_lt hk] at this
  · rintro h ⟨x, k⟩ hm
    obtain ⟨h1, rfl⟩ := (hz x k).mp hm
    have := (ok k h1).mpr (meets_at hl h k)
    show ¬ (!okAt (hs b) t (some ((hs a ++ hs a).getD k ""), k)) = true
    rw [this]
    decide
end
end HW

namespace HW
open PySem PySem.Spec PyProof.Rows L2
noncomputable section
theorem fit_fold (rs : List (List Str)) (heard : List (Option Str)) : ∀ (zs : List Start) (s : List Start × List (Start × Nat)), (zs.foldl (fitStep rs heard) s).1 = s.1 ++ zs.filter fun z => (barOf (rs.getD z.1 []) z.2 heard).isNone
  | [], s => by simp
  | z :: zs, s => by
    rw [List.foldl_cons, fit_fold rs heard zs]
    unfold fitStep
    rw [List.filter_cons]
    cases h : barOf (rs.getD z.1 []) z.2 heard with
    | none => simp
    | some k => simp
theorem fittingR_fits (rs : List (List Str)) (heard : List (Option Str)) : (fittingR rs heard).1 = (startsOf rs).filter fun z => (barOf (rs.getD z.1 []) z.2 heard).isNone := by
  unfold fittingR
  rw [fit_fold]
  rfl
/-- of range, only one keeps the test -/
theorem range_one (p : Nat → Bool) (n t : Nat) (ht : t < n) (h : ∀ u, u < n → (p u = true ↔ u = t)) : (List.range n).filter p = [t] := by
  induction n with
  | zero => omega
  | succ n ih =>
    rw [List.range_succ, List.filter_append]
    by_cases e : t = n
    · subst e
      have h0 : (List.range t).filter p = [] := List.filter_eq_nil_iff.mpr fun u hu => by
        have hu' := List.mem_range.mp hu
        intro q
        have := (h u (by omega)).mp q
        omega
      rw [h0, List.filter_cons, if_pos ((h t (by omega)).mpr rfl)]
      rfl
    · rw [ih (by omega) fun u hu => h u (by omega), List.filter_cons, if_neg (fun q => e ((h n (by omega)).mp q).symm)]
      rfl
theorem flat_congr {α β : Type} {f g : α → List β} : ∀ {xs : List α}, (∀ x ∈ xs, f x = g x) → xs.flatMap f = xs.flatMap g
  | [], _ => rfl
  | x :: xs, h => by rw [List.flatMap_cons, List.flatMap_cons, h x (by simp), flat_congr fun y hy => h y (by simp [hy])]
/-- the pairs (j, begin) of the rows that meet row a -/
def sameOf (rows : List (List Int)) (a : List Int) : List Start := rows.zipIdx.flatMap fun z => match sbfb (hs z.1) (hs a) with
  | some t => [(z.2, t)]
  | none => []
theorem fits_same {long : Nat} (hl : 0 < long) (rows : List (List Int)) (hr : ∀ r ∈ rows, Row01 long r) {a : List Int} (ha : Row01 long a) :
    (fittingR (rows.map hs) ((hs a ++ hs a).map some)).1 = sameOf rows a := by
  rw [fittingR_fits]
  unfold startsOf sameOf
  have e0 : (rows.map hs).zipIdx = rows.zipIdx.map fun z => (hs z.1, z.2) := by
    rw [List.zipIdx_map]
    rfl
  rw [e0, List.flatMap_map, List.filter_flatMap]
  apply flat_congr
  rintro ⟨b, j⟩ hz
  have hj := List.mem_zipIdx_iff_getElem?.mp hz
  have hb : Row01 long b := hr b (List.mem_of_getElem? hj)
  have hgd : (rows.map hs).getD j [] = hs b := by
    rw [List.getD_eq_getElem?_getD, List.getElem?_map, hj]
    rfl
  unfold startsAt
  simp only [Function.comp_def]
  rw [List.filter_map]
  obtain ⟨s, _, s0, sl, sd, sp, se, sn, sm⟩ := least_same hl hb
  obtain ⟨h1, h2⟩ := sbfb_is hl ha hb
  rw [sn]
  have key : ∀ t, ((fun z : Start => (barOf ((rows.map hs).getD z.1 []) z.2 ((hs a ++ hs a).map some)).isNone) ∘ fun t => (j, t)) t = true ↔ Meets0 long a b t := fun t => by
    simp only [Function.comp_def]
    rw [hgd, Option.isNone_iff_eq_none]
    exact bar_none hl ha hb t
  cases hg : sbfb (hs b) (hs a) with
  | none =>
    have : (List.range s).filter ((fun z : Start => (barOf ((rows.map hs).getD z.1 []) z.2 ((hs a ++ hs a).map some)).isNone) ∘ fun t => (j, t)) = [] := List.filter_eq_nil_iff.mpr fun t ht q => h2 hg t (by have := List.mem_range.mp ht; omega) ((key t).mp q)
    rw [this]
    rfl
  | some t =>
    obtain ⟨m, lt⟩ := h1 t hg
    rw [sn] at lt
    have : (List.range s).filter ((fun z : Start => (barOf ((rows.map hs).getD z.1 []) z.2 ((hs a ++ hs a).map some)).isNone) ∘ fun t => (j, t)) = [t] := range_one _ s t lt fun u hu => by
      rw [key]
      exact ⟨fun q => meets_once hl hb sl sm hu lt q m, fun q => by rw [q]; exact m⟩
    rw [this]
    rfl
end
end HW

namespace HW
open PySem PySem.Spec PyProof.Rows L2
noncomputable section
/-- a comprehension whose element changes the state: st tells the slots (the comprehension's own ones wiped) -/
theorem comp_state {S β : Type} {vs : List Nat} {tg : Tg} {el : EF} (enc : β → P) (st : S → Sl) (I : S → Prop) (good : P → Prop)
    (h : ∀ s x, I s → ∃ ρ1 y ρ2 s', bindT tg (enc x) (st s) = some ρ1 ∧ el ρ1 = some (y, ρ2) ∧ wipeR ρ2 vs = st s' ∧ I s' ∧ good y) :
    ∀ (xs : List β) (s : S), I s → ∃ ys s', compL vs tg dYes el (xs.map enc) (st s) = some (ys, st s') ∧ I s' ∧ ys.length = xs.length ∧ ∀ y ∈ ys, good y
  | [], s, hs => ⟨[], s, rfl, hs, rfl, by simp⟩
  | x :: xs, s, hs => by
    obtain ⟨ρ1, y, ρ2, s1, e1, e2, e3, i1, g1⟩ := h s x hs
    obtain ⟨ys, s2, e4, i2, l2, g2⟩ := comp_state enc st I good h xs s1 i1
    refine ⟨y :: ys, s2, ?_, i2, by simp [l2], fun z hz => ?_⟩
    · rw [List.map_cons]
      unfold compL
      rw [e1, Option.bind_some, dYes_, Option.bind_some, if_pos rfl, e2, Option.bind_some]
      dsimp only
      rw [e3, e4]
      rfl
    · rcases List.mem_cons.mp hz with rfl | hz
      · exact g1
      · exact g2 z hz
/-- the state of the draws: a counter and the cells -/
def stD (c : Int) (cells : List Int) : D := .ol [.pd (.int c), .ol (pds (intsL cells))]
theorem goodInts {m : Int} : ∀ {ys : List P}, (∀ y ∈ ys, ∃ v : Int, y = .int v ∧ 0 ≤ v ∧ v < m) → ∃ ns : List Int, ys = intsL ns ∧ ∀ v ∈ ns, 0 ≤ v ∧ v < m
  | [], _ => ⟨[], rfl, by simp⟩
  | y :: ys, h => by
    obtain ⟨v, rfl, h1, h2⟩ := h y (by simp)
    obtain ⟨ns, e, h3⟩ := goodInts (ys := ys) fun z hz => h z (by simp [hz])
    subst e
    exact ⟨v :: ns, rfl, fun w hw => by
      rcases List.mem_cons.mp hw with rfl | hw
      · exact ⟨h1, h2⟩
      · exact h3 w hw⟩
end
end HW

namespace HW
open PySem PySem.Spec PyProof.Rows L2
noncomputable section
/-- a row of draws -/
theorem comp_draws {ρ : Sl} {d : D} {long : Nat} (h1 : ρ[1]? = some d) (g : GoodS d) (h2 : ρ[2]? = some (.pd (.int long))) (hl : long < 1000) (ho : ownOk ρ [4] = true) (h4 : 4 < ρ.length) :
    ∃ ns d', dComp (dItA rng1P (dArgs [dV 2])) [4] (.nm 4) dYes (dFr (dFnM 1 1 _law_take_s (dArgs [dC (.int 2)]))) ρ = some (intsL ns, ρ.set 1 d') ∧ GoodS d' ∧ Row01 long ns := by
  have C := comp_state (S := { x : D // GoodS x }) (vs := [4]) (tg := .nm 4) (el := dFr (dFnM 1 1 takeS (dArgs [dC (.int 2)]))) (fun i : Nat => PyData.int (i : Int)) (fun s => (wipeR ρ [4]).set 1 s.1) (fun _ => True) (fun y => ∃ v : Int, y = .int v ∧ 0 ≤ v ∧ v < 2)
    (fun s x _ => by
      have q1 : (((wipeR ρ [4]).set 1 s.1).set 4 (.pd (.int (x : Int))))[1]? = some s.1 := by
        have := h1
        have hlt : 1 < ρ.length := by omega
        simp [wipeR, hlt]
      obtain ⟨v, d', e1, g', v0, v1⟩ := drawC (ρ := ((wipeR ρ [4]).set 1 s.1).set 4 (.pd (.int (x : Int)))) (f := dArgs [dC (.int 2)]) (m := 2) (by simp) q1 s.2 (by decide) (by decide)
      refine ⟨_, .int v, _, ⟨d', g'⟩, bind_nm, e1, ?_, trivial, v, rfl, v0, v1⟩
      apply List.ext_getElem?
      intro i
      simp only [wipeR, List.getElem?_set, List.length_set]
      by_cases i4 : i = 4
      · subst i4; simp
      · by_cases i1 : i = 1
        · subst i1; simp
        · simp [Ne.symm i4, Ne.symm i1])
    (List.range long) ⟨d, g⟩ trivial
  obtain ⟨ys, s', e1, _, l1, g1⟩ := C
  obtain ⟨ns, rfl, g2⟩ := goodInts g1
  refine ⟨ns, s'.1, ?_, s'.2, ⟨by simpa using l1, fun v hv => by have := g2 v hv; omega⟩⟩
  have e0 : (wipeR ρ [4]).set 1 d = wipeR ρ [4] := by
    apply List.ext_getElem?
    intro i
    simp only [wipeR, List.getElem?_set, List.length_set]
    by_cases i1 : i = 1
    · subst i1
      obtain ⟨hlt, e⟩ := List.getElem?_eq_some_iff.mp h1
      simp [hlt, e]
    · simp [Ne.symm i1]
  dsimp only at e1
  rw [e0] at e1
  have r1 := rng1P_nat long (by omega)
  have i1 : dItA rng1P (dArgs [dV 2]) ρ = some ((List.range long).map fun i : Nat => PyData.int (i : Int), ρ) := by
    rw [dItA_, dArgs_cons, dV_, h2]
    simp [r1]
  unfold dComp
  rw [i1, Option.bind_some]
  dsimp only
  rw [if_pos ⟨by simp; omega, ho⟩, e1]
  simp only [Option.map_some, Option.some.injEq, Prod.mk.injEq, true_and]
  apply List.ext_getElem?
  intro i
  simp only [fillR, wipeR, List.getElem?_set, List.length_set]
  by_cases i4 : i = 4
  · subst i4
    simp [h4]
  · simp [Ne.symm i4]
end
end HW

namespace HW
open PySem PySem.Spec PyProof.Rows L2
noncomputable section
def encRows (rows : List (List Int)) : List P := rows.map fun r => .list (intsL r)
@[simp] theorem encRows_len (rows : List (List Int)) : (encRows rows).length = rows.length := by simp [encRows]
/-- the slots of the law while rows are drawn -/
def Lst (sc d : D) (long : Nat) (rows : List (List Int)) (x4 x5 x6 x7 x8 : D) : Sl := sc :: d :: .pd (.int long) :: .ol (pds (encRows rows)) :: x4 :: x5 :: x6 :: x7 :: x8 :: List.replicate 20 .hole
theorem at_int {v : Int} {n : Nat} (h0 : 0 ≤ v) (h1 : v < n) : ∃ k : Nat, v = k ∧ k < n := by
  obtain ⟨k, rfl⟩ := Int.eq_ofNat_of_zero_le h0
  exact ⟨k, rfl, by exact_mod_cast h1⟩
section
variable {sc d : D} {long : Nat} {rows : List (List Int)} {x4 x5 x6 x7 x8 : D}
theorem L_draw3 (g : GoodS d) {m : Int} (m1 : 1 ≤ m) (m2 : m < 1073741824) : ∃ v d', dFr (dFnM 1 1 takeS (dArgs [dC (.int m)])) (Lst sc d long rows x4 x5 x6 x7 x8) = some (.int v, Lst sc d' long rows x4 x5 x6 x7 x8) ∧ GoodS d' ∧ 0 ≤ v ∧ v < m :=
  drawC (by simp) rfl g m1 m2
theorem L_drawL (g : GoodS d) (hl : 1 ≤ long) (hl2 : long < 1000) : ∃ v d', dFr (dFnM 1 1 takeS (dArgs [dV 2])) (Lst sc d long rows x4 x5 x6 x7 x8) = some (.int v, Lst sc d' long rows x4 x5 x6 x7 x8) ∧ GoodS d' ∧ 0 ≤ v ∧ v < long :=
  drawC (by simp [Lst]) rfl g (by omega) (by omega)
theorem L_drawR (g : GoodS d) (hr : 1 ≤ rows.length) (hr2 : rows.length < 1000) : ∃ v d', dFr (dFnM 1 1 takeS (dArgs [(dPk 3 (dCall lenP (dArgs [(dV 3)])))])) (Lst sc d long rows x4 x5 x6 x7 x8) = some (.int v, Lst sc d' long rows x4 x5 x6 x7 x8) ∧ GoodS d' ∧ 0 ≤ v ∧ v < rows.length :=
  drawC (by simp [Lst]) rfl g (by omega) (by omega)
theorem L_comp (g : GoodS d) (hl : long < 1000) (h4 : isPd x4 = true) : ∃ ns d', dComp (dItA rng1P (dArgs [dV 2])) [4] (.nm 4) dYes (dFr (dFnM 1 1 _law_take_s (dArgs [dC (.int 2)]))) (Lst sc d long rows x4 x5 x6 x7 x8) = some (intsL ns, Lst sc d' long rows x4 x5 x6 x7 x8) ∧ GoodS d' ∧ Row01 long ns :=
  comp_draws rfl g rfl hl (by simpa [ownOk, Lst] using h4) (by simp [Lst])
/-- a row turned -/
theorem L_turn {row : List Int} {steps : Nat} (hl : 0 < long) (hl2 : long < 1000) (hrow : Row01 long row) : dComp (dItA rng1P (dArgs [(dV 2)])) [21] (.nm 21) dYes (dBin idxP (dV 6) (dBin modP (dBin subP (dV 21) (dV 7)) (dV 2))) (Lst sc d long rows x4 x5 (.pd (.list (intsL row))) (.pd (.int steps)) x8) = some (intsL (shiftRow row long steps), Lst sc d long rows x4 x5 (.pd (.list (intsL row))) (.pd (.int steps)) x8) := by
  have C := dComp_map (it := dItA rng1P (dArgs [(dV 2)])) (vs := [21]) (tg := .nm 21) (el := dBin idxP (dV 6) (dBin modP (dBin subP (dV 21) (dV 7)) (dV 2))) (fun i : Nat => .int (i : Int)) (fun (k : Nat) => .int (row.getD (((k : Int) - steps) % long).toNat 0)) (List.range long)
    (Lst sc d long rows x4 x5 (.pd (.list (intsL row))) (.pd (.int steps)) x8) (Lst sc d long rows x4 x5 (.pd (.list (intsL row))) (.pd (.int steps)) x8) (by simp [Lst, rng1P_nat long (by omega)]) (by simp; omega) rfl rfl fun k hk => by
      have m := modP_pos (i := ((k : Int) - steps)) (j := (long : Int)) (by omega)
      have hz := getD_mod hl k steps
      have h0 := Int.emod_nonneg ((k : Int) - steps) (by omega : (long : Int) ≠ 0)
      obtain ⟨z, hz1⟩ := Int.eq_ofNat_of_zero_le h0
      rw [hz1] at m hz ⊢
      have hz2 : z < row.length := by rw [hrow.len]; simpa using hz
      have a : atI (intsL row) (z : Int) = some (.int (row.getD z 0)) := atI_natP (by simp [intsL, List.getD, hz2])
      refine ⟨_, bind_nm, ?_⟩
      simp [Lst, wipeR, m, a]
  rw [C]
  simp [shiftRow, intsL]
/-- a row with one spot changed -/
def flip (row : List Int) (s : Nat) : List Int := row.take s ++ [1 - row.getD s 0] ++ row.drop (s + 1)
theorem flip_row {row : List Int} {s : Nat} (h : Row01 long row) (hs : s < long) : Row01 long (flip row s) := by
  refine ⟨by simp [flip, h.len]; omega, fun v hv => ?_⟩
  simp only [flip, List.mem_append, List.mem_singleton] at hv
  rcases hv with (hv | rfl) | hv
  · exact h.bit v (List.mem_of_mem_take hv)
  · rcases bit_getD h s with e | e <;> rw [e] <;> simp
  · exact h.bit v (List.mem_of_mem_drop hv)
theorem ints_app (a b : List Int) : intsL a ++ intsL b = intsL (a ++ b) := by simp [intsL]
theorem L_flip {row : List Int} {s : Nat} (hl2 : long < 1000) (hrow : Row01 long row) (hs : s < long) :
    dSet 6 (dPd (dBin addP (dBin addP (dSlA (dV 6) dNo (dSo (dV 8))) (dLst (dArgs [(dBin subP (dC (.int 1)) (dBin idxP (dV 6) (dV 8)))]))) (dSlA (dV 6) (dSo (dBin addP (dV 8) (dC (.int 1)))) dNo))) (Lst sc d long rows x4 x5 (.pd (.list (intsL row))) x7 (.pd (.int s))) = some (.nx, Lst sc d long rows x4 x5 (.pd (.list (intsL (flip row s)))) x7 (.pd (.int s))) := by
  have hz2 : s < row.length := by rw [hrow.len]; exact hs
  have a : atI (intsL row) (s : Int) = some (.int (row.getD s 0)) := atI_natP (by simp [intsL, List.getD, hz2])
  unfold flip
  generalize row.getD s 0 = x at a ⊢
  have e1 : (intsL row).take s = intsL (row.take s) := by simp [intsL]
  have e2 : (intsL row).drop (s + 1) = intsL (row.drop (s + 1)) := by simp [intsL]
  have s2 := slA_from (intsL row) (s + 1)
  rw [e2] at s2
  have s1 := slA_to (intsL row) s
  rw [e1] at s1
  have l1 : (row.take s).length ≤ 1000 := Nat.le_trans (List.length_take_le _ _) (by omega)
  have l2 : (row.drop (s + 1)).length ≤ 1000 := by rw [List.length_drop, hrow.len]; omega
  have p1 := addP_list (xs := intsL (row.take s)) (ys := intsL [1 - x]) (by simp only [intsL_len, List.length_singleton]; omega)
  rw [ints_app] at p1
  have p2 := addP_list (xs := intsL (row.take s ++ [1 - x])) (ys := intsL (row.drop (s + 1))) (by simp only [intsL_len, List.length_append, List.length_singleton]; omega)
  rw [ints_app] at p2
  have e3 : ((s : Int) + 1) = ((s + 1 : Nat) : Int) := by simp
  have e4 : [PyData.int (1 - x)] = intsL [1 - x] := rfl
  rw [← e3] at s2
  rw [← e4] at p1
  simp [Lst, a, s1, s2, p1]
  rw [p2]
  simp
end
end
end HW

namespace HW
open PySem PySem.Spec PyProof.Rows L2
noncomputable section
section
variable {sc d : D} {long : Nat} {rows : List (List Int)} {x4 x5 x6 x7 x8 : D}
/-- kind and row are drawn -/
theorem b1_head (g : GoodS d) (hr : 1 ≤ rows.length) (hr2 : rows.length < 1000) : ∃ d' v row, dTgt (.tcons (.nm 5) (.tcons (.nm 6) .tnil)) (dTup [(dFr (dFnM 1 1 _law_take_s (dArgs [(dC (.int 3))]))), (dGetA 3 (dFr (dFnM 1 1 _law_take_s (dArgs [(dPk 3 (dCall lenP (dArgs [(dV 3)])))]))))]) (Lst sc d long rows x4 x5 x6 x7 x8) =
    some (.nx, Lst sc d' long rows x4 (.pd (.int v)) (.pd (.list (intsL row))) x7 x8) ∧ GoodS d' ∧ 0 ≤ v ∧ v < 3 ∧ row ∈ rows := by
  obtain ⟨v, d1, e1, g1, v0, v1⟩ := L_draw3 (sc := sc) (long := long) (rows := rows) (x4 := x4) (x5 := x5) (x6 := x6) (x7 := x7) (x8 := x8) g (m := 3) (by decide) (by decide)
  obtain ⟨w, d2, e2, g2, w0, w1⟩ := L_drawR (sc := sc) (long := long) (rows := rows) (x4 := x4) (x5 := x5) (x6 := x6) (x7 := x7) (x8 := x8) g1 hr hr2
  obtain ⟨k, rfl, hk⟩ := at_int w0 w1
  refine ⟨d2, v, rows[k], ?_, g2, v0, v1, List.getElem_mem hk⟩
  have a : atI (pds (encRows rows)) (k : Int) = some (.pd (.list (intsL rows[k]))) := atI_natP (by simp [pds, encRows, hk])
  have G : dGetA 3 (dFr (dFnM 1 1 takeS (dArgs [(dPk 3 (dCall lenP (dArgs [(dV 3)])))]))) (Lst sc d1 long rows x4 x5 x6 x7 x8) = some (.list (intsL rows[k]), Lst sc d2 long rows x4 x5 x6 x7 x8) := by
    show dGetO 3 _ _ = _
    rw [dGetO_, e2, Option.bind_some]
    show (match atI (pds (encRows rows)) (k : Int) with | some (.pd p) => _ | _ => none) = _
    rw [a]
    rfl
  rw [dTgt_, dTup_, dArgs_cons, e1, Option.bind_some]
  dsimp only
  rw [dArgs_cons, G]
  rfl
theorem b1_kind {v : Int} (h0 : 0 ≤ v) (h3 : v < 3) : v = 0 ∨ v = 1 ∨ v = 2 := by omega
theorem b1_tail {row : List Int} (h : rows.length < 1000) : dApp 3 (dPd (dV 6)) (Lst sc d long rows x4 x5 (.pd (.list (intsL row))) x7 x8) = some (.nx, Lst sc d long (rows ++ [row]) x4 x5 (.pd (.list (intsL row))) x7 x8) := by
  have e : pds (encRows (rows ++ [row])) = pds (encRows rows) ++ [.pd (.list (intsL row))] := by simp [encRows, pds_app]
  have hl : rows.length < 16777216 := by omega
  unfold Lst
  rw [e]
  simp [hl]
theorem law_b1_sem (g : GoodS d) (hl : 1 ≤ long) (hl2 : long < 1000) (hr : 1 ≤ rows.length) (hr2 : rows.length < 1000) (hb : ∀ r ∈ rows, Row01 long r) (h4 : isPd x4 = true) :
    ∃ d' row x5' x6' x7' x8', law_b1 (Lst sc d long rows x4 x5 x6 x7 x8) = some (.nx, Lst sc d' long (rows ++ [row]) x4 x5' x6' x7' x8') ∧ GoodS d' ∧ Row01 long row ∧ isPd x6' = true := by
  obtain ⟨d1, v, row, e1, g1, v0, v1, hm⟩ := b1_head (sc := sc) (long := long) (x4 := x4) (x5 := x5) (x6 := x6) (x7 := x7) (x8 := x8) g hr hr2
  have hrow := hb row hm
  unfold law_b1
  rw [seq_nx e1]
  have T : ∀ k : Int, dCmp eqP (dV 5) (dC (.int k)) (Lst sc d1 long rows x4 (.pd (.int v)) (.pd (.list (intsL row))) x7 x8) = some (decide (v = k), Lst sc d1 long rows x4 (.pd (.int v)) (.pd (.list (intsL row))) x7 x8) := fun k => by simp [Lst]
  rcases b1_kind v0 v1 with hv | hv | hv
  · obtain ⟨ns, d2, e2, g2, r2⟩ := L_comp (sc := sc) (long := long) (rows := rows) (x4 := x4) (x5 := .pd (.int v)) (x6 := .pd (.list (intsL row))) (x7 := x7) (x8 := x8) g1 hl2 h4
    refine ⟨d2, ns, .pd (.int v), .pd (.list (intsL ns)), x7, x8, ?_, g2, r2, rfl⟩
    rw [seq_nx (ρ1 := Lst sc d2 long rows x4 (.pd (.int v)) (.pd (.list (intsL ns))) x7 x8)]
    · exact b1_tail hr2
    · rw [dIfS_, T, Option.bind_some]
      subst hv
      dsimp only
      rw [if_pos (by decide), dSet_, dPd_, dLst_, e2]
      rfl
  · obtain ⟨s, d2, e2, g2, s0, s1⟩ := L_drawL (sc := sc) (long := long) (rows := rows) (x4 := x4) (x5 := .pd (.int v)) (x6 := .pd (.list (intsL row))) (x7 := x7) (x8 := x8) g1 hl hl2
    obtain ⟨k, rfl, hk⟩ := at_int s0 s1
    refine ⟨d2, shiftRow row long k, .pd (.int v), .pd (.list (intsL (shiftRow row long k))), .pd (.int k), x8, ?_, g2, shiftRow_row (by omega) hrow, rfl⟩
    rw [seq_nx (ρ1 := Lst sc d2 long rows x4 (.pd (.int v)) (.pd (.list (intsL (shiftRow row long k)))) (.pd (.int k)) x8)]
    · exact b1_tail hr2
    · rw [dIfS_, T, Option.bind_some]
      subst hv
      dsimp only
      rw [if_neg (by decide), dIfS_, T, Option.bind_some]
      dsimp only
      rw [if_pos (by decide), seq_nx (ρ1 := Lst sc d2 long rows x4 (.pd (.int 1)) (.pd (.list (intsL row))) (.pd (.int k)) x8)]
      · rw [dSet_, dPd_, dLst_, L_turn (by omega) hl2 hrow]
        rfl
      · rw [dSet_, dPd_, e2]
        rfl
  · obtain ⟨s, d2, e2, g2, s0, s1⟩ := L_drawL (sc := sc) (long := long) (rows := rows) (x4 := x4) (x5 := .pd (.int v)) (x6 := .pd (.list (intsL row))) (x7 := x7) (x8 := x8) g1 hl hl2
    obtain ⟨k, rfl, hk⟩ := at_int s0 s1
    refine ⟨d2, flip row k, .pd (.int v), .pd (.list (intsL (flip row k))), x7, .pd (.int k), ?_, g2, flip_row hrow hk, rfl⟩
    rw [seq_nx (ρ1 := Lst sc d2 long rows x4 (.pd (.int v)) (.pd (.list (intsL (flip row k)))) x7 (.pd (.int k)))]
    · exact b1_tail hr2
    · rw [dIfS_, T, Option.bind_some]
      subst hv
      dsimp only
      rw [if_neg (by decide), dIfS_, T, Option.bind_some]
      dsimp only
      rw [if_neg (by decide), seq_nx (ρ1 := Lst sc d2 long rows x4 (.pd (.int 2)) (.pd (.list (intsL row))) x7 (.pd (.int k)))]
      · exact L_flip hl2 hrow hk
      · rw [dSet_, dPd_, e2]
        rfl
/-- all of the rows -/
theorem law_rows : ∀ (n : Nat) (k0 : List Nat), k0.length = n → ∀ {d : D} {rows : List (List Int)} {x4 x5 x6 x7 x8 : D}, GoodS d → 1 ≤ long → long < 1000 → 1 ≤ rows.length → rows.length + n < 1000 → (∀ r ∈ rows, Row01 long r) →
    ∃ d' rows' y4 y5 y6 y7 y8, forL (.nm 4) law_b1 (k0.map fun i : Nat => .int (i : Int)) (Lst sc d long rows x4 x5 x6 x7 x8) = some (.nx, Lst sc d' long rows' y4 y5 y6 y7 y8) ∧ rows'.length = rows.length + n ∧ (∀ r ∈ rows', Row01 long r) ∧ (isPd x4 = true → isPd x6 = true → isPd y4 = true ∧ isPd y6 = true)
  | _, [], rfl, d, rows, x4, x5, x6, x7, x8, g, _, _, _, _, hb => ⟨d, rows, x4, x5, x6, x7, x8, rfl, rfl, hb, fun h h2 => ⟨h, h2⟩⟩
  | _, k :: ks, rfl, d, rows, x4, x5, x6, x7, x8, g, hl, hl2, hr, hr2, hb => by
    rw [List.length_cons] at hr2 ⊢
    obtain ⟨d1, row, z5, z6, z7, z8, e1, g1, r1, p6⟩ := law_b1_sem (sc := sc) (x4 := .pd (.int k)) (x5 := x5) (x6 := x6) (x7 := x7) (x8 := x8) g hl hl2 hr (by omega) hb rfl
    obtain ⟨d', rows', y4, y5, y6, y7, y8, e2, h1, h2, h3⟩ := law_rows ks.length ks rfl (rows := rows ++ [row]) (x4 := .pd (.int k)) (x5 := z5) (x6 := z6) (x7 := z7) (x8 := z8) g1 hl hl2 (by simp) (by simp; omega) (fun r hr => by
      rcases List.mem_append.mp hr with h | h
      · exact hb r h
      · rw [List.mem_singleton.mp h]; exact r1)
    refine ⟨d', rows', y4, y5, y6, y7, y8, ?_, by rw [h1]; simp; omega, h2, fun _ _ => h3 rfl p6⟩
    rw [List.map_cons]
    unfold forL
    rw [bind_nm, Option.bind_some]
    show (law_b1 (Lst sc d long rows (.pd (.int k)) x5 x6 x7 x8)).bind _ = _
    rw [e1, Option.bind_some]
    exact e2
end
end
end HW

namespace HW
open PySem PySem.Spec PyProof.Rows L2
noncomputable section
/-! ### what is like itself -/
mutual
def plainP : P → Bool
  | .list xs => plainAll xs
  | .tuple xs => plainAll xs
  | .dict _ => false
  | _ => true
def plainAll : List P → Bool
  | [] => true
  | x :: xs => plainP x && plainAll xs
end
mutual
theorem eqv_refl : ∀ p : P, plainP p = true → PyData.eqv p p = true
  | .none, _ => by simp [PyData.eqv]
  | .bool b, _ => by simp [PyData.eqv]
  | .int i, _ => by simp [PyData.eqv]
  | .str s, _ => by simp [PyData.eqv]
  | .list xs, h => by simp only [PyData.eqv]; exact eqvAll_refl xs (by simpa [plainP] using h)
  | .tuple xs, h => by simp only [PyData.eqv]; exact eqvAll_refl xs (by simpa [plainP] using h)
  | .dict _, h => by simp [plainP] at h
theorem eqvAll_refl : ∀ xs : List P, plainAll xs = true → PyData.eqvAll xs xs = true
  | [], _ => by simp [PyData.eqvAll]
  | x :: xs, h => by
    simp only [plainAll, Bool.and_eq_true] at h
    simp only [PyData.eqvAll, Bool.and_eq_true]
    exact ⟨eqv_refl x h.1, eqvAll_refl xs h.2⟩
end
theorem plain_map {α : Type} (f : α → P) (h : ∀ x, plainP (f x) = true) : ∀ xs : List α, plainAll (xs.map f) = true
  | [] => rfl
  | x :: xs => by simp [plainAll, h x, plain_map f h xs]
theorem neP_refl {p : P} (h : plainP p = true) (hd : p.depth ≤ 100) : neP p p = some false := by
  unfold neP eqP
  rw [shal_of hd]
  simp [eqv_refl p h]
theorem depth_map {α : Type} (f : α → P) (n : Nat) (h : ∀ x, (f x).depth ≤ n) (xs : List α) : (PyData.list (xs.map f)).depth ≤ n + 1 := by
  have : PyData.depthAll (xs.map f) ≤ n := depthAll_le fun x hx => by
    obtain ⟨y, _, rfl⟩ := List.mem_map.mp hx
    exact h y
  simp only [PyData.depth]
  omega
theorem depth_ints (xs : List Int) : (PyData.list (intsL xs)).depth ≤ 1 := depth_map _ 0 (fun x => by simp) xs
theorem plain_ints (xs : List Int) : plainP (.list (intsL xs)) = true := by
  simp only [plainP]
  exact plain_map _ (fun _ => rfl) xs
theorem eqv_ints : ∀ a b : List Int, PyData.eqvAll (intsL a) (intsL b) = decide (a = b)
  | [], [] => by simp [intsL, PyData.eqvAll]
  | [], _ :: _ => by simp [intsL, PyData.eqvAll]
  | _ :: _, [] => by simp [intsL, PyData.eqvAll]
  | x :: a, y :: b => by
    show PyData.eqvAll (.int x :: intsL a) (.int y :: intsL b) = _
    simp only [PyData.eqvAll, eqv_ints a b, PyData.eqv, List.cons.injEq]
    by_cases h : x = y <;> by_cases h2 : a = b <;> simp [h, h2]
theorem eqP_ints (a b : List Int) : eqP (.list (intsL a)) (.list (intsL b)) = some (decide (a = b)) := by
  unfold eqP
  rw [shal_of (by have := depth_ints a; omega)]
  simp only [PyData.eqv, eqv_ints, if_true]
/-! ### sums, the least -/
theorem intsP_ints : ∀ xs : List Int, intsP (intsL xs) = some xs
  | [] => rfl
  | x :: xs => by
    show (intsP (intsL xs)).map (x :: ·) = _
    rw [intsP_ints xs]
    rfl
theorem sumP_ints (xs : List Int) : sumP [.list (intsL xs)] = some (.int xs.sum) := by
  show (intsP (intsL xs)).map _ = _
  rw [intsP_ints]
  rfl
theorem minD_ints : ∀ (xs : List Int) (x : Int), ∃ m, PySem.W.minD (.int x) (intsL xs) = .int m ∧ m ∈ x :: xs ∧ ∀ y ∈ x :: xs, m ≤ y
  | [], x => ⟨x, rfl, by simp, by simp⟩
  | y :: ys, x => by
    have e : (if PySem.W.dataLt (.int y) (.int x) = true then PyData.int y else .int x) = .int (if y < x then y else x) := by
      rw [PySem.W.dataLt_int]
      by_cases h : y < x <;> simp [h]
    obtain ⟨m, h1, h2, h3⟩ := minD_ints ys (if y < x then y else x)
    refine ⟨m, ?_, ?_, fun z hz => ?_⟩
    · unfold PySem.W.minD at h1 ⊢
      show List.foldl _ (PyData.int x) (PyData.int y :: intsL ys) = _
      rw [List.foldl_cons, e]
      exact h1
    · rcases List.mem_cons.mp h2 with rfl | h
      · split <;> simp
      · simp [h]
    · have h4 : m ≤ (if y < x then y else x) := h3 _ (by simp)
      have h5 : (if y < x then y else x) ≤ x ∧ (if y < x then y else x) ≤ y := by split <;> constructor <;> omega
      rcases List.mem_cons.mp hz with rfl | hz
      · omega
      · rcases List.mem_cons.mp hz with rfl | hz
        · omega
        · exact h3 z (by simp [hz])
theorem ordOk_ints (xs : List Int) : ordOk (intsL xs) = true := by
  unfold ordOk alikeB
  have hd : PyData.depthAll (intsL xs) ≤ 0 := depthAll_le fun x hx => by
    obtain ⟨y, _, rfl⟩ := List.mem_map.mp hx
    simp
  rw [Bool.and_eq_true]
  refine ⟨List.all_eq_true.mpr fun x hx => ?_, Nat.ble_eq_true_of_le (by omega)⟩
  obtain ⟨y, _, rfl⟩ := List.mem_map.mp hx
  rw [Bool.and_eq_true]
  refine ⟨rfl, List.all_eq_true.mpr fun z hz => ?_⟩
  obtain ⟨w, _, rfl⟩ := List.mem_map.mp hz
  rfl
theorem minP_ints (x : Int) (xs : List Int) : ∃ m, minP [.list (intsL (x :: xs))] = some (.int m) ∧ m ∈ x :: xs ∧ ∀ y ∈ x :: xs, m ≤ y := by
  obtain ⟨m, h1, h2, h3⟩ := minD_ints xs x
  refine ⟨m, ?_, h2, h3⟩
  show (if ordOk (intsL (x :: xs)) = true then some (PySem.W.minD (.int x) (intsL xs)) else none) = _
  rw [if_pos (ordOk_ints _), h1]
end
end HW

namespace HW
open PySem PySem.Spec PyProof.Rows L2
noncomputable section
def Lr (sc d : D) (long : Nat) (rows : List (List Int)) (x4 x5 x6 x7 x8 x9 x10 x11 x12 x13 x14 x15 x16 x17 x18 x19 x20 x21 x22 x23 : D) : Sl := [sc, d, .pd (.int long), .pd (.list (encRows rows)), x4, x5, x6, x7, x8, x9, x10, x11, x12, x13, x14, x15, x16, x17, x18, x19, x20, x21, x22, x23, .hole, .hole, .hole, .hole, .hole]
section
variable {sc d : D} {long : Nat} {rows : List (List Int)} {x4 x5 x6 x7 x8 x9 x10 x11 x12 x13 x14 x15 x16 x17 x18 x19 x20 x21 x22 x23 : D}
theorem run_small {r : List Int} (h : Row01 long r) (hl2 : long ≤ 10) : (runsOf r).length < 16 := by have := runsOf_len h; omega
theorem bk_map (rows : List (List Int)) : encBk (rows.map runsOf) = rows.map fun r => .list (encRs (runsOf r)) := by simp [encBk, List.map_map, Function.comp_def]
theorem frz_rows : frzAt (Lst sc d long rows x4 x5 x6 x7 x8) 3 = some (Lr sc d long rows x4 x5 x6 x7 x8 .hole .hole .hole .hole .hole .hole .hole .hole .hole .hole .hole .hole .hole .hole .hole) := by
  rw [frzAt_]
  show (frz (.ol (pds (encRows rows)))).map _ = _
  rw [frz_olD, frzs_pds]
  rfl
theorem stA (hl2 : long ≤ 10) (hb : ∀ r ∈ rows, Row01 long r) (hn : rows.length < 100) (h6 : isPd x6 = true) :
    dFz 3 (dSet 9 (dPd (dLst (dComp (dIt (dV 3)) [6] (.nm 6) dYes (dCallN 1 runs_of_s (dArgs [(dV 6)])))))) (Lst sc d long rows x4 x5 x6 x7 x8) = some (.nx, Lr sc d long rows x4 x5 x6 x7 x8 (.pd (.list (encBk (rows.map runsOf)))) .hole .hole .hole .hole .hole .hole .hole .hole .hole .hole .hole .hole .hole .hole) := by
  rw [dFz_, frz_rows, Option.bind_some]
  have C := dComp_map (it := dIt (dV 3)) (vs := [6]) (tg := .nm 6) (el := dCallN 1 runs_of_s (dArgs [(dV 6)])) (fun r => .list (intsL r)) (fun r => .list (encRs (runsOf r))) rows (Lr sc d long rows x4 x5 x6 x7 x8 .hole .hole .hole .hole .hole .hole .hole .hole .hole .hole .hole .hole .hole .hole .hole) (Lr sc d long rows x4 x5 x6 x7 x8 .hole .hole .hole .hole .hole .hole .hole .hole .hole .hole .hole .hole .hole .hole .hole) rfl (by omega) (by simpa [ownOk, Lr] using h6) rfl
    fun r hr => ⟨_, bind_nm, by simp [Lr, wipeR, runs_of_sem r (by rw [(hb r hr).len]; omega)]⟩
  rw [dSet_, dPd_, dLst_, C, ← bk_map]
  rfl
theorem depth_rows (rows : List (List Int)) : (PyData.list (encRows rows)).depth ≤ 2 := depth_map _ 1 (fun r => depth_ints r) rows
theorem plain_rows (rows : List (List Int)) : plainP (.list (encRows rows)) = true := by
  simp only [plainP]
  exact plain_map _ (fun r => plain_ints r) rows
theorem stB (hl2 : long ≤ 10) (hb : ∀ r ∈ rows, Row01 long r) (hn : rows.length < 100) :
    dIfS (dPkT 3 (dCmp neP (dLst (dComp (dIt (dV 9)) [24] (.nm 24) dYes (dCallN 2 ticks_of_s (dArgs [(dV 24), (dV 2)])))) (dV 3))) (dRet (dPd (dC (.bool false)))) dNx (Lr sc d long rows x4 x5 x6 x7 x8 (.pd (.list (encBk (rows.map runsOf)))) x10 x11 x12 x13 x14 x15 x16 x17 x18 x19 x20 x21 x22 x23) = some (.nx, (Lr sc d long rows x4 x5 x6 x7 x8 (.pd (.list (encBk (rows.map runsOf)))) x10 x11 x12 x13 x14 x15 x16 x17 x18 x19 x20 x21 x22 x23)) := by
  have C := dComp_map (it := dIt (dV 9)) (vs := [24]) (tg := .nm 24) (el := dCallN 2 ticks_of_s (dArgs [(dV 24), (dV 2)])) (fun r => .list (encRs (runsOf r))) (fun r => .list (intsL r)) rows (Lr sc d long rows x4 x5 x6 x7 x8 (.pd (.list (encBk (rows.map runsOf)))) x10 x11 x12 x13 x14 x15 x16 x17 x18 x19 x20 x21 x22 x23) (Lr sc d long rows x4 x5 x6 x7 x8 (.pd (.list (encBk (rows.map runsOf)))) x10 x11 x12 x13 x14 x15 x16 x17 x18 x19 x20 x21 x22 x23) (by rw [bk_map]; rfl) (by omega) rfl rfl
    fun r hr => ⟨_, bind_nm, by
      have t := ticks_of_sem (runsOf r) long (by omega) (by have := run_small (hb r hr) hl2; omega)
      have e : ticksOf (runsOf r) long = r := by
        have := ticks_runs r (hb r hr).bit
        rwa [(hb r hr).len] at this
      rw [e] at t
      simp [Lr, wipeR, t]⟩
  have e : rows.map (fun r => PyData.list (intsL r)) = encRows rows := rfl
  rw [e] at C
  have n := neP_refl (plain_rows rows) (by have := depth_rows rows; omega)
  have fz : frzAt (Lr sc d long rows x4 x5 x6 x7 x8 (.pd (.list (encBk (rows.map runsOf)))) x10 x11 x12 x13 x14 x15 x16 x17 x18 x19 x20 x21 x22 x23) 3 = some (Lr sc d long rows x4 x5 x6 x7 x8 (.pd (.list (encBk (rows.map runsOf)))) x10 x11 x12 x13 x14 x15 x16 x17 x18 x19 x20 x21 x22 x23) := rfl
  rw [dIfS_, dPkT_, fz, Option.bind_some, dCmp_, dLst_, C]
  show (((neP (.list (encRows rows)) (.list (encRows rows))).map _).map _).bind _ = _
  rw [n]
  rfl
theorem book_small (hl2 : long ≤ 10) (hb : ∀ r ∈ rows, Row01 long r) : ∀ r ∈ rows.map runsOf, r.length < 16 := fun r hr => by
  obtain ⟨y, hy, rfl⟩ := List.mem_map.mp hr
  exact run_small (hb y hy) hl2
def waysOf (long : Nat) (rows : List (List Int)) : List Way := (codedR (rows.map runsOf) long).1
def costOfAll (long : Nat) (rows : List (List Int)) : Int := (codedR (rows.map runsOf) long).2.1
theorem stC (hl : 0 < long) (hl2 : long ≤ 10) (hb : ∀ r ∈ rows, Row01 long r) (hn : rows.length < 100) :
    dTgt (.tcons (.nm 10) (.tcons (.nm 11) .tnil)) (dCallN 2 coded_s (dArgs [(dV 9), (dV 2)])) (Lr sc d long rows x4 x5 x6 x7 x8 (.pd (.list (encBk (rows.map runsOf)))) x10 x11 x12 x13 x14 x15 x16 x17 x18 x19 x20 x21 x22 x23) = some (.nx, (Lr sc d long rows x4 x5 x6 x7 x8 (.pd (.list (encBk (rows.map runsOf)))) (.pd (.list ((waysOf long rows).map encWay))) (.pd (.int (costOfAll long rows))) x12 x13 x14 x15 x16 x17 x18 x19 x20 x21 x22 x23)) := by
  have c := coded_sem (rows.map runsOf) long hl (by omega) (book_small hl2 hb) (by simp; omega)
  have e : dCallN 2 coded_s (dArgs [(dV 9), (dV 2)]) (Lr sc d long rows x4 x5 x6 x7 x8 (.pd (.list (encBk (rows.map runsOf)))) x10 x11 x12 x13 x14 x15 x16 x17 x18 x19 x20 x21 x22 x23) = (coded_s [.list (encBk (rows.map runsOf)), .int long]).map fun x => (x, (Lr sc d long rows x4 x5 x6 x7 x8 (.pd (.list (encBk (rows.map runsOf)))) x10 x11 x12 x13 x14 x15 x16 x17 x18 x19 x20 x21 x22 x23)) := rfl
  rw [dTgt_, e, c]
  rfl
end
end
end HW

namespace HW
open PySem PySem.Spec PyProof.Rows L2
noncomputable section
section
variable {sc d : D} {long : Nat} {rows : List (List Int)} {x4 x5 x6 x7 x8 x9 x10 x11 x12 x13 x14 x15 x16 x17 x18 x19 x20 x21 x22 x23 : D}
theorem gtP0 (k : Nat) : gtP (.int (k : Int)) (.int 0) = some (decide (0 < k)) := by
  rw [gtP_int]
  simp
theorem book_at {k : Nat} (hk : k < rows.length) : atI (encBk (rows.map runsOf)) (k : Int) = some (.list (encRs (runsOf rows[k]))) := atI_natP (by simp [encBk, hk])
theorem b2_before {k : Nat} (hk : k < rows.length) {bf : Option (List Int)} (hbf : bf = if k = 0 then none else rows[k - 1]?) :
    dSet 13 (dPd (dIf (dCmp gtP (dV 4) (dC (.int 0))) (dBin idxP (dV 9) (dBin subP (dV 4) (dC (.int 1)))) (dC .none))) (Lr sc d long rows (.pd (.int (k : Int))) x5 x6 x7 x8 (.pd (.list (encBk (rows.map runsOf)))) x10 x11 x12 x13 x14 x15 x16 x17 x18 x19 x20 x21 x22 x23) = some (.nx, (Lr sc d long rows (.pd (.int (k : Int))) x5 x6 x7 x8 (.pd (.list (encBk (rows.map runsOf)))) x10 x11 x12 (.pd (encB (bf.map runsOf))) x14 x15 x16 x17 x18 x19 x20 x21 x22 x23)) := by
  have e : dCmp gtP (dV 4) (dC (.int 0)) (Lr sc d long rows (.pd (.int (k : Int))) x5 x6 x7 x8 (.pd (.list (encBk (rows.map runsOf)))) x10 x11 x12 x13 x14 x15 x16 x17 x18 x19 x20 x21 x22 x23) = some (decide (0 < k), (Lr sc d long rows (.pd (.int (k : Int))) x5 x6 x7 x8 (.pd (.list (encBk (rows.map runsOf)))) x10 x11 x12 x13 x14 x15 x16 x17 x18 x19 x20 x21 x22 x23)) := by
    show (gtP (.int (k : Int)) (.int 0)).map (fun z => (z, (Lr sc d long rows (.pd (.int (k : Int))) x5 x6 x7 x8 (.pd (.list (encBk (rows.map runsOf)))) x10 x11 x12 x13 x14 x15 x16 x17 x18 x19 x20 x21 x22 x23))) = _
    rw [gtP0]
    rfl
  rw [dSet_, dPd_, dIf_, e, Option.bind_some]
  dsimp only
  cases k with
  | zero =>
    subst hbf
    rfl
  | succ j =>
    have hj : j < rows.length := by omega
    have e : bf = some rows[j] := by
      rw [hbf, if_neg (by omega)]
      simp [hj]
    subst e
    have a := book_at hj
    have e2 : ((j + 1 : Nat) : Int) - 1 = (j : Int) := by omega
    rw [if_pos (by simp)]
    have e3 : dBin idxP (dV 9) (dBin subP (dV 4) (dC (.int 1))) (Lr sc d long rows (.pd (.int ((j + 1 : Nat) : Int))) x5 x6 x7 x8 (.pd (.list (encBk (rows.map runsOf)))) x10 x11 x12 x13 x14 x15 x16 x17 x18 x19 x20 x21 x22 x23) = (atI (encBk (rows.map runsOf)) (((j + 1 : Nat) : Int) - 1)).map fun z => (z, (Lr sc d long rows (.pd (.int ((j + 1 : Nat) : Int))) x5 x6 x7 x8 (.pd (.list (encBk (rows.map runsOf)))) x10 x11 x12 x13 x14 x15 x16 x17 x18 x19 x20 x21 x22 x23)) := rfl
    rw [e3, e2, a]
    rfl
theorem b2_cost {ws : List Way} {k : Nat} {r : List Int} {bf : Option (List Int)} {y25 : D} {h1 h2 h3 h4 h5 : D} (hl : 0 < long) (hl2 : long ≤ 10) (hk : rows[k]? = some r) (hb : ∀ r ∈ rows, Row01 long r) (hbf : ∀ b, bf = some b → b ∈ rows) (w : Way) {f : EF} {ρ : Sl}
    (e4 : ρ[4]? = some (.pd (.int (k : Int)))) (e9 : ρ[9]? = some (.pd (.list (encBk (rows.map runsOf))))) (e13 : ρ[13]? = some (.pd (encB (bf.map runsOf)))) (e2 : ρ[2]? = some (.pd (.int (long : Int)))) (hf : f ρ = some (encWay w, ρ)) :
    dCallN 4 cost_of_s (dArgs [f, (dBin idxP (dV 9) (dV 4)), (dV 13), (dV 2)]) ρ = some (encO (costOf w (runsOf r) (bf.map runsOf) long), ρ) := by
  have hm : r ∈ rows := List.mem_of_getElem? hk
  have c := cost_of_sem w (runsOf r) (bf.map runsOf) long hl (by omega) (run_small (hb r hm) hl2) (fun b h => by
    obtain ⟨y, hy, rfl⟩ := Option.map_eq_some_iff.mp h
    exact run_small (hb y (hbf y hy)) hl2)
  have a : atI (encBk (rows.map runsOf)) (k : Int) = some (.list (encRs (runsOf r))) := atI_natP (by simp [encBk, hk])
  rw [dCallN_, dArgs_cons, hf]
  simp [e4, e9, e13, e2, a, c]
theorem b2_prices {ws : List Way} {k : Nat} {r : List Int} {bf : Option (List Int)} (hl : 0 < long) (hl2 : long ≤ 10) (hk : rows[k]? = some r) (hb : ∀ r ∈ rows, Row01 long r) (hbf : ∀ b, bf = some b → b ∈ rows) :
    dSet 14 (dPd (dLst (dComp (dIt (dLst (dArgs [(dC (.str "ticks")), (dC (.str "runs")), (dC (.str "change")), (dC (.str "turn"))]))) [25] (.nm 25) dYes (dCallN 4 cost_of_s (dArgs [(dV 25), (dBin idxP (dV 9) (dV 4)), (dV 13), (dV 2)]))))) (Lr sc d long rows (.pd (.int (k : Int))) x5 x6 x7 x8 (.pd (.list (encBk (rows.map runsOf)))) (.pd (.list (ws.map encWay))) x11 x12 (.pd (encB (bf.map runsOf))) x14 x15 x16 x17 x18 x19 x20 x21 x22 x23) = some (.nx, (Lr sc d long rows (.pd (.int (k : Int))) x5 x6 x7 x8 (.pd (.list (encBk (rows.map runsOf)))) (.pd (.list (ws.map encWay))) x11 x12 (.pd (encB (bf.map runsOf))) (.pd (.list ([Way.ticks, .runs, .change, .turn].map fun w => encO (costOf w (runsOf r) (bf.map runsOf) long)))) x15 x16 x17 x18 x19 x20 x21 x22 x23)) := by
  have C := dComp_map (it := dIt (dLst (dArgs [(dC (.str "ticks")), (dC (.str "runs")), (dC (.str "change")), (dC (.str "turn"))]))) (vs := [25]) (tg := .nm 25) (el := dCallN 4 cost_of_s (dArgs [(dV 25), (dBin idxP (dV 9) (dV 4)), (dV 13), (dV 2)])) encWay (fun w => encO (costOf w (runsOf r) (bf.map runsOf) long)) [Way.ticks, .runs, .change, .turn] (Lr sc d long rows (.pd (.int (k : Int))) x5 x6 x7 x8 (.pd (.list (encBk (rows.map runsOf)))) (.pd (.list (ws.map encWay))) x11 x12 (.pd (encB (bf.map runsOf))) x14 x15 x16 x17 x18 x19 x20 x21 x22 x23) (Lr sc d long rows (.pd (.int (k : Int))) x5 x6 x7 x8 (.pd (.list (encBk (rows.map runsOf)))) (.pd (.list (ws.map encWay))) x11 x12 (.pd (encB (bf.map runsOf))) x14 x15 x16 x17 x18 x19 x20 x21 x22 x23) rfl (by decide) rfl rfl
    fun w hw => ⟨_, bind_nm, b2_cost (ws := ws) (y25 := .hole) (h1 := .hole) (h2 := .hole) (h3 := .hole) (h4 := .hole) (h5 := .hole) hl hl2 hk hb hbf w rfl rfl rfl rfl rfl⟩
  rw [dSet_, dPd_, dLst_, C]
  rfl
end
end
end HW

namespace HW
open PySem PySem.Spec PyProof.Rows L2
noncomputable section
section
variable {sc d : D} {long : Nat} {rows : List (List Int)} {x4 x5 x6 x7 x8 x9 x10 x11 x12 x13 x14 x15 x16 x17 x18 x19 x20 x21 x22 x23 : D}
theorem some_ints : ∀ xs : List (Option Int), (xs.filter Option.isSome).map encO = intsL (xs.filterMap id)
  | [] => rfl
  | none :: xs => by simpa using some_ints xs
  | some x :: xs => by
    have := some_ints xs
    simp only [List.filter_cons, Option.isSome_some, if_true, List.map_cons, List.filterMap_cons, id]
    rw [this]
    rfl
theorem all_ways (w : Way) : w ∈ [Way.ticks, .runs, .change, .turn] := by cases w <;> simp
section
variable {ws : List Way} {k : Nat} {r : List Int} {bf : Option (List Int)} {w : Way} {c : Int}
theorem b2_min (hc : costOf w (runsOf r) (bf.map runsOf) long = some c) (hmin : ∀ w' c', costOf w' (runsOf r) (bf.map runsOf) long = some c' → c ≤ c') :
    dCall minP (dArgs [(dLst (dComp (dIt (dV 14)) [28] (.nm 28) (dNot (dIsN (dV 28))) (dV 28)))]) (Lr sc d long rows (.pd (.int (k : Int))) x5 x6 x7 x8 (.pd (.list (encBk (rows.map runsOf)))) (.pd (.list (ws.map encWay))) x11 x12 (.pd (encB (bf.map runsOf))) (.pd (.list ([Way.ticks, .runs, .change, .turn].map fun w => encO (costOf w (runsOf r) (bf.map runsOf) long)))) x15 x16 x17 x18 x19 x20 x21 x22 x23) = some (.int c, (Lr sc d long rows (.pd (.int (k : Int))) x5 x6 x7 x8 (.pd (.list (encBk (rows.map runsOf)))) (.pd (.list (ws.map encWay))) x11 x12 (.pd (encB (bf.map runsOf))) (.pd (.list ([Way.ticks, .runs, .change, .turn].map fun w => encO (costOf w (runsOf r) (bf.map runsOf) long)))) x15 x16 x17 x18 x19 x20 x21 x22 x23)) := by
  have C := dComp_pure (it := dIt (dV 14)) (vs := [28]) (tg := .nm 28) (cnd := dNot (dIsN (dV 28))) (el := dV 28) encO Option.isSome encO ([Way.ticks, .runs, .change, .turn].map fun w => costOf w (runsOf r) (bf.map runsOf) long) (Lr sc d long rows (.pd (.int (k : Int))) x5 x6 x7 x8 (.pd (.list (encBk (rows.map runsOf)))) (.pd (.list (ws.map encWay))) x11 x12 (.pd (encB (bf.map runsOf))) (.pd (.list ([Way.ticks, .runs, .change, .turn].map fun w => encO (costOf w (runsOf r) (bf.map runsOf) long)))) x15 x16 x17 x18 x19 x20 x21 x22 x23) (Lr sc d long rows (.pd (.int (k : Int))) x5 x6 x7 x8 (.pd (.list (encBk (rows.map runsOf)))) (.pd (.list (ws.map encWay))) x11 x12 (.pd (encB (bf.map runsOf))) (.pd (.list ([Way.ticks, .runs, .change, .turn].map fun w => encO (costOf w (runsOf r) (bf.map runsOf) long)))) x15 x16 x17 x18 x19 x20 x21 x22 x23) (by rw [List.map_map]; rfl) (by simp) rfl rfl
    fun x hx => ⟨_, bind_nm, by cases x <;> rfl, fun _ => rfl⟩
  rw [some_ints] at C
  have hl : ∃ x xs, ([Way.ticks, .runs, .change, .turn].map fun w => costOf w (runsOf r) (bf.map runsOf) long).filterMap id = x :: xs := ⟨_, _, rfl⟩
  obtain ⟨x, xs, e⟩ := hl
  obtain ⟨m, h1, h2, h3⟩ := minP_ints x xs
  have hm : m = c := by
    have i1 : ∀ y, y ∈ x :: xs ↔ ∃ w', costOf w' (runsOf r) (bf.map runsOf) long = some y := fun y => by
      rw [← e, List.mem_filterMap]
      constructor
      · rintro ⟨z, hz, rfl⟩
        obtain ⟨w', _, h⟩ := List.mem_map.mp hz
        exact ⟨w', h⟩
      · rintro ⟨w', h⟩
        exact ⟨some y, List.mem_map.mpr ⟨w', all_ways w', h⟩, rfl⟩
    obtain ⟨w', h4⟩ := (i1 m).mp h2
    have h5 := hmin w' m h4
    have h6 := h3 c ((i1 c).mpr ⟨w, hc⟩)
    omega
  rw [dCall_, dArgs_cons, dLst_, C, e]
  show ((minP [.list (intsL (x :: xs))]).map _) = _
  rw [h1, hm]
  rfl
theorem b2_chk (hl : 0 < long) (hl2 : long ≤ 10) (hk : rows[k]? = some r) (hb : ∀ r ∈ rows, Row01 long r) (hbf : ∀ b, bf = some b → b ∈ rows) (hw : ws[k]? = some w) (hc : costOf w (runsOf r) (bf.map runsOf) long = some c) (hmin : ∀ w' c', costOf w' (runsOf r) (bf.map runsOf) long = some c' → c ≤ c') :
    dCallN 4 cost_of_s (dArgs [(dBin idxP (dV 10) (dV 4)), (dBin idxP (dV 9) (dV 4)), (dV 13), (dV 2)]) (Lr sc d long rows (.pd (.int (k : Int))) x5 x6 x7 x8 (.pd (.list (encBk (rows.map runsOf)))) (.pd (.list (ws.map encWay))) x11 x12 (.pd (encB (bf.map runsOf))) (.pd (.list ([Way.ticks, .runs, .change, .turn].map fun w => encO (costOf w (runsOf r) (bf.map runsOf) long)))) x15 x16 x17 x18 x19 x20 x21 x22 x23) = some (.int c, (Lr sc d long rows (.pd (.int (k : Int))) x5 x6 x7 x8 (.pd (.list (encBk (rows.map runsOf)))) (.pd (.list (ws.map encWay))) x11 x12 (.pd (encB (bf.map runsOf))) (.pd (.list ([Way.ticks, .runs, .change, .turn].map fun w => encO (costOf w (runsOf r) (bf.map runsOf) long)))) x15 x16 x17 x18 x19 x20 x21 x22 x23)) := by
  have a : atI (ws.map encWay) (k : Int) = some (encWay w) := atI_natP (by simp [hw])
  have hf : dBin idxP (dV 10) (dV 4) (Lr sc d long rows (.pd (.int (k : Int))) x5 x6 x7 x8 (.pd (.list (encBk (rows.map runsOf)))) (.pd (.list (ws.map encWay))) x11 x12 (.pd (encB (bf.map runsOf))) (.pd (.list ([Way.ticks, .runs, .change, .turn].map fun w => encO (costOf w (runsOf r) (bf.map runsOf) long)))) x15 x16 x17 x18 x19 x20 x21 x22 x23) = some (encWay w, (Lr sc d long rows (.pd (.int (k : Int))) x5 x6 x7 x8 (.pd (.list (encBk (rows.map runsOf)))) (.pd (.list (ws.map encWay))) x11 x12 (.pd (encB (bf.map runsOf))) (.pd (.list ([Way.ticks, .runs, .change, .turn].map fun w => encO (costOf w (runsOf r) (bf.map runsOf) long)))) x15 x16 x17 x18 x19 x20 x21 x22 x23)) := by
    show (atI (ws.map encWay) (k : Int)).map (fun z => (z, (Lr sc d long rows (.pd (.int (k : Int))) x5 x6 x7 x8 (.pd (.list (encBk (rows.map runsOf)))) (.pd (.list (ws.map encWay))) x11 x12 (.pd (encB (bf.map runsOf))) (.pd (.list ([Way.ticks, .runs, .change, .turn].map fun w => encO (costOf w (runsOf r) (bf.map runsOf) long)))) x15 x16 x17 x18 x19 x20 x21 x22 x23))) = _
    rw [a]
    rfl
  have := b2_cost (ws := ws) (y25 := .hole) (h1 := .hole) (h2 := .hole) (h3 := .hole) (h4 := .hole) (h5 := .hole) hl hl2 hk hb hbf w (f := dBin idxP (dV 10) (dV 4)) (ρ := (Lr sc d long rows (.pd (.int (k : Int))) x5 x6 x7 x8 (.pd (.list (encBk (rows.map runsOf)))) (.pd (.list (ws.map encWay))) x11 x12 (.pd (encB (bf.map runsOf))) (.pd (.list ([Way.ticks, .runs, .change, .turn].map fun w => encO (costOf w (runsOf r) (bf.map runsOf) long)))) x15 x16 x17 x18 x19 x20 x21 x22 x23)) rfl rfl rfl rfl hf
  rw [hc] at this
  exact this
theorem law_b2_sem {cs : List Int} (hl : 0 < long) (hl2 : long ≤ 10) (hk : rows[k]? = some r) (hb : ∀ r ∈ rows, Row01 long r) (hbf : bf = if k = 0 then none else rows[k - 1]?) (hw : ws[k]? = some w) (hcs : cs.length < 1000)
    (hc : costOf w (runsOf r) (bf.map runsOf) long = some c) (hmin : ∀ w' c', costOf w' (runsOf r) (bf.map runsOf) long = some c' → c ≤ c') :
    ∃ y13 y14, law_b2 (Lr sc d long rows (.pd (.int (k : Int))) x5 x6 x7 x8 (.pd (.list (encBk (rows.map runsOf)))) (.pd (.list (ws.map encWay))) x11 (.ol (pds (intsL cs))) x13 x14 x15 x16 x17 x18 x19 x20 x21 x22 x23) = some (.nx, (Lr sc d long rows (.pd (.int (k : Int))) x5 x6 x7 x8 (.pd (.list (encBk (rows.map runsOf)))) (.pd (.list (ws.map encWay))) x11 (.ol (pds (intsL (cs ++ [c])))) (y13) (y14) x15 x16 x17 x18 x19 x20 x21 x22 x23)) := by
  refine ⟨.pd (encB (bf.map runsOf)), .pd (.list ([Way.ticks, .runs, .change, .turn].map fun w => encO (costOf w (runsOf r) (bf.map runsOf) long))), ?_⟩
  have hk1 : k < rows.length := (List.getElem?_eq_some_iff.mp hk).1
  have hbm : ∀ b, bf = some b → b ∈ rows := fun b h => by
    rw [hbf] at h
    split at h
    · cases h
    · exact List.mem_of_getElem? h
  unfold law_b2
  rw [seq_nx (b2_before hk1 hbf), seq_nx (b2_prices hl hl2 hk hb hbm), seq_nx (ρ1 := (Lr sc d long rows (.pd (.int (k : Int))) x5 x6 x7 x8 (.pd (.list (encBk (rows.map runsOf)))) (.pd (.list (ws.map encWay))) x11 (.ol (pds (intsL cs))) (.pd (encB (bf.map runsOf))) (.pd (.list ([Way.ticks, .runs, .change, .turn].map fun w => encO (costOf w (runsOf r) (bf.map runsOf) long)))) x15 x16 x17 x18 x19 x20 x21 x22 x23))]
  · rw [dApp_, dPd_, b2_chk hl hl2 hk hb hbm hw hc hmin]
    have hz : (pds (intsL cs)).length < 16777216 := by simp; omega
    show (if (pds (intsL cs)).length < 16777216 then _ else _) = _
    rw [if_pos hz]
    have e : pds (intsL cs) ++ [.pd (.int c)] = pds (intsL (cs ++ [c])) := by simp [intsL, pds]
    rw [e]
    rfl
  · have f := fdivP_pos (i := (long : Int) + 7) (j := 8) (by omega) (by omega)
    have c1 : dCmp neP (dBin idxP (dV 14) (dC (.int 0))) (dBin addP (dC (.int 1)) (dBin fdivP (dBin addP (dV 2) (dC (.int 7))) (dC (.int 8)))) (Lr sc d long rows (.pd (.int (k : Int))) x5 x6 x7 x8 (.pd (.list (encBk (rows.map runsOf)))) (.pd (.list (ws.map encWay))) x11 (.ol (pds (intsL cs))) (.pd (encB (bf.map runsOf))) (.pd (.list ([Way.ticks, .runs, .change, .turn].map fun w => encO (costOf w (runsOf r) (bf.map runsOf) long)))) x15 x16 x17 x18 x19 x20 x21 x22 x23) = some (false, (Lr sc d long rows (.pd (.int (k : Int))) x5 x6 x7 x8 (.pd (.list (encBk (rows.map runsOf)))) (.pd (.list (ws.map encWay))) x11 (.ol (pds (intsL cs))) (.pd (encB (bf.map runsOf))) (.pd (.list ([Way.ticks, .runs, .change, .turn].map fun w => encO (costOf w (runsOf r) (bf.map runsOf) long)))) x15 x16 x17 x18 x19 x20 x21 x22 x23)) := by
      rw [dCmp_]
      have e1 : dBin idxP (dV 14) (dC (.int 0)) (Lr sc d long rows (.pd (.int (k : Int))) x5 x6 x7 x8 (.pd (.list (encBk (rows.map runsOf)))) (.pd (.list (ws.map encWay))) x11 (.ol (pds (intsL cs))) (.pd (encB (bf.map runsOf))) (.pd (.list ([Way.ticks, .runs, .change, .turn].map fun w => encO (costOf w (runsOf r) (bf.map runsOf) long)))) x15 x16 x17 x18 x19 x20 x21 x22 x23) = some (.int (1 + ((long : Int) + 7) / 8), (Lr sc d long rows (.pd (.int (k : Int))) x5 x6 x7 x8 (.pd (.list (encBk (rows.map runsOf)))) (.pd (.list (ws.map encWay))) x11 (.ol (pds (intsL cs))) (.pd (encB (bf.map runsOf))) (.pd (.list ([Way.ticks, .runs, .change, .turn].map fun w => encO (costOf w (runsOf r) (bf.map runsOf) long)))) x15 x16 x17 x18 x19 x20 x21 x22 x23)) := rfl
      have e2 : dBin addP (dC (.int 1)) (dBin fdivP (dBin addP (dV 2) (dC (.int 7))) (dC (.int 8))) (Lr sc d long rows (.pd (.int (k : Int))) x5 x6 x7 x8 (.pd (.list (encBk (rows.map runsOf)))) (.pd (.list (ws.map encWay))) x11 (.ol (pds (intsL cs))) (.pd (encB (bf.map runsOf))) (.pd (.list ([Way.ticks, .runs, .change, .turn].map fun w => encO (costOf w (runsOf r) (bf.map runsOf) long)))) x15 x16 x17 x18 x19 x20 x21 x22 x23) = some (.int (1 + ((long : Int) + 7) / 8), (Lr sc d long rows (.pd (.int (k : Int))) x5 x6 x7 x8 (.pd (.list (encBk (rows.map runsOf)))) (.pd (.list (ws.map encWay))) x11 (.ol (pds (intsL cs))) (.pd (encB (bf.map runsOf))) (.pd (.list ([Way.ticks, .runs, .change, .turn].map fun w => encO (costOf w (runsOf r) (bf.map runsOf) long)))) x15 x16 x17 x18 x19 x20 x21 x22 x23)) := by
        show ((((fdivP (.int ((long : Int) + 7)) (.int 8)).map fun z => (z, (Lr sc d long rows (.pd (.int (k : Int))) x5 x6 x7 x8 (.pd (.list (encBk (rows.map runsOf)))) (.pd (.list (ws.map encWay))) x11 (.ol (pds (intsL cs))) (.pd (encB (bf.map runsOf))) (.pd (.list ([Way.ticks, .runs, .change, .turn].map fun w => encO (costOf w (runsOf r) (bf.map runsOf) long)))) x15 x16 x17 x18 x19 x20 x21 x22 x23))).bind fun y => (addP (.int 1) y.1).map fun z => (z, y.2))) = _
        rw [f]
        rfl
      rw [e1, Option.bind_some, e2, Option.bind_some]
      dsimp only
      rw [neP_int]
      simp
    have c2 : dCmp neP (dBin idxP (dV 14) (dC (.int 1))) (dBin addP (dC (.int 1)) (dBin mulP (dC (.int 2)) (dCall lenP (dArgs [(dBin idxP (dV 9) (dV 4))])))) (Lr sc d long rows (.pd (.int (k : Int))) x5 x6 x7 x8 (.pd (.list (encBk (rows.map runsOf)))) (.pd (.list (ws.map encWay))) x11 (.ol (pds (intsL cs))) (.pd (encB (bf.map runsOf))) (.pd (.list ([Way.ticks, .runs, .change, .turn].map fun w => encO (costOf w (runsOf r) (bf.map runsOf) long)))) x15 x16 x17 x18 x19 x20 x21 x22 x23) = some (false, (Lr sc d long rows (.pd (.int (k : Int))) x5 x6 x7 x8 (.pd (.list (encBk (rows.map runsOf)))) (.pd (.list (ws.map encWay))) x11 (.ol (pds (intsL cs))) (.pd (encB (bf.map runsOf))) (.pd (.list ([Way.ticks, .runs, .change, .turn].map fun w => encO (costOf w (runsOf r) (bf.map runsOf) long)))) x15 x16 x17 x18 x19 x20 x21 x22 x23)) := by
      have a : atI (encBk (rows.map runsOf)) (k : Int) = some (.list (encRs (runsOf r))) := atI_natP (by simp [encBk, hk])
      have e1 : dBin idxP (dV 14) (dC (.int 1)) (Lr sc d long rows (.pd (.int (k : Int))) x5 x6 x7 x8 (.pd (.list (encBk (rows.map runsOf)))) (.pd (.list (ws.map encWay))) x11 (.ol (pds (intsL cs))) (.pd (encB (bf.map runsOf))) (.pd (.list ([Way.ticks, .runs, .change, .turn].map fun w => encO (costOf w (runsOf r) (bf.map runsOf) long)))) x15 x16 x17 x18 x19 x20 x21 x22 x23) = some (.int (1 + 2 * ((runsOf r).length : Int)), (Lr sc d long rows (.pd (.int (k : Int))) x5 x6 x7 x8 (.pd (.list (encBk (rows.map runsOf)))) (.pd (.list (ws.map encWay))) x11 (.ol (pds (intsL cs))) (.pd (encB (bf.map runsOf))) (.pd (.list ([Way.ticks, .runs, .change, .turn].map fun w => encO (costOf w (runsOf r) (bf.map runsOf) long)))) x15 x16 x17 x18 x19 x20 x21 x22 x23)) := rfl
      have e3 : dBin idxP (dV 9) (dV 4) (Lr sc d long rows (.pd (.int (k : Int))) x5 x6 x7 x8 (.pd (.list (encBk (rows.map runsOf)))) (.pd (.list (ws.map encWay))) x11 (.ol (pds (intsL cs))) (.pd (encB (bf.map runsOf))) (.pd (.list ([Way.ticks, .runs, .change, .turn].map fun w => encO (costOf w (runsOf r) (bf.map runsOf) long)))) x15 x16 x17 x18 x19 x20 x21 x22 x23) = some (.list (encRs (runsOf r)), (Lr sc d long rows (.pd (.int (k : Int))) x5 x6 x7 x8 (.pd (.list (encBk (rows.map runsOf)))) (.pd (.list (ws.map encWay))) x11 (.ol (pds (intsL cs))) (.pd (encB (bf.map runsOf))) (.pd (.list ([Way.ticks, .runs, .change, .turn].map fun w => encO (costOf w (runsOf r) (bf.map runsOf) long)))) x15 x16 x17 x18 x19 x20 x21 x22 x23)) := by
        show (atI (encBk (rows.map runsOf)) (k : Int)).map (fun z => (z, (Lr sc d long rows (.pd (.int (k : Int))) x5 x6 x7 x8 (.pd (.list (encBk (rows.map runsOf)))) (.pd (.list (ws.map encWay))) x11 (.ol (pds (intsL cs))) (.pd (encB (bf.map runsOf))) (.pd (.list ([Way.ticks, .runs, .change, .turn].map fun w => encO (costOf w (runsOf r) (bf.map runsOf) long)))) x15 x16 x17 x18 x19 x20 x21 x22 x23))) = _
        rw [a]
        rfl
      have e2 : dBin addP (dC (.int 1)) (dBin mulP (dC (.int 2)) (dCall lenP (dArgs [(dBin idxP (dV 9) (dV 4))]))) (Lr sc d long rows (.pd (.int (k : Int))) x5 x6 x7 x8 (.pd (.list (encBk (rows.map runsOf)))) (.pd (.list (ws.map encWay))) x11 (.ol (pds (intsL cs))) (.pd (encB (bf.map runsOf))) (.pd (.list ([Way.ticks, .runs, .change, .turn].map fun w => encO (costOf w (runsOf r) (bf.map runsOf) long)))) x15 x16 x17 x18 x19 x20 x21 x22 x23) = some (.int (1 + 2 * ((runsOf r).length : Int)), (Lr sc d long rows (.pd (.int (k : Int))) x5 x6 x7 x8 (.pd (.list (encBk (rows.map runsOf)))) (.pd (.list (ws.map encWay))) x11 (.ol (pds (intsL cs))) (.pd (encB (bf.map runsOf))) (.pd (.list ([Way.ticks, .runs, .change, .turn].map fun w => encO (costOf w (runsOf r) (bf.map runsOf) long)))) x15 x16 x17 x18 x19 x20 x21 x22 x23)) := by
        rw [dBin_, dC_, Option.bind_some]
        dsimp only
        rw [dBin_, dC_, Option.bind_some]
        dsimp only
        rw [dCall_, dArgs_cons, e3]
        simp [mulP_two]
      rw [dCmp_, e1, Option.bind_some, e2, Option.bind_some]
      dsimp only
      rw [neP_int]
      simp
    rw [dIfS_, dOr_, c1, Option.bind_some]
    dsimp only
    rw [if_neg Bool.false_ne_true, dOr_, c2, Option.bind_some]
    dsimp only
    rw [if_neg Bool.false_ne_true, dCmp_, b2_chk hl hl2 hk hb hbm hw hc hmin, Option.bind_some]
    dsimp only
    rw [b2_min hc hmin, Option.bind_some]
    dsimp only
    rw [neP_int]
    simp
end
end
end
end HW

namespace HW
open PySem PySem.Spec PyProof.Rows L2
noncomputable section
section
variable {sc d : D} {long : Nat} {rows : List (List Int)} {x4 x5 x6 x7 x8 x9 x10 x11 x12 x13 x14 x15 x16 x17 x18 x19 x20 x21 x22 x23 : D}
def pairsOf (rows : List (List Int)) : List (RL × Option RL) := (rows.map runsOf).zip (none :: (rows.map runsOf).map some)
def costsOf (long : Nat) (rows : List (List Int)) : List Int := (pairsOf rows).map fun z => (chosen z.1 z.2 long).1
theorem ways_is (long : Nat) (rows : List (List Int)) : waysOf long rows = (pairsOf rows).map fun z => (chosen z.1 z.2 long).2.2 := by
  have := (coded_ways long (rows.map runsOf) ([], 0, none)).1
  rw [List.nil_append] at this
  exact this
theorem cost_is (long : Nat) (rows : List (List Int)) : costOfAll long rows = (costsOf long rows).sum := by
  have := (coded_ways long (rows.map runsOf) ([], 0, none)).2
  rw [Int.zero_add] at this
  exact this
theorem pairs_len (rows : List (List Int)) : (pairsOf rows).length = rows.length := by simp [pairsOf]
theorem pairs_at {k : Nat} {r : List Int} (h : rows[k]? = some r) : (pairsOf rows)[k]? = some (runsOf r, (if k = 0 then none else rows[k - 1]?).map runsOf) := by
  have hk := (List.getElem?_eq_some_iff.mp h).1
  unfold pairsOf
  rw [List.getElem?_zip_eq_some]
  refine ⟨by simp [h], ?_⟩
  cases k with
  | zero => rfl
  | succ j =>
    have hj : j < rows.length := by omega
    simp [hj]
theorem b2_loop (hl : 0 < long) (hl2 : long ≤ 10) (hb : ∀ r ∈ rows, Row01 long r) (hn : rows.length < 100) : ∀ (n k : Nat), k + n = rows.length → ∀ (x4 x13 x14 : D), isPd x4 = true → ∃ y4 y13 y14, isPd y4 = true ∧
    forL (.nm 4) law_b2 ((List.range' k n).map fun i : Nat => .int (i : Int)) (Lr sc d long rows x4 x5 x6 x7 x8 (.pd (.list (encBk (rows.map runsOf)))) (.pd (.list ((waysOf long rows).map encWay))) x11 (.ol (pds (intsL ((costsOf long rows).take k)))) x13 x14 x15 x16 x17 x18 x19 x20 x21 x22 x23) = some (.nx, (Lr sc d long rows (y4) x5 x6 x7 x8 (.pd (.list (encBk (rows.map runsOf)))) (.pd (.list ((waysOf long rows).map encWay))) x11 (.ol (pds (intsL (costsOf long rows)))) (y13) (y14) x15 x16 x17 x18 x19 x20 x21 x22 x23))
  | 0, k, hk, x4, x13, x14, h4 => by
    refine ⟨x4, x13, x14, h4, ?_⟩
    have e : (costsOf long rows).take k = costsOf long rows := List.take_of_length_le (by simp [costsOf, pairs_len]; omega)
    rw [e]
    rfl
  | n + 1, k, hk, x4, x13, x14, h4 => by
    have hkl : k < rows.length := by omega
    have h := List.getElem?_eq_getElem hkl
    have p := pairs_at h
    have hw : (waysOf long rows)[k]? = some (chosen (runsOf rows[k]) ((if k = 0 then none else rows[k - 1]?).map runsOf) long).2.2 := by
      rw [ways_is, List.getElem?_map, p]
      rfl
    obtain ⟨z13, z14, e1⟩ := law_b2_sem (sc := sc) (d := d) (x5 := x5) (x6 := x6) (x7 := x7) (x8 := x8) (x11 := x11) (x13 := x13) (x14 := x14) (x15 := x15) (x16 := x16) (x17 := x17) (x18 := x18) (x19 := x19) (x20 := x20) (x21 := x21) (x22 := x22) (x23 := x23) (cs := (costsOf long rows).take k) hl hl2 h hb rfl hw (by rw [List.length_take]; omega) (chosen_cost _ _ _) (fun w' c' hc => chosen_least _ _ _ w' c' hc)
    have ec : (costsOf long rows).take k ++ [(chosen (runsOf rows[k]) ((if k = 0 then none else rows[k - 1]?).map runsOf) long).1] = (costsOf long rows).take (k + 1) := by
      have q : (costsOf long rows)[k]? = some (chosen (runsOf rows[k]) ((if k = 0 then none else rows[k - 1]?).map runsOf) long).1 := by
        unfold costsOf
        rw [List.getElem?_map, p]
        rfl
      rw [List.take_add_one, q]
      rfl
    rw [ec] at e1
    obtain ⟨y4, y13, y14, i4, e2⟩ := b2_loop hl hl2 hb hn n (k + 1) (by omega) (.pd (.int (k : Int))) z13 z14 rfl
    refine ⟨y4, y13, y14, i4, ?_⟩
    rw [List.range'_succ, List.map_cons]
    unfold forL
    rw [bind_nm, Option.bind_some]
    show (law_b2 (Lr sc d long rows (.pd (.int (k : Int))) x5 x6 x7 x8 (.pd (.list (encBk (rows.map runsOf)))) (.pd (.list ((waysOf long rows).map encWay))) x11 (.ol (pds (intsL ((costsOf long rows).take k)))) x13 x14 x15 x16 x17 x18 x19 x20 x21 x22 x23)).bind _ = _
    rw [e1, Option.bind_some]
    exact e2
theorem stE (hl : 0 < long) (hl2 : long ≤ 10) (hb : ∀ r ∈ rows, Row01 long r) (hn : rows.length < 100) (h4 : isPd x4 = true) : ∃ y4 y13 y14, isPd y4 = true ∧
    dFor (dItA rng1P (dArgs [(dCall lenP (dArgs [(dV 9)]))])) (.nm 4) law_b2 (Lr sc d long rows x4 x5 x6 x7 x8 (.pd (.list (encBk (rows.map runsOf)))) (.pd (.list ((waysOf long rows).map encWay))) x11 (.ol (pds [])) x13 x14 x15 x16 x17 x18 x19 x20 x21 x22 x23) = some (.nx, (Lr sc d long rows (y4) x5 x6 x7 x8 (.pd (.list (encBk (rows.map runsOf)))) (.pd (.list ((waysOf long rows).map encWay))) x11 (.ol (pds (intsL (costsOf long rows)))) (y13) (y14) x15 x16 x17 x18 x19 x20 x21 x22 x23)) := by
  obtain ⟨y4, y13, y14, i4, e2⟩ := b2_loop (sc := sc) (d := d) (x5 := x5) (x6 := x6) (x7 := x7) (x8 := x8) (x11 := x11) (x15 := x15) (x16 := x16) (x17 := x17) (x18 := x18) (x19 := x19) (x20 := x20) (x21 := x21) (x22 := x22) (x23 := x23) hl hl2 hb hn rows.length 0 (by omega) x4 x13 x14 h4
  refine ⟨y4, y13, y14, i4, ?_⟩
  have r1 := rng1P_nat rows.length (by omega)
  rw [List.range_eq_range'] at r1
  have hlen : (encBk (rows.map runsOf)).length = rows.length := by simp [encBk]
  rw [dFor_]
  show ((rng1P [.int ((encBk (rows.map runsOf)).length : Int)]).map fun y => (y, (Lr sc d long rows x4 x5 x6 x7 x8 (.pd (.list (encBk (rows.map runsOf)))) (.pd (.list ((waysOf long rows).map encWay))) x11 (.ol (pds [])) x13 x14 x15 x16 x17 x18 x19 x20 x21 x22 x23))).bind _ = _
  rw [hlen, r1]
  exact e2
theorem backs_ok (hl : 0 < long) (hl2 : long ≤ 10) : ∀ (rows : List (List Int)) (before : Option (List Int)), (∀ r ∈ rows, Row01 long r) → (∀ b, before = some b → Row01 long b) →
    BacksOk long ((rows.map runsOf).zip (((rows.map runsOf).zip (before.map runsOf :: (rows.map runsOf).map some)).map fun z => (chosen z.1 z.2 long).2.2)) (before.map runsOf)
  | [], _, _, _ => trivial
  | r :: rs, before, hr, hb => by
    have hr1 := hr r (by simp)
    refine ⟨back_ok hl hr1 hb _ ?_, fun b h => ?_, ?_⟩
    · rw [chosen_cost]
      rfl
    · obtain ⟨y, hy, rfl⟩ := Option.map_eq_some_iff.mp h
      have := change_len hr1 (hb y hy)
      show (putTogether (runsOf r) (runsOf y) bothW).length < 16
      omega
    · exact backs_ok hl hl2 rs (some r) (fun y hy => hr y (by simp [hy])) (fun b h => by cases h; exact hr1)
theorem depth_bk (bk : List RL) : (PyData.list (encBk bk)).depth ≤ 3 := depth_map _ 2 (fun r => depth_Rs r) bk
theorem plain_bk (bk : List RL) : plainP (.list (encBk bk)) = true := by
  simp only [plainP]
  exact plain_map _ (fun r => by simp only [plainP]; exact plain_map _ (fun _ => rfl) r) bk
theorem stF (hl : 0 < long) (hl2 : long ≤ 10) (hb : ∀ r ∈ rows, Row01 long r) (hn : rows.length < 100) :
    dIfS (dOr (dCmp neP (dV 11) (dPk 12 (dCall sumP (dArgs [(dV 12)])))) (dCmp neP (dCallN 2 read_back_s (dArgs [(dCallN 3 told_by_s (dArgs [(dV 9), (dV 2), (dV 10)])), (dV 2)])) (dV 9))) (dRet (dPd (dC (.bool false)))) dNx (Lr sc d long rows x4 x5 x6 x7 x8 (.pd (.list (encBk (rows.map runsOf)))) (.pd (.list ((waysOf long rows).map encWay))) (.pd (.int (costOfAll long rows))) (.ol (pds (intsL (costsOf long rows)))) x13 x14 x15 x16 x17 x18 x19 x20 x21 x22 x23) = some (.nx, (Lr sc d long rows x4 x5 x6 x7 x8 (.pd (.list (encBk (rows.map runsOf)))) (.pd (.list ((waysOf long rows).map encWay))) (.pd (.int (costOfAll long rows))) (.ol (pds (intsL (costsOf long rows)))) x13 x14 x15 x16 x17 x18 x19 x20 x21 x22 x23)) := by
  have hw : (waysOf long rows).length = (rows.map runsOf).length := by rw [ways_is, List.length_map, pairs_len, List.length_map]
  have hc : costsOk long ((rows.map runsOf).zip (waysOf long rows)) none = true := by
    rw [ways_is]
    exact costs_ok long (rows.map runsOf) none
  have hB : BacksOk long ((rows.map runsOf).zip (waysOf long rows)) none := by
    rw [ways_is]
    exact backs_ok hl hl2 rows none hb (fun b h => by cases h)
  have t := told_by_sem (rows.map runsOf) (waysOf long rows) long hl (by omega) (book_small hl2 hb) (by simp; omega) hc
  have r := read_back_sem (rows.map runsOf) (waysOf long rows) long hl (by omega) (book_small hl2 hb) (by simp; omega) hw hc hB
  have c1 : dCmp neP (dV 11) (dPk 12 (dCall sumP (dArgs [(dV 12)]))) (Lr sc d long rows x4 x5 x6 x7 x8 (.pd (.list (encBk (rows.map runsOf)))) (.pd (.list ((waysOf long rows).map encWay))) (.pd (.int (costOfAll long rows))) (.ol (pds (intsL (costsOf long rows)))) x13 x14 x15 x16 x17 x18 x19 x20 x21 x22 x23) = some (false, (Lr sc d long rows x4 x5 x6 x7 x8 (.pd (.list (encBk (rows.map runsOf)))) (.pd (.list ((waysOf long rows).map encWay))) (.pd (.int (costOfAll long rows))) (.ol (pds (intsL (costsOf long rows)))) x13 x14 x15 x16 x17 x18 x19 x20 x21 x22 x23)) := by
    have e : dPk 12 (dCall sumP (dArgs [(dV 12)])) (Lr sc d long rows x4 x5 x6 x7 x8 (.pd (.list (encBk (rows.map runsOf)))) (.pd (.list ((waysOf long rows).map encWay))) (.pd (.int (costOfAll long rows))) (.ol (pds (intsL (costsOf long rows)))) x13 x14 x15 x16 x17 x18 x19 x20 x21 x22 x23) = some (.int (costsOf long rows).sum, (Lr sc d long rows x4 x5 x6 x7 x8 (.pd (.list (encBk (rows.map runsOf)))) (.pd (.list ((waysOf long rows).map encWay))) (.pd (.int (costOfAll long rows))) (.ol (pds (intsL (costsOf long rows)))) x13 x14 x15 x16 x17 x18 x19 x20 x21 x22 x23)) := by
      have fz : frzAt (Lr sc d long rows x4 x5 x6 x7 x8 (.pd (.list (encBk (rows.map runsOf)))) (.pd (.list ((waysOf long rows).map encWay))) (.pd (.int (costOfAll long rows))) (.ol (pds (intsL (costsOf long rows)))) x13 x14 x15 x16 x17 x18 x19 x20 x21 x22 x23) 12 = some (Lr sc d long rows x4 x5 x6 x7 x8 (.pd (.list (encBk (rows.map runsOf)))) (.pd (.list ((waysOf long rows).map encWay))) (.pd (.int (costOfAll long rows))) (.pd (.list (intsL (costsOf long rows)))) x13 x14 x15 x16 x17 x18 x19 x20 x21 x22 x23) := by
        rw [frzAt_]
        show (frz (.ol (pds (intsL (costsOf long rows))))).map _ = _
        rw [frz_olD, frzs_pds]
        rfl
      rw [dPk_, fz, Option.bind_some]
      show ((sumP [.list (intsL (costsOf long rows))]).map (fun z => (z, (Lr sc d long rows x4 x5 x6 x7 x8 (.pd (.list (encBk (rows.map runsOf)))) (.pd (.list ((waysOf long rows).map encWay))) (.pd (.int (costOfAll long rows))) (.pd (.list (intsL (costsOf long rows)))) x13 x14 x15 x16 x17 x18 x19 x20 x21 x22 x23)))).bind _ = _
      rw [sumP_ints]
      rfl
    rw [dCmp_]
    show (dPk 12 (dCall sumP (dArgs [(dV 12)])) (Lr sc d long rows x4 x5 x6 x7 x8 (.pd (.list (encBk (rows.map runsOf)))) (.pd (.list ((waysOf long rows).map encWay))) (.pd (.int (costOfAll long rows))) (.ol (pds (intsL (costsOf long rows)))) x13 x14 x15 x16 x17 x18 x19 x20 x21 x22 x23)).bind _ = _
    rw [e, Option.bind_some]
    show (neP (.int (costOfAll long rows)) (.int (costsOf long rows).sum)).map _ = _
    rw [neP_int, cost_is]
    simp
  have c2 : dCmp neP (dCallN 2 read_back_s (dArgs [(dCallN 3 told_by_s (dArgs [(dV 9), (dV 2), (dV 10)])), (dV 2)])) (dV 9) (Lr sc d long rows x4 x5 x6 x7 x8 (.pd (.list (encBk (rows.map runsOf)))) (.pd (.list ((waysOf long rows).map encWay))) (.pd (.int (costOfAll long rows))) (.ol (pds (intsL (costsOf long rows)))) x13 x14 x15 x16 x17 x18 x19 x20 x21 x22 x23) = some (false, (Lr sc d long rows x4 x5 x6 x7 x8 (.pd (.list (encBk (rows.map runsOf)))) (.pd (.list ((waysOf long rows).map encWay))) (.pd (.int (costOfAll long rows))) (.ol (pds (intsL (costsOf long rows)))) x13 x14 x15 x16 x17 x18 x19 x20 x21 x22 x23)) := by
    have e1 : dCallN 3 told_by_s (dArgs [(dV 9), (dV 2), (dV 10)]) (Lr sc d long rows x4 x5 x6 x7 x8 (.pd (.list (encBk (rows.map runsOf)))) (.pd (.list ((waysOf long rows).map encWay))) (.pd (.int (costOfAll long rows))) (.ol (pds (intsL (costsOf long rows)))) x13 x14 x15 x16 x17 x18 x19 x20 x21 x22 x23) = (told_by_s [.list (encBk (rows.map runsOf)), .int long, .list ((waysOf long rows).map encWay)]).map fun z => (z, (Lr sc d long rows x4 x5 x6 x7 x8 (.pd (.list (encBk (rows.map runsOf)))) (.pd (.list ((waysOf long rows).map encWay))) (.pd (.int (costOfAll long rows))) (.ol (pds (intsL (costsOf long rows)))) x13 x14 x15 x16 x17 x18 x19 x20 x21 x22 x23)) := rfl
    rw [dCmp_, dCallN_, dArgs_cons, e1, t]
    show (((read_back_s [.list (toldRows long ((rows.map runsOf).zip (waysOf long rows)) none), .int long]).map fun z => (z, (Lr sc d long rows x4 x5 x6 x7 x8 (.pd (.list (encBk (rows.map runsOf)))) (.pd (.list ((waysOf long rows).map encWay))) (.pd (.int (costOfAll long rows))) (.ol (pds (intsL (costsOf long rows)))) x13 x14 x15 x16 x17 x18 x19 x20 x21 x22 x23))).bind _) = _
    rw [r]
    show (neP (.list (encBk (rows.map runsOf))) (.list (encBk (rows.map runsOf)))).map _ = _
    rw [neP_refl (plain_bk _) (by have := depth_bk (rows.map runsOf); omega)]
    rfl
  rw [dIfS_, dOr_, c1, Option.bind_some]
  dsimp only
  rw [if_neg Bool.false_ne_true, c2]
  rfl
end
end
end HW

namespace HW
open PySem PySem.Spec PyProof.Rows L2
noncomputable section
section
variable {sc d : D} {long : Nat} {rows : List (List Int)} {x4 x5 x6 x7 x8 x9 x10 x11 x12 x13 x14 x15 x16 x17 x18 x19 x20 x21 x22 x23 : D}
theorem idx_vv {ρ : Sl} {i j : Nat} {xs : List P} {k : Int} {p : P} (h1 : ρ[i]? = some (.pd (.list xs))) (h2 : ρ[j]? = some (.pd (.int k))) (a : atI xs k = some p) : dBin idxP (dV i) (dV j) ρ = some (p, ρ) := by
  simp [h1, h2, a]
theorem flat_rep {α : Type} (x : α) : ∀ n : Nat, (List.replicate n [x]).flatten = List.replicate n x
  | 0 => rfl
  | n + 1 => by rw [List.replicate_succ, List.flatten_cons, flat_rep x n]; rfl
theorem mulP_rep {x : P} {n : Nat} (h : n < 1000000) : mulP (.list [x]) (.int (n : Int)) = some (.list (List.replicate n x)) := by
  show (@ite _ _ (Classical.propDecidable _) (some (PyData.list (List.replicate ((n : Int)).toNat [x]).flatten)) none) = _
  rw [if_pos ⟨by omega, by omega, by simp; omega⟩, flat_rep]
  rfl
theorem stG (hl2 : long ≤ 10) : dTgt (.tcons (.nm 15) (.tcons (.nm 16) .tnil)) (dTup [(dC (.int 0)), (dBin mulP (dLst (dArgs [(dC (.int 0))])) (dV 2))]) (Lr sc d long rows x4 x5 x6 x7 x8 x9 x10 x11 x12 x13 x14 x15 x16 x17 x18 x19 x20 x21 x22 x23) = some (.nx, (Lr sc d long rows x4 x5 x6 x7 x8 x9 x10 x11 x12 x13 x14 (.pd (.int 0)) (.pd (.list (intsL (List.replicate long 0)))) x17 x18 x19 x20 x21 x22 x23)) := by
  have m := mulP_rep (x := .int 0) (n := long) (by omega)
  have e : dTup [(dC (.int 0)), (dBin mulP (dLst (dArgs [(dC (.int 0))])) (dV 2))] (Lr sc d long rows x4 x5 x6 x7 x8 x9 x10 x11 x12 x13 x14 x15 x16 x17 x18 x19 x20 x21 x22 x23) = some (.tuple [.int 0, .list (intsL (List.replicate long 0))], (Lr sc d long rows x4 x5 x6 x7 x8 x9 x10 x11 x12 x13 x14 x15 x16 x17 x18 x19 x20 x21 x22 x23)) := by
    rw [dTup_, dArgs_cons, dC_, Option.bind_some]
    dsimp only
    rw [dArgs_cons]
    have e2 : dBin mulP (dLst (dArgs [(dC (.int 0))])) (dV 2) (Lr sc d long rows x4 x5 x6 x7 x8 x9 x10 x11 x12 x13 x14 x15 x16 x17 x18 x19 x20 x21 x22 x23) = (mulP (.list [.int 0]) (.int (long : Int))).map fun z => (z, (Lr sc d long rows x4 x5 x6 x7 x8 x9 x10 x11 x12 x13 x14 x15 x16 x17 x18 x19 x20 x21 x22 x23)) := rfl
    rw [e2, m]
    simp [intsL]
  rw [dTgt_, e]
  rfl
def chStep (long : Nat) (s : Int × List Int) (row : List Int) : Int × List Int := (s.1 + 2 * ((runsOf (unlike long row s.2)).length : Int), row)
theorem law_b3_sem {ch : Int} {ahead row : List Int} (hl2 : long ≤ 10) (hr : Row01 long row) (ha : Row01 long ahead) (h4 : isPd x4 = true) :
    law_b3 (Lr sc d long rows x4 x5 (.pd (.list (intsL row))) x7 x8 x9 x10 x11 x12 x13 x14 (.pd (.int ch)) (.pd (.list (intsL ahead))) x17 x18 x19 x20 x21 x22 x23) = some (.nx, (Lr sc d long rows x4 x5 (.pd (.list (intsL row))) x7 x8 x9 x10 x11 x12 x13 x14 (.pd (.int (ch + 2 * ((runsOf (unlike long row ahead)).length : Int)))) (.pd (.list (intsL row))) (.pd (.list (intsL (unlike long row ahead)))) x18 x19 x20 x21 x22 x23)) := by
  have hbits : ∀ k, k < long → atI (intsL row) (k : Int) = some (.int (row.getD k 0)) ∧ atI (intsL ahead) (k : Int) = some (.int (ahead.getD k 0)) := fun k hk => by
    have h1 : k < row.length := by rw [hr.len]; exact hk
    have h2 : k < ahead.length := by rw [ha.len]; exact hk
    exact ⟨atI_natP (by simp [intsL, List.getD, h1]), atI_natP (by simp [intsL, List.getD, h2])⟩
  have C := dComp_map (it := dItA rng1P (dArgs [(dV 2)])) (vs := [4]) (tg := .nm 4) (el := dCall intP (dArgs [(dB (dCmp neP (dBin idxP (dV 6) (dV 4)) (dBin idxP (dV 16) (dV 4))))])) (fun i : Nat => .int (i : Int)) (fun (k : Nat) => .int (if row.getD k 0 = ahead.getD k 0 then 0 else 1)) (List.range long) (Lr sc d long rows x4 x5 (.pd (.list (intsL row))) x7 x8 x9 x10 x11 x12 x13 x14 (.pd (.int ch)) (.pd (.list (intsL ahead))) x17 x18 x19 x20 x21 x22 x23) (Lr sc d long rows x4 x5 (.pd (.list (intsL row))) x7 x8 x9 x10 x11 x12 x13 x14 (.pd (.int ch)) (.pd (.list (intsL ahead))) x17 x18 x19 x20 x21 x22 x23) (by
      have r1 := rng1P_nat long (by omega)
      show (rng1P [.int (long : Int)]).map _ = _
      rw [r1]
      rfl) (by simp; omega) (by simpa [ownOk, Lr] using h4) rfl fun k hk => by
      obtain ⟨a1, a2⟩ := hbits k (List.mem_range.mp hk)
      refine ⟨_, bind_nm, ?_⟩
      generalize row.getD k 0 = u at a1 ⊢
      generalize ahead.getD k 0 = v at a2 ⊢
      rw [dCall_, dArgs_cons, dB_, dCmp_, idx_vv rfl rfl a1, Option.bind_some]
      dsimp only
      rw [idx_vv rfl rfl a2, Option.bind_some]
      dsimp only
      rw [neP_int]
      simp only [Option.map_some, Option.bind_some, intP_bool, dArgs_nil]
      by_cases h : u = v <;> simp [h]
  have eu : (List.range long).map (fun (k : Nat) => PyData.int (if row.getD k 0 = ahead.getD k 0 then 0 else 1)) = intsL (unlike long row ahead) := by
    unfold intsL unlike
    rw [List.map_map]
    rfl
  rw [eu] at C
  unfold law_b3
  have hu := unlike_row long row ahead
  have r := runs_of_sem (unlike long row ahead) (by rw [hu.len]; omega)
  rw [seq_nx (ρ1 := (Lr sc d long rows x4 x5 (.pd (.list (intsL row))) x7 x8 x9 x10 x11 x12 x13 x14 (.pd (.int ch)) (.pd (.list (intsL ahead))) (.pd (.list (intsL (unlike long row ahead)))) x18 x19 x20 x21 x22 x23)), seq_nx (ρ1 := (Lr sc d long rows x4 x5 (.pd (.list (intsL row))) x7 x8 x9 x10 x11 x12 x13 x14 (.pd (.int (ch + 2 * ((runsOf (unlike long row ahead)).length : Int)))) (.pd (.list (intsL ahead))) (.pd (.list (intsL (unlike long row ahead)))) x18 x19 x20 x21 x22 x23))]
  · rfl
  · have e : dCallN 1 runs_of_s (dArgs [(dV 17)]) (Lr sc d long rows x4 x5 (.pd (.list (intsL row))) x7 x8 x9 x10 x11 x12 x13 x14 (.pd (.int ch)) (.pd (.list (intsL ahead))) (.pd (.list (intsL (unlike long row ahead)))) x18 x19 x20 x21 x22 x23) = (runs_of_s [.list (intsL (unlike long row ahead))]).map fun z => (z, (Lr sc d long rows x4 x5 (.pd (.list (intsL row))) x7 x8 x9 x10 x11 x12 x13 x14 (.pd (.int ch)) (.pd (.list (intsL ahead))) (.pd (.list (intsL (unlike long row ahead)))) x18 x19 x20 x21 x22 x23)) := rfl
    have e2 : dBin mulP (dC (.int 2)) (dCall lenP (dArgs [(dCallN 1 runs_of_s (dArgs [(dV 17)]))])) (Lr sc d long rows x4 x5 (.pd (.list (intsL row))) x7 x8 x9 x10 x11 x12 x13 x14 (.pd (.int ch)) (.pd (.list (intsL ahead))) (.pd (.list (intsL (unlike long row ahead)))) x18 x19 x20 x21 x22 x23) = some (.int (2 * ((runsOf (unlike long row ahead)).length : Int)), (Lr sc d long rows x4 x5 (.pd (.list (intsL row))) x7 x8 x9 x10 x11 x12 x13 x14 (.pd (.int ch)) (.pd (.list (intsL ahead))) (.pd (.list (intsL (unlike long row ahead)))) x18 x19 x20 x21 x22 x23)) := by
      rw [dBin_, dC_, Option.bind_some]
      dsimp only
      rw [dCall_, dArgs_cons, e, r]
      simp [mulP_two]
    rw [dSet_, dPd_, dBin_]
    show ((((dBin mulP (dC (.int 2)) (dCall lenP (dArgs [(dCallN 1 runs_of_s (dArgs [(dV 17)]))])) (Lr sc d long rows x4 x5 (.pd (.list (intsL row))) x7 x8 x9 x10 x11 x12 x13 x14 (.pd (.int ch)) (.pd (.list (intsL ahead))) (.pd (.list (intsL (unlike long row ahead)))) x18 x19 x20 x21 x22 x23)).bind fun y => (addP (.int ch) y.1).map fun z => (z, y.2)).map _).map _) = _
    rw [e2]
    rfl
  · rw [dSet_, dPd_, dLst_, C]
    rfl
theorem ch_fold (hl : 0 < long) : ∀ (rows : List (List Int)) (c : Int) (ahead : List Int), (∀ r ∈ rows, Row01 long r) → Row01 long ahead →
    ((rows.map runsOf).foldl costStep (c, runsOf ahead)).1 = (rows.foldl (chStep long) (c, ahead)).1
  | [], _, _, _, _ => rfl
  | r :: rs, c, ahead, hr, ha => by
    have h1 := hr r (by simp)
    rw [List.map_cons, List.foldl_cons, List.foldl_cons]
    have e : costStep (c, runsOf ahead) (runsOf r) = (c + 2 * ((runsOf (unlike long r ahead)).length : Int), runsOf r) := by
      unfold costStep changesR
      rw [put_unlike h1 ha]
    rw [e]
    exact ch_fold hl rs _ r (fun y hy => hr y (by simp [hy])) h1
end
end
end HW

namespace HW
open PySem PySem.Spec PyProof.Rows L2
noncomputable section
section
variable {sc d : D} {long : Nat} {rows : List (List Int)} {x4 x5 x6 x7 x8 x9 x10 x11 x12 x13 x14 x15 x16 x17 x18 x19 x20 x21 x22 x23 : D}
theorem b3_loop (hl2 : long ≤ 10) (h4 : isPd x4 = true) : ∀ (rs : List (List Int)) (ch : Int) (ahead : List Int) (x6 x17 : D), (∀ r ∈ rs, Row01 long r) → Row01 long ahead → isPd x6 = true → ∃ y6 y16 y17, isPd y6 = true ∧
    forL (.nm 6) law_b3 (rs.map fun r => .list (intsL r)) (Lr sc d long rows x4 x5 x6 x7 x8 x9 x10 x11 x12 x13 x14 (.pd (.int ch)) (.pd (.list (intsL ahead))) x17 x18 x19 x20 x21 x22 x23) = some (.nx, (Lr sc d long rows x4 x5 (y6) x7 x8 x9 x10 x11 x12 x13 x14 (.pd (.int (rs.foldl (chStep long) (ch, ahead)).1)) (y16) (y17) x18 x19 x20 x21 x22 x23))
  | [], ch, ahead, x6, x17, _, _, h6 => ⟨x6, _, x17, h6, rfl⟩
  | r :: rs, ch, ahead, x6, x17, hr, ha, h6 => by
    have h1 := hr r (by simp)
    have e1 := law_b3_sem (sc := sc) (d := d) (rows := rows) (x4 := x4) (x5 := x5) (x7 := x7) (x8 := x8) (x9 := x9) (x10 := x10) (x11 := x11) (x12 := x12) (x13 := x13) (x14 := x14) (x17 := x17) (x18 := x18) (x19 := x19) (x20 := x20) (x21 := x21) (x22 := x22) (x23 := x23) (ch := ch) hl2 h1 ha h4
    obtain ⟨y6, y16, y17, i6, e2⟩ := b3_loop hl2 h4 rs (ch + 2 * ((runsOf (unlike long r ahead)).length : Int)) r (.pd (.list (intsL r))) (.pd (.list (intsL (unlike long r ahead)))) (fun y hy => hr y (by simp [hy])) h1 rfl
    refine ⟨y6, y16, y17, i6, ?_⟩
    rw [List.map_cons]
    unfold forL
    rw [bind_nm, Option.bind_some]
    show (law_b3 (Lr sc d long rows x4 x5 (.pd (.list (intsL r))) x7 x8 x9 x10 x11 x12 x13 x14 (.pd (.int ch)) (.pd (.list (intsL ahead))) x17 x18 x19 x20 x21 x22 x23)).bind _ = _
    rw [e1, Option.bind_some]
    exact e2
theorem zeros_row (long : Nat) : Row01 long (List.replicate long 0) := ⟨by simp, fun v hv => .inl (List.eq_of_mem_replicate hv)⟩
def chOf (long : Nat) (rows : List (List Int)) : Int := (rows.foldl (chStep long) (0, List.replicate long 0)).1
theorem stH (hl2 : long ≤ 10) (hb : ∀ r ∈ rows, Row01 long r) (h4 : isPd x4 = true) (h6 : isPd x6 = true) : ∃ y6 y16 y17, isPd y6 = true ∧ dFz 3 (dFor (dIt (dV 3)) (.nm 6) law_b3) (Lr sc d long rows x4 x5 x6 x7 x8 x9 x10 x11 x12 x13 x14 (.pd (.int 0)) (.pd (.list (intsL (List.replicate long 0)))) x17 x18 x19 x20 x21 x22 x23) = some (.nx, (Lr sc d long rows x4 x5 (y6) x7 x8 x9 x10 x11 x12 x13 x14 (.pd (.int (chOf long rows))) (y16) (y17) x18 x19 x20 x21 x22 x23)) := by
  obtain ⟨y6, y16, y17, i6, e⟩ := b3_loop (sc := sc) (d := d) (rows := rows) (x4 := x4) (x5 := x5) (x7 := x7) (x8 := x8) (x9 := x9) (x10 := x10) (x11 := x11) (x12 := x12) (x13 := x13) (x14 := x14) (x18 := x18) (x19 := x19) (x20 := x20) (x21 := x21) (x22 := x22) (x23 := x23) hl2 h4 rows 0 (List.replicate long 0) x6 x17 hb (zeros_row long) h6
  exact ⟨y6, y16, y17, i6, e⟩
theorem rngLP_nat {n : Nat} (h : n < 1000000) : rngLP (.int (n : Int)) = some ((List.range n).map fun (i : Nat) => .int (i : Int)) := by
  show (@ite _ _ (Classical.propDecidable _) (some (rngL 0 ((n : Int)).toNat)) none) = _
  rw [if_pos ⟨by omega, by omega⟩]
  show some (rngL 0 n) = _
  rw [rngL_nat]
theorem stI (hl : 0 < long) (hl2 : long ≤ 10) (hb : ∀ r ∈ rows, Row01 long r) (hn : rows.length < 100) : dIfS (dCmp neP (dCallN 2 order_cost_s (dArgs [(dV 9), (dLst (dLR (dCall lenP (dArgs [(dV 9)]))))])) (dV 15)) (dRet (dPd (dC (.bool false)))) dNx (Lr sc d long rows x4 x5 x6 x7 x8 (.pd (.list (encBk (rows.map runsOf)))) x10 x11 x12 x13 x14 (.pd (.int (chOf long rows))) x16 x17 x18 x19 x20 x21 x22 x23) = some (.nx, (Lr sc d long rows x4 x5 x6 x7 x8 (.pd (.list (encBk (rows.map runsOf)))) x10 x11 x12 x13 x14 (.pd (.int (chOf long rows))) x16 x17 x18 x19 x20 x21 x22 x23)) := by
  have o := order_cost_sem (rows.map runsOf) (book_small hl2 hb)
  have hlen : (rows.map runsOf).length = rows.length := by simp
  rw [hlen] at o
  have c := ch_fold hl rows 0 (List.replicate long 0) hb (zeros_row long)
  rw [runsOf_zeros] at c
  rw [c] at o
  have r1 := rngLP_nat (n := rows.length) (by omega)
  have hlen2 : (encBk (rows.map runsOf)).length = rows.length := by simp [encBk]
  have e : dCallN 2 order_cost_s (dArgs [(dV 9), (dLst (dLR (dCall lenP (dArgs [(dV 9)]))))]) (Lr sc d long rows x4 x5 x6 x7 x8 (.pd (.list (encBk (rows.map runsOf)))) x10 x11 x12 x13 x14 (.pd (.int (chOf long rows))) x16 x17 x18 x19 x20 x21 x22 x23) = some (.int (chOf long rows), (Lr sc d long rows x4 x5 x6 x7 x8 (.pd (.list (encBk (rows.map runsOf)))) x10 x11 x12 x13 x14 (.pd (.int (chOf long rows))) x16 x17 x18 x19 x20 x21 x22 x23)) := by
    have e2 : dLR (dCall lenP (dArgs [(dV 9)])) (Lr sc d long rows x4 x5 x6 x7 x8 (.pd (.list (encBk (rows.map runsOf)))) x10 x11 x12 x13 x14 (.pd (.int (chOf long rows))) x16 x17 x18 x19 x20 x21 x22 x23) = (rngLP (.int ((encBk (rows.map runsOf)).length : Int))).map fun z => (z, (Lr sc d long rows x4 x5 x6 x7 x8 (.pd (.list (encBk (rows.map runsOf)))) x10 x11 x12 x13 x14 (.pd (.int (chOf long rows))) x16 x17 x18 x19 x20 x21 x22 x23)) := rfl
    rw [hlen2, r1] at e2
    rw [dCallN_, dArgs_cons]
    show (((dArgs [(dLst (dLR (dCall lenP (dArgs [(dV 9)]))))] (Lr sc d long rows x4 x5 x6 x7 x8 (.pd (.list (encBk (rows.map runsOf)))) x10 x11 x12 x13 x14 (.pd (.int (chOf long rows))) x16 x17 x18 x19 x20 x21 x22 x23)).map _).bind _) = _
    rw [dArgs_cons, dLst_, e2]
    show ((order_cost_s [.list (encBk (rows.map runsOf)), .list ((List.range rows.length).map fun (i : Nat) => .int (i : Int))]).map _) = _
    rw [o]
    rfl
  have e3 : dV 15 (Lr sc d long rows x4 x5 x6 x7 x8 (.pd (.list (encBk (rows.map runsOf)))) x10 x11 x12 x13 x14 (.pd (.int (chOf long rows))) x16 x17 x18 x19 x20 x21 x22 x23) = some (.int (chOf long rows), (Lr sc d long rows x4 x5 x6 x7 x8 (.pd (.list (encBk (rows.map runsOf)))) x10 x11 x12 x13 x14 (.pd (.int (chOf long rows))) x16 x17 x18 x19 x20 x21 x22 x23)) := rfl
  rw [dIfS_, dCmp_, e, Option.bind_some]
  dsimp only
  rw [e3, Option.bind_some]
  dsimp only
  rw [neP_int]
  simp
theorem rh_map (rows : List (List Int)) : encRh (rows.map hs) = rows.map fun r => .list (strsL (hs r)) := by simp [encRh, List.map_map, Function.comp_def]
theorem stJ (hl2 : long ≤ 10) (hb : ∀ r ∈ rows, Row01 long r) (hn : rows.length < 100) (h6 : isPd x6 = true) :
    dFz 3 (dSet 18 (dPd (dLst (dComp (dIt (dV 3)) [6] (.nm 6) dYes (dLst (dComp (dIt (dV 6)) [26] (.nm 26) dYes (dIf (dCmp eqP (dV 26) (dC (.int 1))) (dC (.str "H")) (dC (.str ""))))))))) (Lr sc d long rows x4 x5 x6 x7 x8 x9 x10 x11 x12 x13 x14 x15 x16 x17 x18 x19 x20 x21 x22 x23) = some (.nx, (Lr sc d long rows x4 x5 x6 x7 x8 x9 x10 x11 x12 x13 x14 x15 x16 x17 (.pd (.list (encRh (rows.map hs)))) x19 x20 x21 x22 x23)) := by
  have fz : frzAt (Lr sc d long rows x4 x5 x6 x7 x8 x9 x10 x11 x12 x13 x14 x15 x16 x17 x18 x19 x20 x21 x22 x23) 3 = some (Lr sc d long rows x4 x5 x6 x7 x8 x9 x10 x11 x12 x13 x14 x15 x16 x17 x18 x19 x20 x21 x22 x23) := rfl
  rw [dFz_, fz, Option.bind_some]
  have C := dComp_map (it := dIt (dV 3)) (vs := [6]) (tg := .nm 6) (el := dLst (dComp (dIt (dV 6)) [26] (.nm 26) dYes (dIf (dCmp eqP (dV 26) (dC (.int 1))) (dC (.str "H")) (dC (.str ""))))) (fun r => .list (intsL r)) (fun r => .list (strsL (hs r))) rows (Lr sc d long rows x4 x5 x6 x7 x8 x9 x10 x11 x12 x13 x14 x15 x16 x17 x18 x19 x20 x21 x22 x23) (Lr sc d long rows x4 x5 x6 x7 x8 x9 x10 x11 x12 x13 x14 x15 x16 x17 x18 x19 x20 x21 x22 x23) rfl (by omega) (by simpa [ownOk, Lr] using h6) rfl
    fun r hr => ⟨_, bind_nm, by
      have C2 := dComp_map (it := dIt (dV 6)) (vs := [26]) (tg := .nm 26) (el := dIf (dCmp eqP (dV 26) (dC (.int 1))) (dC (.str "H")) (dC (.str ""))) PyData.int (fun v => .str (hOf v)) r ((wipeR (Lr sc d long rows x4 x5 x6 x7 x8 x9 x10 x11 x12 x13 x14 x15 x16 x17 x18 x19 x20 x21 x22 x23) [6]).set 6 (.pd (.list (intsL r)))) ((wipeR (Lr sc d long rows x4 x5 x6 x7 x8 x9 x10 x11 x12 x13 x14 x15 x16 x17 x18 x19 x20 x21 x22 x23) [6]).set 6 (.pd (.list (intsL r)))) rfl (by rw [(hb r hr).len]; omega) rfl rfl
        fun v hv => ⟨_, bind_nm, by
          rw [dIf_, dCmp_]
          show (((eqP (.int v) (.int 1)).map fun z => (z, _)).bind _) = _
          rw [eqP_int]
          by_cases h : v = 1
          · subst h; rfl
          · simp [h, hOf]⟩
      rw [dLst_, C2]
      simp [strsL, hs]⟩
  rw [dSet_, dPd_, dLst_, C, ← rh_map]
  rfl
end
end
end HW

namespace HW
open PySem PySem.Spec PyProof.Rows L2
noncomputable section
section
variable {sc d : D} {long : Nat} {rows : List (List Int)} {x4 x5 x6 x7 x8 x9 x10 x11 x12 x13 x14 x15 x16 x17 x18 x19 x20 x21 x22 x23 : D}
theorem getA_pd {ρ : Sl} {i : Nat} {k : Int} {p : P} (h3 : ρ[3]? = some (.pd (.list (encRows rows)))) (hi : ρ[i]? = some (.pd (.int k))) (a : atI (encRows rows) k = some p) : dGetA 3 (dV i) ρ = some (p, ρ) := by
  rw [dGetA_, h3]
  exact idx_vv h3 hi a
theorem row_at {i : Nat} {a : List Int} (h : rows[i]? = some a) : atI (encRows rows) (i : Int) = some (.list (intsL a)) := atI_natP (by simp [encRows, h])
theorem st7_in {ρ : Sl} {i s : Nat} {a : List Int} (hl : 0 < long) (hl2 : long ≤ 10) (h : rows[i]? = some a) (ha : Row01 long a) (e2 : ρ[2]? = some (.pd (.int (long : Int)))) (e3 : ρ[3]? = some (.pd (.list (encRows rows)))) (e19 : ρ[19]? = some (.pd (.int (i : Int)))) (e27 : ρ[27]? = some (.pd (.int (s : Int)))) (e4 : ownOk ρ [4] = true) (h4 : 4 < ρ.length) :
    dComp (dItA rng1P (dArgs [(dV 2)])) [4] (.nm 4) dYes (dBin idxP (dGetA 3 (dV 19)) (dBin modP (dBin subP (dV 4) (dV 27)) (dV 2))) ρ = some (intsL (shiftRow a long s), ρ) := by
  have r1 := rng1P_nat long (by omega)
  have C := dComp_map (it := dItA rng1P (dArgs [(dV 2)])) (vs := [4]) (tg := .nm 4) (el := dBin idxP (dGetA 3 (dV 19)) (dBin modP (dBin subP (dV 4) (dV 27)) (dV 2))) (fun i : Nat => .int (i : Int)) (fun (k : Nat) => .int (a.getD (((k : Int) - s) % long).toNat 0)) (List.range long) ρ ρ (by simp [e2, r1]) (by simp; omega) e4 rfl fun k hk => by
      have m := modP_pos (i := ((k : Int) - s)) (j := (long : Int)) (by omega)
      have hz := getD_mod hl k s
      have h0 := Int.emod_nonneg ((k : Int) - s) (by omega : (long : Int) ≠ 0)
      obtain ⟨z, hz1⟩ := Int.eq_ofNat_of_zero_le h0
      rw [hz1] at m hz ⊢
      have hz2 : z < a.length := by rw [ha.len]; simpa using hz
      have aa : atI (intsL a) (z : Int) = some (.int (a.getD z 0)) := atI_natP (by simp [intsL, List.getD, hz2])
      have look : ∀ q, q ≠ 4 → ((wipeR ρ [4]).set 4 (.pd (.int (k : Int))))[q]? = ρ[q]? := fun q hq => by simp [wipeR, Ne.symm hq]
      have l4 : ((wipeR ρ [4]).set 4 (.pd (.int (k : Int))))[4]? = some (.pd (.int (k : Int))) := by simp [wipeR, h4]
      have g := getA_pd (ρ := (wipeR ρ [4]).set 4 (.pd (.int (k : Int)))) (i := 19) (by rw [look 3 (by decide)]; exact e3) (by rw [look 19 (by decide)]; exact e19) (row_at h)
      have e27' : ((wipeR ρ [4]).set 4 (.pd (.int (k : Int))))[27]? = some (.pd (.int (s : Int))) := by rw [look 27 (by decide)]; exact e27
      have e2' : ((wipeR ρ [4]).set 4 (.pd (.int (k : Int))))[2]? = some (.pd (.int (long : Int))) := by rw [look 2 (by decide)]; exact e2
      refine ⟨_, bind_nm, ?_⟩
      rw [dBin_, g, Option.bind_some]
      dsimp only
      generalize (wipeR ρ [4]).set 4 (.pd (.int (k : Int))) = ρk at *
      simp only [dBin_, dV_, l4, e27', e2', Option.bind_some, subP_int, Option.map_some, m, idxP_list, aa, Int.toNat_natCast]
  rw [C]
  simp [shiftRow, intsL]
theorem st7 {i j : Nat} {a b : List Int} (hl : 0 < long) (hl2 : long ≤ 10) (hi : rows[i]? = some a) (hj : rows[j]? = some b) (ha : Row01 long a) (h4 : isPd x4 = true) :
    dSet 7 (dPd (dLst (dComp (dItA rng1P (dArgs [(dV 2)])) [27] (.nm 27) (dCmp eqP (dLst (dComp (dItA rng1P (dArgs [(dV 2)])) [4] (.nm 4) dYes (dBin idxP (dGetA 3 (dV 19)) (dBin modP (dBin subP (dV 4) (dV 27)) (dV 2))))) (dGetA 3 (dV 21))) (dV 27)))) (Lr sc d long rows x4 x5 x6 x7 x8 (.pd (.list (encBk (rows.map runsOf)))) x10 x11 x12 x13 x14 x15 x16 x17 (.pd (.list (encRh (rows.map hs)))) (.pd (.int (i : Int))) x20 (.pd (.int (j : Int))) x22 x23) = some (.nx, (Lr sc d long rows x4 x5 x6 (.pd (.list (((List.range long).filter fun s => decide (shiftRow a long s = b)).map fun i : Nat => .int (i : Int)))) x8 (.pd (.list (encBk (rows.map runsOf)))) x10 x11 x12 x13 x14 x15 x16 x17 (.pd (.list (encRh (rows.map hs)))) (.pd (.int (i : Int))) x20 (.pd (.int (j : Int))) x22 x23)) := by
  have r1 := rng1P_nat long (by omega)
  have C := dComp_pure (it := dItA rng1P (dArgs [(dV 2)])) (vs := [27]) (tg := .nm 27) (cnd := dCmp eqP (dLst (dComp (dItA rng1P (dArgs [(dV 2)])) [4] (.nm 4) dYes (dBin idxP (dGetA 3 (dV 19)) (dBin modP (dBin subP (dV 4) (dV 27)) (dV 2))))) (dGetA 3 (dV 21))) (el := dV 27) (fun i : Nat => .int (i : Int)) (fun s => decide (shiftRow a long s = b)) (fun i : Nat => .int (i : Int)) (List.range long) (Lr sc d long rows x4 x5 x6 x7 x8 (.pd (.list (encBk (rows.map runsOf)))) x10 x11 x12 x13 x14 x15 x16 x17 (.pd (.list (encRh (rows.map hs)))) (.pd (.int (i : Int))) x20 (.pd (.int (j : Int))) x22 x23) (Lr sc d long rows x4 x5 x6 x7 x8 (.pd (.list (encBk (rows.map runsOf)))) x10 x11 x12 x13 x14 x15 x16 x17 (.pd (.list (encRh (rows.map hs)))) (.pd (.int (i : Int))) x20 (.pd (.int (j : Int))) x22 x23) (by
      show (rng1P [.int (long : Int)]).map _ = _
      rw [r1]
      rfl) (by simp; omega) rfl rfl fun s _ => ⟨_, bind_nm, by
        have q := st7_in (rows := rows) (ρ := (wipeR (Lr sc d long rows x4 x5 x6 x7 x8 (.pd (.list (encBk (rows.map runsOf)))) x10 x11 x12 x13 x14 x15 x16 x17 (.pd (.list (encRh (rows.map hs)))) (.pd (.int (i : Int))) x20 (.pd (.int (j : Int))) x22 x23) [27]).set 27 (.pd (.int (s : Int)))) (s := s) hl hl2 hi ha rfl rfl rfl rfl (by simpa [ownOk, Lr, wipeR] using h4) (by simp [Lr, wipeR])
        have g := getA_pd (rows := rows) (ρ := (wipeR (Lr sc d long rows x4 x5 x6 x7 x8 (.pd (.list (encBk (rows.map runsOf)))) x10 x11 x12 x13 x14 x15 x16 x17 (.pd (.list (encRh (rows.map hs)))) (.pd (.int (i : Int))) x20 (.pd (.int (j : Int))) x22 x23) [27]).set 27 (.pd (.int (s : Int)))) (i := 21) rfl rfl (row_at hj)
        rw [dCmp_, dLst_, q, Option.map_some, Option.bind_some]
        dsimp only
        rw [g, Option.bind_some]
        dsimp only
        rw [eqP_ints]
        rfl, fun _ => rfl⟩
  rw [dSet_, dPd_, dLst_, C]
  rfl
theorem find_head (p : Nat → Bool) : ∀ xs : List Nat, xs.find? p = (xs.filter p).head?
  | [] => rfl
  | x :: xs => by
    rw [List.find?_cons, List.filter_cons]
    cases p x with
    | true => rfl
    | false => simpa using find_head p xs
theorem st22 {i j : Nat} {a b : List Int} (hl : 0 < long) (hl2 : long ≤ 10) (hi : rows[i]? = some a) (hj : rows[j]? = some b) (ha : Row01 long a) (hb : Row01 long b) :
    dSet 22 (dPd (dCallN 3 alike_s (dArgs [(dBin idxP (dV 9) (dV 19)), (dBin idxP (dV 9) (dV 21)), (dV 2)]))) (Lr sc d long rows x4 x5 x6 x7 x8 (.pd (.list (encBk (rows.map runsOf)))) x10 x11 x12 x13 x14 x15 x16 x17 (.pd (.list (encRh (rows.map hs)))) (.pd (.int (i : Int))) x20 (.pd (.int (j : Int))) x22 x23) = some (.nx, (Lr sc d long rows x4 x5 x6 x7 x8 (.pd (.list (encBk (rows.map runsOf)))) x10 x11 x12 x13 x14 x15 x16 x17 (.pd (.list (encRh (rows.map hs)))) (.pd (.int (i : Int))) x20 (.pd (.int (j : Int))) (.pd (encO ((alikeR (runsOf a) (runsOf b) long).map fun n : Nat => (n : Int)))) x23)) := by
  have t : alike_s [.list (encRs (runsOf a)), .list (encRs (runsOf b)), .int long] = some (encO ((alikeR (runsOf a) (runsOf b) long).map fun n : Nat => (n : Int))) := by
    rw [alike_sem (runsOf a) (runsOf b) long hl (by omega) (run_small ha hl2) (run_small hb hl2)]
    cases alikeR (runsOf a) (runsOf b) long <;> rfl
  have ai : atI (encBk (rows.map runsOf)) (i : Int) = some (.list (encRs (runsOf a))) := atI_natP (by simp [encBk, hi])
  have aj : atI (encBk (rows.map runsOf)) (j : Int) = some (.list (encRs (runsOf b))) := atI_natP (by simp [encBk, hj])
  rw [dSet_, dPd_, dCallN_, dArgs_cons, idx_vv rfl rfl ai, Option.bind_some]
  dsimp only
  rw [dArgs_cons, idx_vv rfl rfl aj, Option.bind_some]
  show ((((alike_s [.list (encRs (runsOf a)), .list (encRs (runsOf b)), .int long]).map _).map _).map _) = _
  rw [t]
  rfl
theorem st23 {i j : Nat} {a b : List Int} (hl2 : long ≤ 10) (hi : rows[i]? = some a) (hj : rows[j]? = some b) (ha : Row01 long a) (hb : Row01 long b) :
    dSet 23 (dPd (dCallN 2 same_but_for_begin_s (dArgs [(dBin idxP (dV 18) (dV 21)), (dBin idxP (dV 18) (dV 19))]))) (Lr sc d long rows x4 x5 x6 x7 x8 (.pd (.list (encBk (rows.map runsOf)))) x10 x11 x12 x13 x14 x15 x16 x17 (.pd (.list (encRh (rows.map hs)))) (.pd (.int (i : Int))) x20 (.pd (.int (j : Int))) x22 x23) = some (.nx, (Lr sc d long rows x4 x5 x6 x7 x8 (.pd (.list (encBk (rows.map runsOf)))) x10 x11 x12 x13 x14 x15 x16 x17 (.pd (.list (encRh (rows.map hs)))) (.pd (.int (i : Int))) x20 (.pd (.int (j : Int))) x22 (.pd (encO ((sbfb (hs b) (hs a)).map fun n : Nat => (n : Int)))))) := by
  have t : same_but_for_begin_s [.list (strsL (hs b)), .list (strsL (hs a))] = some (encO ((sbfb (hs b) (hs a)).map fun n : Nat => (n : Int))) := by
    rw [same_but_for_begin_sem (hs b) (hs a) (by rw [hs_len, hb.len]; omega) (by rw [hs_len, ha.len]; omega)]
    cases sbfb (hs b) (hs a) <;> rfl
  have ai : atI (encRh (rows.map hs)) (i : Int) = some (.list (strsL (hs a))) := atI_natP (by simp [encRh, hi])
  have aj : atI (encRh (rows.map hs)) (j : Int) = some (.list (strsL (hs b))) := atI_natP (by simp [encRh, hj])
  rw [dSet_, dPd_, dCallN_, dArgs_cons, idx_vv rfl rfl aj, Option.bind_some]
  dsimp only
  rw [dArgs_cons, idx_vv rfl rfl ai, Option.bind_some]
  show ((((same_but_for_begin_s [.list (strsL (hs b)), .list (strsL (hs a))]).map _).map _).map _) = _
  rw [t]
  rfl
end
end
end HW

namespace HW
open PySem PySem.Spec PyProof.Rows L2
noncomputable section
section
variable {sc d : D} {long : Nat} {rows : List (List Int)} {x4 x5 x6 x7 x8 x9 x10 x11 x12 x13 x14 x15 x16 x17 x18 x19 x20 x21 x22 x23 : D}
theorem neP_encO (x : Option Nat) : neP (encO (x.map fun n : Nat => (n : Int))) (encO (x.map fun n : Nat => (n : Int))) = some false := by
  cases x with
  | none => exact neP_refl rfl (by simp [encO])
  | some n => exact neP_refl rfl (by simp [encO])
theorem neP_bool (x : Bool) : neP (.bool x) (.bool x) = some false := neP_refl rfl (by simp)
section
variable {i j : Nat} {a b : List Int}
theorem b4_told (ha : Row01 long a) (hb : Row01 long b) (hl : 0 < long) : ((List.range long).filter fun s => decide (shiftRow a long s = b)).head? = alikeR (runsOf a) (runsOf b) long := by
  rw [alike_is hl ha hb, find_head]
theorem b4_c1 (hl : 0 < long) (ha : Row01 long a) (hb : Row01 long b) : dCmp neP (dV 22) (dIf (dCmp gtP (dCall lenP (dArgs [(dV 7)])) (dC (.int 0))) (dBin idxP (dV 7) (dC (.int 0))) (dC .none)) (Lr sc d long rows x4 x5 x6 (.pd (.list (((List.range long).filter fun s => decide (shiftRow a long s = b)).map fun i : Nat => .int (i : Int)))) x8 (.pd (.list (encBk (rows.map runsOf)))) x10 x11 x12 x13 x14 x15 x16 x17 (.pd (.list (encRh (rows.map hs)))) (.pd (.int (i : Int))) x20 (.pd (.int (j : Int))) (.pd (encO ((alikeR (runsOf a) (runsOf b) long).map fun n : Nat => (n : Int)))) (.pd (encO ((sbfb (hs b) (hs a)).map fun n : Nat => (n : Int))))) = some (false, (Lr sc d long rows x4 x5 x6 (.pd (.list (((List.range long).filter fun s => decide (shiftRow a long s = b)).map fun i : Nat => .int (i : Int)))) x8 (.pd (.list (encBk (rows.map runsOf)))) x10 x11 x12 x13 x14 x15 x16 x17 (.pd (.list (encRh (rows.map hs)))) (.pd (.int (i : Int))) x20 (.pd (.int (j : Int))) (.pd (encO ((alikeR (runsOf a) (runsOf b) long).map fun n : Nat => (n : Int)))) (.pd (encO ((sbfb (hs b) (hs a)).map fun n : Nat => (n : Int)))))) := by
  have e1 : dIf (dCmp gtP (dCall lenP (dArgs [(dV 7)])) (dC (.int 0))) (dBin idxP (dV 7) (dC (.int 0))) (dC .none) (Lr sc d long rows x4 x5 x6 (.pd (.list (((List.range long).filter fun s => decide (shiftRow a long s = b)).map fun i : Nat => .int (i : Int)))) x8 (.pd (.list (encBk (rows.map runsOf)))) x10 x11 x12 x13 x14 x15 x16 x17 (.pd (.list (encRh (rows.map hs)))) (.pd (.int (i : Int))) x20 (.pd (.int (j : Int))) (.pd (encO ((alikeR (runsOf a) (runsOf b) long).map fun n : Nat => (n : Int)))) (.pd (encO ((sbfb (hs b) (hs a)).map fun n : Nat => (n : Int))))) = some (encO ((alikeR (runsOf a) (runsOf b) long).map fun n : Nat => (n : Int)), (Lr sc d long rows x4 x5 x6 (.pd (.list (((List.range long).filter fun s => decide (shiftRow a long s = b)).map fun i : Nat => .int (i : Int)))) x8 (.pd (.list (encBk (rows.map runsOf)))) x10 x11 x12 x13 x14 x15 x16 x17 (.pd (.list (encRh (rows.map hs)))) (.pd (.int (i : Int))) x20 (.pd (.int (j : Int))) (.pd (encO ((alikeR (runsOf a) (runsOf b) long).map fun n : Nat => (n : Int)))) (.pd (encO ((sbfb (hs b) (hs a)).map fun n : Nat => (n : Int)))))) := by
    rw [← b4_told ha hb hl]
    generalize (List.range long).filter (fun s => decide (shiftRow a long s = b)) = fs
    have e2 : dCmp gtP (dCall lenP (dArgs [(dV 7)])) (dC (.int 0)) (Lr sc d long rows x4 x5 x6 (.pd (.list (fs.map fun i : Nat => .int (i : Int)))) x8 (.pd (.list (encBk (rows.map runsOf)))) x10 x11 x12 x13 x14 x15 x16 x17 (.pd (.list (encRh (rows.map hs)))) (.pd (.int (i : Int))) x20 (.pd (.int (j : Int))) (.pd (encO ((fs.head?).map fun n : Nat => (n : Int)))) (.pd (encO ((sbfb (hs b) (hs a)).map fun n : Nat => (n : Int))))) = some (decide ((0 : Int) < ((fs.map fun i : Nat => PyData.int (i : Int)).length : Int)), (Lr sc d long rows x4 x5 x6 (.pd (.list (fs.map fun i : Nat => .int (i : Int)))) x8 (.pd (.list (encBk (rows.map runsOf)))) x10 x11 x12 x13 x14 x15 x16 x17 (.pd (.list (encRh (rows.map hs)))) (.pd (.int (i : Int))) x20 (.pd (.int (j : Int))) (.pd (encO ((fs.head?).map fun n : Nat => (n : Int)))) (.pd (encO ((sbfb (hs b) (hs a)).map fun n : Nat => (n : Int)))))) := rfl
    rw [dIf_, e2, Option.bind_some]
    cases fs with
    | nil => rfl
    | cons f fs =>
      dsimp only
      rw [if_pos (by simp)]
      have a0 : atI ((f :: fs).map fun i : Nat => PyData.int (i : Int)) 0 = some (.int (f : Int)) := atI_zero _ _
      show (atI ((f :: fs).map fun i : Nat => PyData.int (i : Int)) 0).map (fun z => (z, (Lr sc d long rows x4 x5 x6 (.pd (.list ((f :: fs).map fun i : Nat => .int (i : Int)))) x8 (.pd (.list (encBk (rows.map runsOf)))) x10 x11 x12 x13 x14 x15 x16 x17 (.pd (.list (encRh (rows.map hs)))) (.pd (.int (i : Int))) x20 (.pd (.int (j : Int))) (.pd (encO (((f :: fs).head?).map fun n : Nat => (n : Int)))) (.pd (encO ((sbfb (hs b) (hs a)).map fun n : Nat => (n : Int))))))) = _
      rw [a0]
      rfl
  have e3 : dV 22 (Lr sc d long rows x4 x5 x6 (.pd (.list (((List.range long).filter fun s => decide (shiftRow a long s = b)).map fun i : Nat => .int (i : Int)))) x8 (.pd (.list (encBk (rows.map runsOf)))) x10 x11 x12 x13 x14 x15 x16 x17 (.pd (.list (encRh (rows.map hs)))) (.pd (.int (i : Int))) x20 (.pd (.int (j : Int))) (.pd (encO ((alikeR (runsOf a) (runsOf b) long).map fun n : Nat => (n : Int)))) (.pd (encO ((sbfb (hs b) (hs a)).map fun n : Nat => (n : Int))))) = some (encO ((alikeR (runsOf a) (runsOf b) long).map fun n : Nat => (n : Int)), (Lr sc d long rows x4 x5 x6 (.pd (.list (((List.range long).filter fun s => decide (shiftRow a long s = b)).map fun i : Nat => .int (i : Int)))) x8 (.pd (.list (encBk (rows.map runsOf)))) x10 x11 x12 x13 x14 x15 x16 x17 (.pd (.list (encRh (rows.map hs)))) (.pd (.int (i : Int))) x20 (.pd (.int (j : Int))) (.pd (encO ((alikeR (runsOf a) (runsOf b) long).map fun n : Nat => (n : Int)))) (.pd (encO ((sbfb (hs b) (hs a)).map fun n : Nat => (n : Int)))))) := rfl
  rw [dCmp_, e3, Option.bind_some]
  dsimp only
  rw [e1, Option.bind_some]
  dsimp only
  rw [neP_encO]
  rfl
theorem b4_c2 (hl : 0 < long) (ha : Row01 long a) (hb : Row01 long b) : dCmp neP (dB (dIsN (dV 23))) (dB (dIsN (dV 22))) (Lr sc d long rows x4 x5 x6 (.pd (.list (((List.range long).filter fun s => decide (shiftRow a long s = b)).map fun i : Nat => .int (i : Int)))) x8 (.pd (.list (encBk (rows.map runsOf)))) x10 x11 x12 x13 x14 x15 x16 x17 (.pd (.list (encRh (rows.map hs)))) (.pd (.int (i : Int))) x20 (.pd (.int (j : Int))) (.pd (encO ((alikeR (runsOf a) (runsOf b) long).map fun n : Nat => (n : Int)))) (.pd (encO ((sbfb (hs b) (hs a)).map fun n : Nat => (n : Int))))) = some (false, (Lr sc d long rows x4 x5 x6 (.pd (.list (((List.range long).filter fun s => decide (shiftRow a long s = b)).map fun i : Nat => .int (i : Int)))) x8 (.pd (.list (encBk (rows.map runsOf)))) x10 x11 x12 x13 x14 x15 x16 x17 (.pd (.list (encRh (rows.map hs)))) (.pd (.int (i : Int))) x20 (.pd (.int (j : Int))) (.pd (encO ((alikeR (runsOf a) (runsOf b) long).map fun n : Nat => (n : Int)))) (.pd (encO ((sbfb (hs b) (hs a)).map fun n : Nat => (n : Int)))))) := by
  have q := alike_none hl ha hb
  have e1 : dB (dIsN (dV 23)) (Lr sc d long rows x4 x5 x6 (.pd (.list (((List.range long).filter fun s => decide (shiftRow a long s = b)).map fun i : Nat => .int (i : Int)))) x8 (.pd (.list (encBk (rows.map runsOf)))) x10 x11 x12 x13 x14 x15 x16 x17 (.pd (.list (encRh (rows.map hs)))) (.pd (.int (i : Int))) x20 (.pd (.int (j : Int))) (.pd (encO ((alikeR (runsOf a) (runsOf b) long).map fun n : Nat => (n : Int)))) (.pd (encO ((sbfb (hs b) (hs a)).map fun n : Nat => (n : Int))))) = some (.bool (isNP (encO ((sbfb (hs b) (hs a)).map fun n : Nat => (n : Int)))), (Lr sc d long rows x4 x5 x6 (.pd (.list (((List.range long).filter fun s => decide (shiftRow a long s = b)).map fun i : Nat => .int (i : Int)))) x8 (.pd (.list (encBk (rows.map runsOf)))) x10 x11 x12 x13 x14 x15 x16 x17 (.pd (.list (encRh (rows.map hs)))) (.pd (.int (i : Int))) x20 (.pd (.int (j : Int))) (.pd (encO ((alikeR (runsOf a) (runsOf b) long).map fun n : Nat => (n : Int)))) (.pd (encO ((sbfb (hs b) (hs a)).map fun n : Nat => (n : Int)))))) := rfl
  have e2 : dB (dIsN (dV 22)) (Lr sc d long rows x4 x5 x6 (.pd (.list (((List.range long).filter fun s => decide (shiftRow a long s = b)).map fun i : Nat => .int (i : Int)))) x8 (.pd (.list (encBk (rows.map runsOf)))) x10 x11 x12 x13 x14 x15 x16 x17 (.pd (.list (encRh (rows.map hs)))) (.pd (.int (i : Int))) x20 (.pd (.int (j : Int))) (.pd (encO ((alikeR (runsOf a) (runsOf b) long).map fun n : Nat => (n : Int)))) (.pd (encO ((sbfb (hs b) (hs a)).map fun n : Nat => (n : Int))))) = some (.bool (isNP (encO ((alikeR (runsOf a) (runsOf b) long).map fun n : Nat => (n : Int)))), (Lr sc d long rows x4 x5 x6 (.pd (.list (((List.range long).filter fun s => decide (shiftRow a long s = b)).map fun i : Nat => .int (i : Int)))) x8 (.pd (.list (encBk (rows.map runsOf)))) x10 x11 x12 x13 x14 x15 x16 x17 (.pd (.list (encRh (rows.map hs)))) (.pd (.int (i : Int))) x20 (.pd (.int (j : Int))) (.pd (encO ((alikeR (runsOf a) (runsOf b) long).map fun n : Nat => (n : Int)))) (.pd (encO ((sbfb (hs b) (hs a)).map fun n : Nat => (n : Int)))))) := rfl
  have e3 : isNP (encO ((sbfb (hs b) (hs a)).map fun n : Nat => (n : Int))) = isNP (encO ((alikeR (runsOf a) (runsOf b) long).map fun n : Nat => (n : Int))) := by
    rw [isN_encO, isN_encO, Option.isNone_map, Option.isNone_map, q]
  rw [e3] at e1
  rw [dCmp_, e1, Option.bind_some]
  dsimp only
  rw [e2, Option.bind_some]
  dsimp only
  rw [neP_bool]
  rfl
theorem b4_c3 (hl : 0 < long) (hl2 : long ≤ 10) (hi : rows[i]? = some a) (hj : rows[j]? = some b) (ha : Row01 long a) (hb : Row01 long b) : dAnd (dNot (dIsN (dV 22))) (dCmp neP (dCallN 3 turned1_s (dArgs [(dBin idxP (dV 9) (dV 19)), (dV 22), (dV 2)])) (dBin idxP (dV 9) (dV 21))) (Lr sc d long rows x4 x5 x6 (.pd (.list (((List.range long).filter fun s => decide (shiftRow a long s = b)).map fun i : Nat => .int (i : Int)))) x8 (.pd (.list (encBk (rows.map runsOf)))) x10 x11 x12 x13 x14 x15 x16 x17 (.pd (.list (encRh (rows.map hs)))) (.pd (.int (i : Int))) x20 (.pd (.int (j : Int))) (.pd (encO ((alikeR (runsOf a) (runsOf b) long).map fun n : Nat => (n : Int)))) (.pd (encO ((sbfb (hs b) (hs a)).map fun n : Nat => (n : Int))))) = some (false, (Lr sc d long rows x4 x5 x6 (.pd (.list (((List.range long).filter fun s => decide (shiftRow a long s = b)).map fun i : Nat => .int (i : Int)))) x8 (.pd (.list (encBk (rows.map runsOf)))) x10 x11 x12 x13 x14 x15 x16 x17 (.pd (.list (encRh (rows.map hs)))) (.pd (.int (i : Int))) x20 (.pd (.int (j : Int))) (.pd (encO ((alikeR (runsOf a) (runsOf b) long).map fun n : Nat => (n : Int)))) (.pd (encO ((sbfb (hs b) (hs a)).map fun n : Nat => (n : Int)))))) := by
  have e2 : dNot (dIsN (dV 22)) (Lr sc d long rows x4 x5 x6 (.pd (.list (((List.range long).filter fun s => decide (shiftRow a long s = b)).map fun i : Nat => .int (i : Int)))) x8 (.pd (.list (encBk (rows.map runsOf)))) x10 x11 x12 x13 x14 x15 x16 x17 (.pd (.list (encRh (rows.map hs)))) (.pd (.int (i : Int))) x20 (.pd (.int (j : Int))) (.pd (encO ((alikeR (runsOf a) (runsOf b) long).map fun n : Nat => (n : Int)))) (.pd (encO ((sbfb (hs b) (hs a)).map fun n : Nat => (n : Int))))) = some (!isNP (encO ((alikeR (runsOf a) (runsOf b) long).map fun n : Nat => (n : Int))), (Lr sc d long rows x4 x5 x6 (.pd (.list (((List.range long).filter fun s => decide (shiftRow a long s = b)).map fun i : Nat => .int (i : Int)))) x8 (.pd (.list (encBk (rows.map runsOf)))) x10 x11 x12 x13 x14 x15 x16 x17 (.pd (.list (encRh (rows.map hs)))) (.pd (.int (i : Int))) x20 (.pd (.int (j : Int))) (.pd (encO ((alikeR (runsOf a) (runsOf b) long).map fun n : Nat => (n : Int)))) (.pd (encO ((sbfb (hs b) (hs a)).map fun n : Nat => (n : Int)))))) := rfl
  rw [dAnd_, e2, Option.bind_some]
  dsimp only
  rw [isN_encO, Option.isNone_map]
  cases e : alikeR (runsOf a) (runsOf b) long with
  | none => rfl
  | some t =>
    have et : shiftRow a long t = b := by
      rw [alike_is hl ha hb] at e
      have := List.find?_some e
      simpa using this
    have tt := turned1_sem (runsOf a) (t : Int) (long : Int) (by omega) (run_small ha hl2)
    rw [turned_shift hl ha, et] at tt
    have ai : atI (encBk (rows.map runsOf)) (i : Int) = some (.list (encRs (runsOf a))) := atI_natP (by simp [encBk, hi])
    have aj : atI (encBk (rows.map runsOf)) (j : Int) = some (.list (encRs (runsOf b))) := atI_natP (by simp [encBk, hj])
    have eT : dCallN 3 turned1_s (dArgs [(dBin idxP (dV 9) (dV 19)), (dV 22), (dV 2)]) (Lr sc d long rows x4 x5 x6 (.pd (.list (((List.range long).filter fun s => decide (shiftRow a long s = b)).map fun i : Nat => .int (i : Int)))) x8 (.pd (.list (encBk (rows.map runsOf)))) x10 x11 x12 x13 x14 x15 x16 x17 (.pd (.list (encRh (rows.map hs)))) (.pd (.int (i : Int))) x20 (.pd (.int (j : Int))) (.pd (encO ((some t).map fun n : Nat => (n : Int)))) (.pd (encO ((sbfb (hs b) (hs a)).map fun n : Nat => (n : Int))))) = some (.list (encRs (runsOf b)), (Lr sc d long rows x4 x5 x6 (.pd (.list (((List.range long).filter fun s => decide (shiftRow a long s = b)).map fun i : Nat => .int (i : Int)))) x8 (.pd (.list (encBk (rows.map runsOf)))) x10 x11 x12 x13 x14 x15 x16 x17 (.pd (.list (encRh (rows.map hs)))) (.pd (.int (i : Int))) x20 (.pd (.int (j : Int))) (.pd (encO ((some t).map fun n : Nat => (n : Int)))) (.pd (encO ((sbfb (hs b) (hs a)).map fun n : Nat => (n : Int)))))) := by
      rw [dCallN_, dArgs_cons, idx_vv rfl rfl ai, Option.bind_some]
      show ((turned1_s [.list (encRs (runsOf a)), .int (t : Int), .int (long : Int)]).map _) = _
      rw [tt]
      rfl
    rw [if_pos (show (!(some t).isNone) = true from rfl), dCmp_, eT, Option.bind_some]
    dsimp only
    rw [idx_vv rfl rfl aj, Option.bind_some]
    dsimp only
    rw [neP_refl (by simp only [plainP]; exact plain_map _ (fun _ => rfl) _) (by have := depth_Rs (runsOf b); omega)]
    rfl
theorem hs_row (a : List Int) (ha : Row01 long a) : (List.range long).map (fun k => PyData.str ((hs a).getD k "")) = strsL (hs a) := by
  apply List.ext_getElem?
  intro k
  unfold strsL
  rw [List.getElem?_map, List.getElem?_map]
  by_cases hk : k < long
  · have h2 : k < (hs a).length := by rw [hs_len, ha.len]; exact hk
    simp [hk, List.getElem?_eq_getElem h2, List.getD]
  · have h2 : ¬ k < (hs a).length := by rw [hs_len, ha.len]; exact hk
    rw [List.getElem?_eq_none (by simp; omega), List.getElem?_eq_none (by omega)]
    rfl
theorem b4_comp {t : Nat} (hl : 0 < long) (hl2 : long ≤ 10) (hj : rows[j]? = some b) (ha : Row01 long a) (hb : Row01 long b) (hm : Meets0 long a b t) (h4 : isPd x4 = true) : dComp (dItA rng1P (dArgs [(dV 2)])) [4] (.nm 4) dYes (dBin idxP (dBin idxP (dV 18) (dV 21)) (dBin modP (dBin addP (dV 23) (dV 4)) (dV 2))) (Lr sc d long rows x4 x5 x6 (.pd (.list (((List.range long).filter fun s => decide (shiftRow a long s = b)).map fun i : Nat => .int (i : Int)))) x8 (.pd (.list (encBk (rows.map runsOf)))) x10 x11 x12 x13 x14 x15 x16 x17 (.pd (.list (encRh (rows.map hs)))) (.pd (.int (i : Int))) x20 (.pd (.int (j : Int))) (.pd (encO ((alikeR (runsOf a) (runsOf b) long).map fun n : Nat => (n : Int)))) (.pd (encO ((some t).map fun n : Nat => (n : Int))))) = some (strsL (hs a), (Lr sc d long rows x4 x5 x6 (.pd (.list (((List.range long).filter fun s => decide (shiftRow a long s = b)).map fun i : Nat => .int (i : Int)))) x8 (.pd (.list (encBk (rows.map runsOf)))) x10 x11 x12 x13 x14 x15 x16 x17 (.pd (.list (encRh (rows.map hs)))) (.pd (.int (i : Int))) x20 (.pd (.int (j : Int))) (.pd (encO ((alikeR (runsOf a) (runsOf b) long).map fun n : Nat => (n : Int)))) (.pd (encO ((some t).map fun n : Nat => (n : Int)))))) := by
  have r1 := rng1P_nat long (by omega)
  have C := dComp_map (it := dItA rng1P (dArgs [(dV 2)])) (vs := [4]) (tg := .nm 4) (el := dBin idxP (dBin idxP (dV 18) (dV 21)) (dBin modP (dBin addP (dV 23) (dV 4)) (dV 2))) (fun i : Nat => .int (i : Int)) (fun k => .str ((hs a).getD k "")) (List.range long) (Lr sc d long rows x4 x5 x6 (.pd (.list (((List.range long).filter fun s => decide (shiftRow a long s = b)).map fun i : Nat => .int (i : Int)))) x8 (.pd (.list (encBk (rows.map runsOf)))) x10 x11 x12 x13 x14 x15 x16 x17 (.pd (.list (encRh (rows.map hs)))) (.pd (.int (i : Int))) x20 (.pd (.int (j : Int))) (.pd (encO ((alikeR (runsOf a) (runsOf b) long).map fun n : Nat => (n : Int)))) (.pd (encO ((some t).map fun n : Nat => (n : Int))))) (Lr sc d long rows x4 x5 x6 (.pd (.list (((List.range long).filter fun s => decide (shiftRow a long s = b)).map fun i : Nat => .int (i : Int)))) x8 (.pd (.list (encBk (rows.map runsOf)))) x10 x11 x12 x13 x14 x15 x16 x17 (.pd (.list (encRh (rows.map hs)))) (.pd (.int (i : Int))) x20 (.pd (.int (j : Int))) (.pd (encO ((alikeR (runsOf a) (runsOf b) long).map fun n : Nat => (n : Int)))) (.pd (encO ((some t).map fun n : Nat => (n : Int))))) (by
      show (rng1P [.int (long : Int)]).map _ = _
      rw [r1]
      rfl) (by simp; omega) (by simpa [ownOk, Lr] using h4) rfl fun k hk => by
      have hk := List.mem_range.mp hk
      have m := modP_pos (i := ((t : Int) + k)) (j := (long : Int)) (by omega)
      have ec : ((t : Int) + k) % (long : Int) = (((t + k) % long : Nat) : Int) := by simp
      rw [ec] at m
      have aj : atI (encRh (rows.map hs)) (j : Int) = some (.list (strsL (hs b))) := atI_natP (by simp [encRh, hj])
      have hz := hm k hk
      have hk2 : k < a.length := by rw [ha.len]; exact hk
      have e1 : (hs b)[(t + k) % long]? = some ((hs a).getD k "") := by
        rw [hs_get, hz, List.getD_eq_getElem?_getD, hs_get, List.getElem?_eq_getElem hk2]
        rfl
      have at1 : atI (strsL (hs b)) (((t + k) % long : Nat) : Int) = some (.str ((hs a).getD k "")) := atI_natP (by
        unfold strsL
        rw [List.getElem?_map, e1]
        rfl)
      generalize (hs a).getD k "" = u at *
      refine ⟨_, bind_nm, ?_⟩
      rw [dBin_, idx_vv rfl rfl aj, Option.bind_some]
      dsimp only
      rw [dBin_]
      have e2 : dBin addP (dV 23) (dV 4) ((wipeR (Lr sc d long rows x4 x5 x6 (.pd (.list (((List.range long).filter fun s => decide (shiftRow a long s = b)).map fun i : Nat => .int (i : Int)))) x8 (.pd (.list (encBk (rows.map runsOf)))) x10 x11 x12 x13 x14 x15 x16 x17 (.pd (.list (encRh (rows.map hs)))) (.pd (.int (i : Int))) x20 (.pd (.int (j : Int))) (.pd (encO ((alikeR (runsOf a) (runsOf b) long).map fun n : Nat => (n : Int)))) (.pd (encO ((some t).map fun n : Nat => (n : Int))))) [4]).set 4 (.pd (.int (k : Int)))) = some (.int ((t : Int) + k), (wipeR (Lr sc d long rows x4 x5 x6 (.pd (.list (((List.range long).filter fun s => decide (shiftRow a long s = b)).map fun i : Nat => .int (i : Int)))) x8 (.pd (.list (encBk (rows.map runsOf)))) x10 x11 x12 x13 x14 x15 x16 x17 (.pd (.list (encRh (rows.map hs)))) (.pd (.int (i : Int))) x20 (.pd (.int (j : Int))) (.pd (encO ((alikeR (runsOf a) (runsOf b) long).map fun n : Nat => (n : Int)))) (.pd (encO ((some t).map fun n : Nat => (n : Int))))) [4]).set 4 (.pd (.int (k : Int)))) := rfl
      have e3 : dV 2 ((wipeR (Lr sc d long rows x4 x5 x6 (.pd (.list (((List.range long).filter fun s => decide (shiftRow a long s = b)).map fun i : Nat => .int (i : Int)))) x8 (.pd (.list (encBk (rows.map runsOf)))) x10 x11 x12 x13 x14 x15 x16 x17 (.pd (.list (encRh (rows.map hs)))) (.pd (.int (i : Int))) x20 (.pd (.int (j : Int))) (.pd (encO ((alikeR (runsOf a) (runsOf b) long).map fun n : Nat => (n : Int)))) (.pd (encO ((some t).map fun n : Nat => (n : Int))))) [4]).set 4 (.pd (.int (k : Int)))) = some (.int (long : Int), (wipeR (Lr sc d long rows x4 x5 x6 (.pd (.list (((List.range long).filter fun s => decide (shiftRow a long s = b)).map fun i : Nat => .int (i : Int)))) x8 (.pd (.list (encBk (rows.map runsOf)))) x10 x11 x12 x13 x14 x15 x16 x17 (.pd (.list (encRh (rows.map hs)))) (.pd (.int (i : Int))) x20 (.pd (.int (j : Int))) (.pd (encO ((alikeR (runsOf a) (runsOf b) long).map fun n : Nat => (n : Int)))) (.pd (encO ((some t).map fun n : Nat => (n : Int))))) [4]).set 4 (.pd (.int (k : Int)))) := rfl
      rw [e2, Option.bind_some]
      dsimp only
      rw [e3, Option.bind_some]
      dsimp only
      rw [m, Option.map_some, Option.bind_some]
      dsimp only
      rw [idxP_list, at1]
      rfl
  rw [C, hs_row a ha]
theorem plain_strs (xs : List Str) : plainP (.list (strsL xs)) = true := by
  simp only [plainP]
  exact plain_map _ (fun _ => rfl) xs
theorem depth_strs (xs : List Str) : (PyData.list (strsL xs)).depth ≤ 1 := depth_map _ 0 (fun x => by simp) xs
def sameAt (a b : List Int) (j : Nat) : List Start := match sbfb (hs b) (hs a) with
  | some t => [(j, t)]
  | none => []
theorem law_b4_sem {same : List Start} (hl : 0 < long) (hl2 : long ≤ 10) (hi : rows[i]? = some a) (hj : rows[j]? = some b) (ha : Row01 long a) (hb : Row01 long b) (h4 : isPd x4 = true) (hs1 : same.length < 1000) :
    ∃ y7 y22 y23, law_b4 (Lr sc d long rows x4 x5 x6 x7 x8 (.pd (.list (encBk (rows.map runsOf)))) x10 x11 x12 x13 x14 x15 x16 x17 (.pd (.list (encRh (rows.map hs)))) (.pd (.int (i : Int))) (.ol (pds (same.map encSt))) (.pd (.int (j : Int))) x22 x23) = some (.nx, (Lr sc d long rows x4 x5 x6 (y7) x8 (.pd (.list (encBk (rows.map runsOf)))) x10 x11 x12 x13 x14 x15 x16 x17 (.pd (.list (encRh (rows.map hs)))) (.pd (.int (i : Int))) (.ol (pds ((same ++ sameAt a b j).map encSt))) (.pd (.int (j : Int))) (y22) (y23))) := by
  refine ⟨.pd (.list (((List.range long).filter fun s => decide (shiftRow a long s = b)).map fun i : Nat => .int (i : Int))), .pd (encO ((alikeR (runsOf a) (runsOf b) long).map fun n : Nat => (n : Int))), .pd (encO ((sbfb (hs b) (hs a)).map fun n : Nat => (n : Int))), ?_⟩
  unfold law_b4
  rw [seq_nx (st7 hl hl2 hi hj ha h4), seq_nx (st22 hl hl2 hi hj ha hb), seq_nx (st23 hl2 hi hj ha hb), seq_nx (ρ1 := (Lr sc d long rows x4 x5 x6 (.pd (.list (((List.range long).filter fun s => decide (shiftRow a long s = b)).map fun i : Nat => .int (i : Int)))) x8 (.pd (.list (encBk (rows.map runsOf)))) x10 x11 x12 x13 x14 x15 x16 x17 (.pd (.list (encRh (rows.map hs)))) (.pd (.int (i : Int))) (.ol (pds (same.map encSt))) (.pd (.int (j : Int))) (.pd (encO ((alikeR (runsOf a) (runsOf b) long).map fun n : Nat => (n : Int)))) (.pd (encO ((sbfb (hs b) (hs a)).map fun n : Nat => (n : Int))))))]
  · cases e : sbfb (hs b) (hs a) with
    | none =>
      have e0 : sameAt a b j = [] := by unfold sameAt; rw [e]
      rw [e0, List.append_nil]
      rfl
    | some t =>
      have e0 : sameAt a b j = [(j, t)] := by unfold sameAt; rw [e]
      have hm := ((sbfb_is hl ha hb).1 t e).1
      have ai : atI (encRh (rows.map hs)) (i : Int) = some (.list (strsL (hs a))) := atI_natP (by simp [encRh, hi])
      rw [e0, dIfS_]
      show (dSeq _ _ (Lr sc d long rows x4 x5 x6 (.pd (.list (((List.range long).filter fun s => decide (shiftRow a long s = b)).map fun i : Nat => .int (i : Int)))) x8 (.pd (.list (encBk (rows.map runsOf)))) x10 x11 x12 x13 x14 x15 x16 x17 (.pd (.list (encRh (rows.map hs)))) (.pd (.int (i : Int))) (.ol (pds (same.map encSt))) (.pd (.int (j : Int))) (.pd (encO ((alikeR (runsOf a) (runsOf b) long).map fun n : Nat => (n : Int)))) (.pd (encO ((some t).map fun n : Nat => (n : Int))))) : Option (Fl × Sl)) = _
      rw [seq_nx (ρ1 := (Lr sc d long rows x4 x5 x6 (.pd (.list (((List.range long).filter fun s => decide (shiftRow a long s = b)).map fun i : Nat => .int (i : Int)))) x8 (.pd (.list (encBk (rows.map runsOf)))) x10 x11 x12 x13 x14 x15 x16 x17 (.pd (.list (encRh (rows.map hs)))) (.pd (.int (i : Int))) (.ol (pds (same.map encSt))) (.pd (.int (j : Int))) (.pd (encO ((alikeR (runsOf a) (runsOf b) long).map fun n : Nat => (n : Int)))) (.pd (encO ((some t).map fun n : Nat => (n : Int))))))]
      · have hz : (pds (same.map encSt)).length < 16777216 := by simp; omega
        rw [dApp_, dPd_, dTup_]
        show (if (pds (same.map encSt)).length < 16777216 then _ else _) = _
        rw [if_pos hz]
        have e9 : pds (same.map encSt) ++ [.pd (encSt (j, t))] = pds ((same ++ [(j, t)]).map encSt) := by simp [pds]
        rw [← e9]
        rfl
      · rw [dIfS_, dCmp_, dLst_, b4_comp hl hl2 hj ha hb hm h4, Option.map_some, Option.bind_some]
        dsimp only
        rw [idx_vv rfl rfl ai, Option.bind_some]
        dsimp only
        rw [neP_refl (plain_strs _) (by have := depth_strs (hs a); omega)]
        rfl
  · rw [dIfS_, dOr_, b4_c1 hl ha hb, Option.bind_some]
    dsimp only
    rw [if_neg Bool.false_ne_true, dOr_, b4_c2 hl ha hb, Option.bind_some]
    dsimp only
    rw [if_neg Bool.false_ne_true, b4_c3 hl hl2 hi hj ha hb]
    rfl
end
end
end
end HW

namespace HW
open PySem PySem.Spec PyProof.Rows L2
noncomputable section
section
variable {sc d : D} {long : Nat} {rows : List (List Int)} {x4 x5 x6 x7 x8 x9 x10 x11 x12 x13 x14 x15 x16 x17 x18 x19 x20 x21 x22 x23 : D}
theorem sameOf_is (rows : List (List Int)) (a : List Int) : sameOf rows a = rows.zipIdx.flatMap fun z => sameAt a z.1 z.2 := rfl
theorem sameAt_len (a b : List Int) (j : Nat) : (sameAt a b j).length ≤ 1 := by
  unfold sameAt
  split <;> simp
section
variable {i : Nat} {a : List Int}
theorem b4_loop (hl : 0 < long) (hl2 : long ≤ 10) (hb : ∀ r ∈ rows, Row01 long r) (hi : rows[i]? = some a) (ha : Row01 long a) (h4 : isPd x4 = true) : ∀ (rs : List (List Int)) (j : Nat) (same : List Start) (x7 x21 x22 x23 : D), (∀ k r, rs[k]? = some r → rows[j + k]? = some r) → same.length + rs.length < 1000 →
    ∃ y7 y21 y22 y23, forL (.nm 21) law_b4 ((List.range' j rs.length).map fun i : Nat => .int (i : Int)) (Lr sc d long rows x4 x5 x6 x7 x8 (.pd (.list (encBk (rows.map runsOf)))) x10 x11 x12 x13 x14 x15 x16 x17 (.pd (.list (encRh (rows.map hs)))) (.pd (.int (i : Int))) (.ol (pds (same.map encSt))) x21 x22 x23) = some (.nx, (Lr sc d long rows x4 x5 x6 (y7) x8 (.pd (.list (encBk (rows.map runsOf)))) x10 x11 x12 x13 x14 x15 x16 x17 (.pd (.list (encRh (rows.map hs)))) (.pd (.int (i : Int))) (.ol (pds ((same ++ (rs.zipIdx j).flatMap fun z => sameAt a z.1 z.2).map encSt))) (y21) (y22) (y23)))
  | [], j, same, x7, x21, x22, x23, _, _ => ⟨x7, x21, x22, x23, by simp⟩
  | b :: rs, j, same, x7, x21, x22, x23, hr, hn => by
    have hj : rows[j]? = some b := by simpa using hr 0 b rfl
    have hb1 := hb b (List.mem_of_getElem? hj)
    rw [List.length_cons] at hn
    obtain ⟨z7, z22, z23, e1⟩ := law_b4_sem (sc := sc) (d := d) (x4 := x4) (x5 := x5) (x6 := x6) (x7 := x7) (x8 := x8) (x10 := x10) (x11 := x11) (x12 := x12) (x13 := x13) (x14 := x14) (x15 := x15) (x16 := x16) (x17 := x17) (x22 := x22) (x23 := x23) (same := same) hl hl2 hi hj ha hb1 h4 (by omega)
    have hsl := sameAt_len a b j
    obtain ⟨y7, y21, y22, y23, e2⟩ := b4_loop hl hl2 hb hi ha h4 rs (j + 1) (same ++ sameAt a b j) z7 (.pd (.int (j : Int))) z22 z23 (fun k r h => by
      have := hr (k + 1) r (by simpa using h)
      have e : j + (k + 1) = j + 1 + k := by omega
      rw [← e]
      exact this) (by rw [List.length_append]; omega)
    refine ⟨y7, y21, y22, y23, ?_⟩
    rw [List.length_cons, List.range'_succ, List.map_cons]
    unfold forL
    rw [bind_nm, Option.bind_some]
    show (law_b4 (Lr sc d long rows x4 x5 x6 x7 x8 (.pd (.list (encBk (rows.map runsOf)))) x10 x11 x12 x13 x14 x15 x16 x17 (.pd (.list (encRh (rows.map hs)))) (.pd (.int (i : Int))) (.ol (pds (same.map encSt))) (.pd (.int (j : Int))) x22 x23)).bind _ = _
    rw [e1, Option.bind_some]
    show forL (.nm 21) law_b4 ((List.range' (j + 1) rs.length).map fun i : Nat => .int (i : Int)) _ = _
    rw [e2, List.zipIdx_cons, List.flatMap_cons, List.append_assoc]
theorem depth_st (xs : List Start) : (PyData.list (xs.map encSt)).depth ≤ 2 := depth_map _ 1 (fun x => by simp [encSt, PyData.depth, PyData.depthAll]) xs
theorem plain_st (xs : List Start) : plainP (.list (xs.map encSt)) = true := by
  simp only [plainP]
  exact plain_map _ (fun _ => rfl) xs
theorem law_b5_sem (hl : 0 < long) (hl2 : long ≤ 10) (hb : ∀ r ∈ rows, Row01 long r) (hn : rows.length < 100) (hi : rows[i]? = some a) (h4 : isPd x4 = true) :
    ∃ y7 y20 y21 y22 y23, law_b5 (Lr sc d long rows x4 x5 x6 x7 x8 (.pd (.list (encBk (rows.map runsOf)))) x10 x11 x12 x13 x14 x15 x16 x17 (.pd (.list (encRh (rows.map hs)))) (.pd (.int (i : Int))) x20 x21 x22 x23) = some (.nx, (Lr sc d long rows x4 x5 x6 (y7) x8 (.pd (.list (encBk (rows.map runsOf)))) x10 x11 x12 x13 x14 x15 x16 x17 (.pd (.list (encRh (rows.map hs)))) (.pd (.int (i : Int))) (y20) (y21) (y22) (y23))) := by
  have ha := hb a (List.mem_of_getElem? hi)
  obtain ⟨y7, y21, y22, y23, eL⟩ := b4_loop (sc := sc) (d := d) (x4 := x4) (x5 := x5) (x6 := x6) (x8 := x8) (x10 := x10) (x11 := x11) (x12 := x12) (x13 := x13) (x14 := x14) (x15 := x15) (x16 := x16) (x17 := x17) hl hl2 hb hi ha h4 rows 0 [] x7 x21 x22 x23 (fun k r h => by rw [Nat.zero_add]; exact h) (by simp; omega)
  rw [List.nil_append, ← sameOf_is] at eL
  refine ⟨y7, .ol (pds ((sameOf rows a).map encSt)), y21, y22, y23, ?_⟩
  have ai : atI (encRh (rows.map hs)) (i : Int) = some (.list (strsL (hs a))) := atI_natP (by simp [encRh, hi])
  have bi : atI (encBk (rows.map runsOf)) (i : Int) = some (.list (encRs (runsOf a))) := atI_natP (by simp [encBk, hi])
  obtain ⟨s, q1, q2, q3, q4, q5, q6, q7, _⟩ := least_same hl ha
  have lt := least_turn_sem (hs a) (by rw [hs_len, ha.len]; omega)
  have lr := least_round_sem (runsOf a) long s hl (by omega) (run_small ha hl2) q1
  unfold law_b5
  rw [seq_nx (ρ1 := (Lr sc d long rows x4 x5 x6 x7 x8 (.pd (.list (encBk (rows.map runsOf)))) x10 x11 x12 x13 x14 x15 x16 x17 (.pd (.list (encRh (rows.map hs)))) (.pd (.int (i : Int))) x20 x21 x22 x23)), seq_nx (ρ1 := (Lr sc d long rows x4 x5 x6 x7 x8 (.pd (.list (encBk (rows.map runsOf)))) x10 x11 x12 x13 x14 x15 x16 x17 (.pd (.list (encRh (rows.map hs)))) (.pd (.int (i : Int))) (.ol (pds [])) x21 x22 x23)), seq_nx (ρ1 := (Lr sc d long rows x4 x5 x6 (y7) x8 (.pd (.list (encBk (rows.map runsOf)))) x10 x11 x12 x13 x14 x15 x16 x17 (.pd (.list (encRh (rows.map hs)))) (.pd (.int (i : Int))) (.ol (pds ((sameOf rows a).map encSt))) (y21) (y22) (y23)))]
  · have F := fitting_sem (rows.map hs) ((hs a ++ hs a).map some) (fun r hr => by
      obtain ⟨y, hy, rfl⟩ := List.mem_map.mp hr
      rw [hs_len, (hb y hy).len]
      omega) (by simp; omega)
    have eh : ((hs a ++ hs a).map some).map encH = strsL (hs a) ++ strsL (hs a) := by simp [strsL, encH, Function.comp_def]
    rw [eh, fits_same hl rows hb ha] at F
    have p := addP_list (xs := strsL (hs a)) (ys := strsL (hs a)) (by simp [strsL, ha.len]; omega)
    have fz : frzAt (Lr sc d long rows x4 x5 x6 (y7) x8 (.pd (.list (encBk (rows.map runsOf)))) x10 x11 x12 x13 x14 x15 x16 x17 (.pd (.list (encRh (rows.map hs)))) (.pd (.int (i : Int))) (.ol (pds ((sameOf rows a).map encSt))) (y21) (y22) (y23)) 20 = some (Lr sc d long rows x4 x5 x6 (y7) x8 (.pd (.list (encBk (rows.map runsOf)))) x10 x11 x12 x13 x14 x15 x16 x17 (.pd (.list (encRh (rows.map hs)))) (.pd (.int (i : Int))) (.pd (.list ((sameOf rows a).map encSt))) (y21) (y22) (y23)) := by
      rw [frzAt_]
      show (frz (.ol (pds ((sameOf rows a).map encSt)))).map _ = _
      rw [frz_olD, frzs_pds]
      rfl
    have e1 : dBin addP (dBin idxP (dV 18) (dV 19)) (dBin idxP (dV 18) (dV 19)) (Lr sc d long rows x4 x5 x6 (y7) x8 (.pd (.list (encBk (rows.map runsOf)))) x10 x11 x12 x13 x14 x15 x16 x17 (.pd (.list (encRh (rows.map hs)))) (.pd (.int (i : Int))) (.pd (.list ((sameOf rows a).map encSt))) (y21) (y22) (y23)) = some (.list (strsL (hs a) ++ strsL (hs a)), (Lr sc d long rows x4 x5 x6 (y7) x8 (.pd (.list (encBk (rows.map runsOf)))) x10 x11 x12 x13 x14 x15 x16 x17 (.pd (.list (encRh (rows.map hs)))) (.pd (.int (i : Int))) (.pd (.list ((sameOf rows a).map encSt))) (y21) (y22) (y23))) := by
      rw [dBin_, idx_vv rfl rfl ai, Option.bind_some]
      dsimp only
      rw [idx_vv rfl rfl ai, Option.bind_some]
      dsimp only
      rw [p]
      rfl
    have e2 : dCallN 2 fitting_s (dArgs [(dV 18), (dBin addP (dBin idxP (dV 18) (dV 19)) (dBin idxP (dV 18) (dV 19)))]) (Lr sc d long rows x4 x5 x6 (y7) x8 (.pd (.list (encBk (rows.map runsOf)))) x10 x11 x12 x13 x14 x15 x16 x17 (.pd (.list (encRh (rows.map hs)))) (.pd (.int (i : Int))) (.pd (.list ((sameOf rows a).map encSt))) (y21) (y22) (y23)) = some (.tuple [.list ((sameOf rows a).map encSt), .list ((fittingR (rows.map hs) ((hs a ++ hs a).map some)).2.map encBar)], (Lr sc d long rows x4 x5 x6 (y7) x8 (.pd (.list (encBk (rows.map runsOf)))) x10 x11 x12 x13 x14 x15 x16 x17 (.pd (.list (encRh (rows.map hs)))) (.pd (.int (i : Int))) (.pd (.list ((sameOf rows a).map encSt))) (y21) (y22) (y23))) := by
      have e0 : dV 18 (Lr sc d long rows x4 x5 x6 (y7) x8 (.pd (.list (encBk (rows.map runsOf)))) x10 x11 x12 x13 x14 x15 x16 x17 (.pd (.list (encRh (rows.map hs)))) (.pd (.int (i : Int))) (.pd (.list ((sameOf rows a).map encSt))) (y21) (y22) (y23)) = some (.list (encRh (rows.map hs)), (Lr sc d long rows x4 x5 x6 (y7) x8 (.pd (.list (encBk (rows.map runsOf)))) x10 x11 x12 x13 x14 x15 x16 x17 (.pd (.list (encRh (rows.map hs)))) (.pd (.int (i : Int))) (.pd (.list ((sameOf rows a).map encSt))) (y21) (y22) (y23))) := rfl
      rw [dCallN_, dArgs_cons, e0, Option.bind_some]
      dsimp only
      rw [dArgs_cons, e1, Option.bind_some]
      show ((fitting_s [.list (encRh (rows.map hs)), .list (strsL (hs a) ++ strsL (hs a))]).map _) = _
      rw [F]
      rfl
    have e3 : dBin idxP (dCallN 2 fitting_s (dArgs [(dV 18), (dBin addP (dBin idxP (dV 18) (dV 19)) (dBin idxP (dV 18) (dV 19)))])) (dC (.int 0)) (Lr sc d long rows x4 x5 x6 (y7) x8 (.pd (.list (encBk (rows.map runsOf)))) x10 x11 x12 x13 x14 x15 x16 x17 (.pd (.list (encRh (rows.map hs)))) (.pd (.int (i : Int))) (.pd (.list ((sameOf rows a).map encSt))) (y21) (y22) (y23)) = some (.list ((sameOf rows a).map encSt), (Lr sc d long rows x4 x5 x6 (y7) x8 (.pd (.list (encBk (rows.map runsOf)))) x10 x11 x12 x13 x14 x15 x16 x17 (.pd (.list (encRh (rows.map hs)))) (.pd (.int (i : Int))) (.pd (.list ((sameOf rows a).map encSt))) (y21) (y22) (y23))) := by
      rw [dBin_, e2, Option.bind_some, dC_, Option.bind_some]
      dsimp only
      rw [idxP_tuple, atI_zero]
      rfl
    have e4 : dV 20 (Lr sc d long rows x4 x5 x6 (y7) x8 (.pd (.list (encBk (rows.map runsOf)))) x10 x11 x12 x13 x14 x15 x16 x17 (.pd (.list (encRh (rows.map hs)))) (.pd (.int (i : Int))) (.pd (.list ((sameOf rows a).map encSt))) (y21) (y22) (y23)) = some (.list ((sameOf rows a).map encSt), (Lr sc d long rows x4 x5 x6 (y7) x8 (.pd (.list (encBk (rows.map runsOf)))) x10 x11 x12 x13 x14 x15 x16 x17 (.pd (.list (encRh (rows.map hs)))) (.pd (.int (i : Int))) (.pd (.list ((sameOf rows a).map encSt))) (y21) (y22) (y23))) := rfl
    rw [dIfS_, dPkT_, fz, Option.bind_some, dCmp_, e3, Option.bind_some]
    dsimp only
    rw [e4, Option.bind_some]
    dsimp only
    rw [neP_refl (plain_st _) (by have := depth_st (sameOf rows a); omega)]
    rfl
  · have r1 := rng1P_nat rows.length (by omega)
    rw [List.range_eq_range'] at r1
    have e0 : dItA rng1P (dArgs [(dPk 3 (dCall lenP (dArgs [(dV 3)])))]) (Lr sc d long rows x4 x5 x6 x7 x8 (.pd (.list (encBk (rows.map runsOf)))) x10 x11 x12 x13 x14 x15 x16 x17 (.pd (.list (encRh (rows.map hs)))) (.pd (.int (i : Int))) (.ol (pds [])) x21 x22 x23) = (rng1P [.int ((encRows rows).length : Int)]).map fun z => (z, (Lr sc d long rows x4 x5 x6 x7 x8 (.pd (.list (encBk (rows.map runsOf)))) x10 x11 x12 x13 x14 x15 x16 x17 (.pd (.list (encRh (rows.map hs)))) (.pd (.int (i : Int))) (.ol (pds [])) x21 x22 x23)) := rfl
    rw [encRows_len, r1] at e0
    rw [dFor_, e0]
    exact eL
  · rfl
  · have e1 : dCall lenP (dArgs [(dCallN 1 least_turn_s (dArgs [(dBin idxP (dV 18) (dV 19))]))]) (Lr sc d long rows x4 x5 x6 x7 x8 (.pd (.list (encBk (rows.map runsOf)))) x10 x11 x12 x13 x14 x15 x16 x17 (.pd (.list (encRh (rows.map hs)))) (.pd (.int (i : Int))) x20 x21 x22 x23) = some (.int (s : Int), (Lr sc d long rows x4 x5 x6 x7 x8 (.pd (.list (encBk (rows.map runsOf)))) x10 x11 x12 x13 x14 x15 x16 x17 (.pd (.list (encRh (rows.map hs)))) (.pd (.int (i : Int))) x20 x21 x22 x23)) := by
      have e0 : dCallN 1 least_turn_s (dArgs [(dBin idxP (dV 18) (dV 19))]) (Lr sc d long rows x4 x5 x6 x7 x8 (.pd (.list (encBk (rows.map runsOf)))) x10 x11 x12 x13 x14 x15 x16 x17 (.pd (.list (encRh (rows.map hs)))) (.pd (.int (i : Int))) x20 x21 x22 x23) = some (.list (strsL (leastTurn (hs a))), (Lr sc d long rows x4 x5 x6 x7 x8 (.pd (.list (encBk (rows.map runsOf)))) x10 x11 x12 x13 x14 x15 x16 x17 (.pd (.list (encRh (rows.map hs)))) (.pd (.int (i : Int))) x20 x21 x22 x23)) := by
        rw [dCallN_, dArgs_cons, idx_vv rfl rfl ai, Option.bind_some]
        show ((least_turn_s [.list (strsL (hs a))]).map _) = _
        rw [lt]
        rfl
      have e9 : (strsL (leastTurn (hs a))).length = s := by rw [← q7]; simp [strsL]
      rw [dCall_, dArgs_cons, e0, Option.bind_some]
      dsimp only
      rw [dArgs_nil, Option.map_some, Option.bind_some]
      dsimp only
      rw [lenP_list, e9]
      rfl
    have e2 : dCallN 2 least_round_s (dArgs [(dBin idxP (dV 9) (dV 19)), (dV 2)]) (Lr sc d long rows x4 x5 x6 x7 x8 (.pd (.list (encBk (rows.map runsOf)))) x10 x11 x12 x13 x14 x15 x16 x17 (.pd (.list (encRh (rows.map hs)))) (.pd (.int (i : Int))) x20 x21 x22 x23) = some (.int (s : Int), (Lr sc d long rows x4 x5 x6 x7 x8 (.pd (.list (encBk (rows.map runsOf)))) x10 x11 x12 x13 x14 x15 x16 x17 (.pd (.list (encRh (rows.map hs)))) (.pd (.int (i : Int))) x20 x21 x22 x23)) := by
      rw [dCallN_, dArgs_cons, idx_vv rfl rfl bi, Option.bind_some]
      show ((least_round_s [.list (encRs (runsOf a)), .int (long : Int)]).map _) = _
      rw [lr]
      rfl
    rw [dIfS_, dCmp_, e1, Option.bind_some]
    dsimp only
    rw [e2, Option.bind_some]
    dsimp only
    rw [neP_int]
    simp
end
theorem b5_loop (hl : 0 < long) (hl2 : long ≤ 10) (hb : ∀ r ∈ rows, Row01 long r) (hn : rows.length < 100) (h4 : isPd x4 = true) : ∀ (n i : Nat) (x7 x19 x20 x21 x22 x23 : D), i + n = rows.length →
    ∃ ρ', forL (.nm 19) law_b5 ((List.range' i n).map fun i : Nat => .int (i : Int)) (Lr sc d long rows x4 x5 x6 x7 x8 (.pd (.list (encBk (rows.map runsOf)))) x10 x11 x12 x13 x14 x15 x16 x17 (.pd (.list (encRh (rows.map hs)))) x19 x20 x21 x22 x23) = some (.nx, ρ')
  | 0, i, x7, x19, x20, x21, x22, x23, _ => ⟨_, rfl⟩
  | n + 1, i, x7, x19, x20, x21, x22, x23, h => by
    have hlt : i < rows.length := by omega
    obtain ⟨y7, y20, y21, y22, y23, e1⟩ := law_b5_sem (sc := sc) (d := d) (x4 := x4) (x5 := x5) (x6 := x6) (x7 := x7) (x8 := x8) (x10 := x10) (x11 := x11) (x12 := x12) (x13 := x13) (x14 := x14) (x15 := x15) (x16 := x16) (x17 := x17) (x20 := x20) (x21 := x21) (x22 := x22) (x23 := x23) hl hl2 hb hn (List.getElem?_eq_getElem hlt) h4
    obtain ⟨ρ', e2⟩ := b5_loop hl hl2 hb hn h4 n (i + 1) y7 (.pd (.int (i : Int))) y20 y21 y22 y23 (by omega)
    refine ⟨ρ', ?_⟩
    rw [List.range'_succ, List.map_cons]
    unfold forL
    rw [bind_nm, Option.bind_some]
    show (law_b5 (Lr sc d long rows x4 x5 x6 x7 x8 (.pd (.list (encBk (rows.map runsOf)))) x10 x11 x12 x13 x14 x15 x16 x17 (.pd (.list (encRh (rows.map hs)))) (.pd (.int (i : Int))) x20 x21 x22 x23)).bind _ = _
    rw [e1, Option.bind_some]
    exact e2
theorem stK (hl : 0 < long) (hl2 : long ≤ 10) (hb : ∀ r ∈ rows, Row01 long r) (hn : rows.length < 100) (h4 : isPd x4 = true) :
    ∃ ρ', dFor (dItA rng1P (dArgs [(dPk 3 (dCall lenP (dArgs [(dV 3)])))])) (.nm 19) law_b5 (Lr sc d long rows x4 x5 x6 x7 x8 (.pd (.list (encBk (rows.map runsOf)))) x10 x11 x12 x13 x14 x15 x16 x17 (.pd (.list (encRh (rows.map hs)))) x19 x20 x21 x22 x23) = some (.nx, ρ') := by
  obtain ⟨ρ', e⟩ := b5_loop (sc := sc) (d := d) (x5 := x5) (x6 := x6) (x8 := x8) (x10 := x10) (x11 := x11) (x12 := x12) (x13 := x13) (x14 := x14) (x15 := x15) (x16 := x16) (x17 := x17) hl hl2 hb hn h4 rows.length 0 x7 x19 x20 x21 x22 x23 (by omega)
  refine ⟨ρ', ?_⟩
  have r1 := rng1P_nat rows.length (by omega)
  rw [List.range_eq_range'] at r1
  have e0 : dItA rng1P (dArgs [(dPk 3 (dCall lenP (dArgs [(dV 3)])))]) (Lr sc d long rows x4 x5 x6 x7 x8 (.pd (.list (encBk (rows.map runsOf)))) x10 x11 x12 x13 x14 x15 x16 x17 (.pd (.list (encRh (rows.map hs)))) x19 x20 x21 x22 x23) = (rng1P [.int ((encRows rows).length : Int)]).map fun z => (z, (Lr sc d long rows x4 x5 x6 x7 x8 (.pd (.list (encBk (rows.map runsOf)))) x10 x11 x12 x13 x14 x15 x16 x17 (.pd (.list (encRh (rows.map hs)))) x19 x20 x21 x22 x23)) := rfl
  rw [encRows_len, r1] at e0
  rw [dFor_, e0]
  exact e
end
end
end HW

namespace HW
open PySem PySem.Spec PyProof.Rows L2
noncomputable section
/-! ### the state to draw from -/
def absI (i : Int) : Int := if i < 0 then -i else i
theorem absI_nonneg (i : Int) : 0 ≤ absI i := by unfold absI; split <;> omega
def cells0 (script : List Int) : List Int := (script.take 63).map absI
theorem ls_cells (script : List Int) : dSet 1 (dOl (dComp (dIt (dSlA (dV 0) dNo (dSo (dC (.int 63))))) [2] (.nm 2) dYes (dCall absP (dArgs [(dV 2)])))) [.pd (.list (intsL script)), .hole, .hole] = some (.nx, [.pd (.list (intsL script)), .ol (pds (intsL (cells0 script))), .hole]) := by
  have s1 := slA_to (intsL script) 63
  have e1 : (intsL script).take 63 = intsL (script.take 63) := by simp [intsL]
  rw [e1] at s1
  have C := dComp_map (it := dIt (dSlA (dV 0) dNo (dSo (dC (.int 63))))) (vs := [2]) (tg := .nm 2) (el := dCall absP (dArgs [(dV 2)])) PyData.int (fun i => .int (absI i)) (script.take 63) [.pd (.list (intsL script)), .hole, .hole] [.pd (.list (intsL script)), .hole, .hole] (by
    show ((sliceA (.list (intsL script)) none (some (63 : Int))).map _).bind _ = _
    rw [show (63 : Int) = ((63 : Nat) : Int) from rfl, s1]
    rfl) (by rw [List.length_take]; omega) rfl rfl fun i hi => ⟨_, bind_nm, rfl⟩
  have e2 : (script.take 63).map (fun i => PyData.int (absI i)) = intsL (cells0 script) := by simp [intsL, cells0, Function.comp_def]
  rw [e2] at C
  rw [dSet_, dOl_, C]
  rfl
theorem law_state_sem (script : List Int) : ∃ d, _law_state_s [.list (intsL script)] = some d ∧ GoodS d := by
  unfold _law_state_s runP _law_state_d
  show ∃ d, (match dSeq _ _ [.pd (.list (intsL script)), .hole, .hole] with | some (.rt d, _) => some d | some (.nx, _) => some (.pd .none) | _ => none) = some d ∧ _
  rw [seq_nx (ls_cells script)]
  have hp : ∀ x ∈ cells0 script, 0 ≤ x := fun x hx => by
    obtain ⟨y, _, rfl⟩ := List.mem_map.mp hx
    exact absI_nonneg y
  generalize cells0 script = cs at hp
  have T : dCmp eqP (dPk 1 (dCall lenP (dArgs [(dV 1)]))) (dC (.int 0)) [.pd (.list (intsL script)), .ol (pds (intsL cs)), .hole] = some (decide ((cs.length : Int) = 0), [.pd (.list (intsL script)), .ol (pds (intsL cs)), .hole]) := by simp
  by_cases h : cs = []
  · subst h
    refine ⟨.ol [.pd (.int 0), .ol (pds (intsL [0]))], ?_, 0, [0], rfl, by omega, by simp, by simp⟩
    rw [seq_nx (ρ1 := [.pd (.list (intsL script)), .ol (pds (intsL [0])), .hole])]
    · rfl
    · rw [dIfS_, T, Option.bind_some]
      rfl
  · refine ⟨.ol [.pd (.int 0), .ol (pds (intsL cs))], ?_, 0, cs, rfl, by omega, h, hp⟩
    have hl : ¬ ((cs.length : Int) = 0) := by
      have := List.length_pos_iff.mpr h
      omega
    rw [seq_nx (ρ1 := [.pd (.list (intsL script)), .ol (pds (intsL cs)), .hole])]
    · rfl
    · rw [dIfS_, T, Option.bind_some]
      dsimp only
      rw [if_neg (by simpa using hl)]
      rfl
/-! ### the law -/
def Hd (sc d x2 x3 : D) : Sl := sc :: d :: x2 :: x3 :: List.replicate 25 .hole
theorem law_sem (script : List Int) : law_s [.list (intsL script)] = some (.bool true) := by
  have K : ∃ ρ', law_d (Hd (.pd (.list (intsL script))) .hole .hole .hole) = some (.rt (.pd (.bool true)), ρ') := by
    obtain ⟨d0, e0, g0⟩ := law_state_sem script
    unfold law_d
    rw [seq_nx (ρ1 := Hd (.pd (.list (intsL script))) d0 .hole .hole) (by
      show ((_law_state_s [.list (intsL script)]).map _).map _ = _
      rw [e0]
      rfl)]
    obtain ⟨v, d1, e1, g1, v0, v1⟩ := drawC (ρ := Hd (.pd (.list (intsL script))) d0 .hole .hole) (f := dArgs [(dC (.int 9))]) (m := 9) (by simp) rfl g0 (by decide) (by decide)
    obtain ⟨n, rfl, hn⟩ := at_int (n := 9) v0 (by omega)
    rw [seq_nx (ρ1 := Hd (.pd (.list (intsL script))) d1 (.pd (.int ((2 + n : Nat) : Int))) .hole) (by
      have e : dBin addP (dC (.int 2)) (dFr (dFnM 1 1 _law_take_s (dArgs [(dC (.int 9))]))) (Hd (.pd (.list (intsL script))) d0 .hole .hole) = some (.int ((2 + n : Nat) : Int), Hd (.pd (.list (intsL script))) d1 .hole .hole) := by
        rw [dBin_, dC_, Option.bind_some]
        dsimp only
        rw [e1, Option.bind_some]
        dsimp only
        rw [addP_int]
        have : (2 : Int) + n = ((2 + n : Nat) : Int) := by omega
        rw [this]
        rfl
      rw [dSet_, dPd_, e]
      rfl)]
    obtain ⟨long, rfl⟩ : ∃ long, long = 2 + n := ⟨_, rfl⟩
    generalize hlong : 2 + n = long
    have hl : 0 < long := by omega
    have hl2 : long ≤ 10 := by omega
    obtain ⟨row, d2, e2, g2, r2⟩ := comp_draws (ρ := Hd (.pd (.list (intsL script))) d1 (.pd (.int (long : Int))) .hole) rfl g1 rfl (by omega) rfl (by simp [Hd])
    rw [seq_nx (ρ1 := Lst (.pd (.list (intsL script))) d2 long [row] .hole .hole .hole .hole .hole) (by
      rw [dSet_, dOl_, dArgs_cons, dLst_, e2]
      rfl)]
    obtain ⟨w, d3, e3, g3, w0, w1⟩ := L_draw3 (sc := .pd (.list (intsL script))) (long := long) (rows := [row]) (x4 := .hole) (x5 := .hole) (x6 := .hole) (x7 := .hole) (x8 := .hole) g2 (m := 4) (by decide) (by decide)
    obtain ⟨k, rfl, hk⟩ := at_int (n := 4) w0 (by omega)
    obtain ⟨d4, rows, y4, y5, y6, y7, y8, eL, hlen, hb, hpd⟩ := law_rows (sc := .pd (.list (intsL script))) (long := long) k (List.range k) (by simp) (d := d3) (rows := [row]) (x4 := .hole) (x5 := .hole) (x6 := .hole) (x7 := .hole) (x8 := .hole) g3 (by omega) (by omega) (by simp) (by simp; omega) (fun r hr => by rw [List.mem_singleton.mp hr]; exact r2)
    obtain ⟨p4, p6⟩ := hpd rfl rfl
    rw [List.length_singleton] at hlen
    have hn : rows.length < 100 := by omega
    rw [seq_nx (ρ1 := Lst (.pd (.list (intsL script))) d4 long rows y4 y5 y6 y7 y8) (by
      have e : dItA rng1P (dArgs [(dFr (dFnM 1 1 _law_take_s (dArgs [(dC (.int 4))])))]) (Lst (.pd (.list (intsL script))) d2 long [row] .hole .hole .hole .hole .hole) = some ((List.range k).map fun i : Nat => .int (i : Int), Lst (.pd (.list (intsL script))) d3 long [row] .hole .hole .hole .hole .hole) := by
        rw [dItA_, dArgs_cons, e3, Option.bind_some]
        show (rng1P [.int (k : Int)]).map _ = _
        rw [rng1P_nat k (by omega)]
        rfl
      rw [dFor_, e, Option.bind_some]
      exact eL)]
    rw [seq_nx (stA hl2 hb hn p6), seq_nx (stB hl2 hb hn), seq_nx (stC hl hl2 hb hn)]
    rw [seq_nx (s1 := dSet 12 (dOl (dArgs []))) (ρ1 := Lr (.pd (.list (intsL script))) d4 long rows y4 y5 y6 y7 y8 (.pd (.list (encBk (rows.map runsOf)))) (.pd (.list ((waysOf long rows).map encWay))) (.pd (.int (costOfAll long rows))) (.ol (pds [])) .hole .hole .hole .hole .hole .hole .hole .hole .hole .hole .hole) rfl]
    obtain ⟨z4, z13, z14, q4, eE⟩ := stE (sc := .pd (.list (intsL script))) (d := d4) (x4 := y4) (x5 := y5) (x6 := y6) (x7 := y7) (x8 := y8) (x11 := .pd (.int (costOfAll long rows))) (x13 := .hole) (x14 := .hole) (x15 := .hole) (x16 := .hole) (x17 := .hole) (x18 := .hole) (x19 := .hole) (x20 := .hole) (x21 := .hole) (x22 := .hole) (x23 := .hole) hl hl2 hb hn p4
    rw [seq_nx eE, seq_nx (stF hl hl2 hb hn), seq_nx (stG hl2)]
    obtain ⟨u6, u16, u17, q6, eH⟩ := stH (sc := .pd (.list (intsL script))) (d := d4) (x4 := z4) (x5 := y5) (x6 := y6) (x7 := y7) (x8 := y8) (x9 := .pd (.list (encBk (rows.map runsOf)))) (x10 := .pd (.list ((waysOf long rows).map encWay))) (x11 := .pd (.int (costOfAll long rows))) (x12 := .ol (pds (intsL (costsOf long rows)))) (x13 := z13) (x14 := z14) (x17 := .hole) (x18 := .hole) (x19 := .hole) (x20 := .hole) (x21 := .hole) (x22 := .hole) (x23 := .hole) hl2 hb q4 p6
    rw [seq_nx eH, seq_nx (stI hl hl2 hb hn), seq_nx (stJ hl2 hb hn q6)]
    obtain ⟨ρ', eK⟩ := stK (sc := .pd (.list (intsL script))) (d := d4) (x4 := z4) (x5 := y5) (x6 := u6) (x7 := y7) (x8 := y8) (x10 := .pd (.list ((waysOf long rows).map encWay))) (x11 := .pd (.int (costOfAll long rows))) (x12 := .ol (pds (intsL (costsOf long rows)))) (x13 := z13) (x14 := z14) (x15 := .pd (.int (chOf long rows))) (x16 := u16) (x17 := u17) (x19 := .hole) (x20 := .hole) (x21 := .hole) (x22 := .hole) (x23 := .hole) hl hl2 hb hn q4
    rw [seq_nx eK]
    exact ⟨ρ', rfl⟩
  obtain ⟨ρ', e⟩ := K
  have e2 : law_s [.list (intsL script)] = (match (match law_d (Hd (.pd (.list (intsL script))) .hole .hole .hole) with | some (.rt d, _) => some d | some (.nx, _) => some (.pd .none) | _ => none) with | some d => frz d | _ => none) := rfl
  rw [e2, e]
  exact frz_pd _
end
end HW

namespace HW
open PySem PySem.Spec PyProof.Rows L2

theorem all_mk {P : Program} {w : World} {K : PySem.W.Frag} {h : Heap} {mg : Str → Option Value} {fa : Addr} (X : K.In h) (G : h.Ns mainGlobals mg) (hfa : mg "law" = some (.ref fa))
    {f0 : Addr} {od0 an0 : Option Addr} {sl0 : Array (Option Value)} {oc0 kV0 dc0 pm0 cd0 ct0 : Value}
    {f1 : Addr} {od1 an1 : Option Addr} {sl1 : Array (Option Value)} {oc1 kV1 dc1 pm1 cd1 ct1 : Value}
    {f2 : Addr} {od2 an2 : Option Addr} {sl2 : Array (Option Value)} {oc2 kV2 dc2 pm2 cd2 ct2 : Value}
    {f3 : Addr} {od3 an3 : Option Addr} {sl3 : Array (Option Value)} {oc3 kV3 dc3 pm3 cd3 ct3 : Value}
    {f4 : Addr} {od4 an4 : Option Addr} {sl4 : Array (Option Value)} {oc4 kV4 dc4 pm4 cd4 ct4 : Value}
    {f5 : Addr} {od5 an5 : Option Addr} {sl5 : Array (Option Value)} {oc5 kV5 dc5 pm5 cd5 ct5 : Value}
    {f6 : Addr} {od6 an6 : Option Addr} {sl6 : Array (Option Value)} {oc6 kV6 dc6 pm6 cd6 ct6 : Value}
    {f7 : Addr} {od7 an7 : Option Addr} {sl7 : Array (Option Value)} {oc7 kV7 dc7 pm7 cd7 ct7 : Value}
    {f8 : Addr} {od8 an8 : Option Addr} {sl8 : Array (Option Value)} {oc8 kV8 dc8 pm8 cd8 ct8 : Value}
    {f9 : Addr} {od9 an9 : Option Addr} {sl9 : Array (Option Value)} {oc9 kV9 dc9 pm9 cd9 ct9 : Value}
    {f10 : Addr} {od10 an10 : Option Addr} {sl10 : Array (Option Value)} {oc10 kV10 dc10 pm10 cd10 ct10 : Value}
    {f11 : Addr} {od11 an11 : Option Addr} {sl11 : Array (Option Value)} {oc11 kV11 dc11 pm11 cd11 ct11 : Value}
    {f12 : Addr} {od12 an12 : Option Addr} {sl12 : Array (Option Value)} {oc12 kV12 dc12 pm12 cd12 ct12 : Value}
    {f13 : Addr} {od13 an13 : Option Addr} {sl13 : Array (Option Value)} {oc13 kV13 dc13 pm13 cd13 ct13 : Value}
    {f14 : Addr} {od14 an14 : Option Addr} {sl14 : Array (Option Value)} {oc14 kV14 dc14 pm14 cd14 ct14 : Value}
    {f15 : Addr} {od15 an15 : Option Addr} {sl15 : Array (Option Value)} {oc15 kV15 dc15 pm15 cd15 ct15 : Value}
    {f16 : Addr} {od16 an16 : Option Addr} {sl16 : Array (Option Value)} {oc16 kV16 dc16 pm16 cd16 ct16 : Value}
    {f17 : Addr} {od17 an17 : Option Addr} {sl17 : Array (Option Value)} {oc17 kV17 dc17 pm17 cd17 ct17 : Value}
    {f18 : Addr} {od18 an18 : Option Addr} {sl18 : Array (Option Value)} {oc18 kV18 dc18 pm18 cd18 ct18 : Value}
    {f19 : Addr} {od19 an19 : Option Addr} {sl19 : Array (Option Value)} {oc19 kV19 dc19 pm19 cd19 ct19 : Value}
    {f20 : Addr} {od20 an20 : Option Addr} {sl20 : Array (Option Value)} {oc20 kV20 dc20 pm20 cd20 ct20 : Value}
    {f21 : Addr} {od21 an21 : Option Addr} {sl21 : Array (Option Value)} {oc21 kV21 dc21 pm21 cd21 ct21 : Value}
    (a_put_together : PySem.W.nsIn K mainGlobals "put_together" = some (some (.ref f4)))
    (a_turned_runs : PySem.W.nsIn K mainGlobals "turned_runs" = some (some (.ref f5)))
    (a_alike : PySem.W.nsIn K mainGlobals "alike" = some (some (.ref f6)))
    (a_cost_of : PySem.W.nsIn K mainGlobals "cost_of" = some (some (.ref f7)))
    (a_ticks_of : PySem.W.nsIn K mainGlobals "ticks_of" = some (some (.ref f3)))
    (a_runs_of : PySem.W.nsIn K mainGlobals "runs_of" = some (some (.ref f2)))
    (a_changes : PySem.W.nsIn K mainGlobals "changes" = some (some (.ref f11)))
    (a_least_turn : PySem.W.nsIn K mainGlobals "least_turn" = some (some (.ref f13)))
    (a_turned_apart : PySem.W.nsIn K mainGlobals "turned_apart" = some (some (.ref f15)))
    (a_at : PySem.W.nsIn K mainGlobals "at" = some (some (.ref f18)))
    (a_starts_of : PySem.W.nsIn K mainGlobals "starts_of" = some (some (.ref f17)))
    (a_bar_of : PySem.W.nsIn K mainGlobals "bar_of" = some (some (.ref f19)))
    (a__law_state : PySem.W.nsIn K mainGlobals "_law_state" = some (some (.ref f0)))
    (a__law_take : PySem.W.nsIn K mainGlobals "_law_take" = some (some (.ref f1)))
    (a_coded : PySem.W.nsIn K mainGlobals "coded" = some (some (.ref f8)))
    (a_told_by : PySem.W.nsIn K mainGlobals "told_by" = some (some (.ref f9)))
    (a_read_back : PySem.W.nsIn K mainGlobals "read_back" = some (some (.ref f10)))
    (a_order_cost : PySem.W.nsIn K mainGlobals "order_cost" = some (some (.ref f12)))
    (a_least_round : PySem.W.nsIn K mainGlobals "least_round" = some (some (.ref f14)))
    (a_same_but_for_begin : PySem.W.nsIn K mainGlobals "same_but_for_begin" = some (some (.ref f16)))
    (a_fitting : PySem.W.nsIn K mainGlobals "fitting" = some (some (.ref f20)))
    (a_law : PySem.W.nsIn K mainGlobals "law" = some (some (.ref f21)))
    (l0 : K.lookup f0 = some ⟨oc0, od0, .func (PySem.W.fnOf "_law_state" "_law_state" (defArgs st__law_state) (defBody st__law_state) (defScope st__law_state) .none kV0 dc0 pm0 an0 cd0 ct0), sl0⟩) (c0 : PySem.W.codeIn K cd0 "_law_state" = true) (k0 : PySem.W.keepIn K (.ref f0) = true)
    (l1 : K.lookup f1 = some ⟨oc1, od1, .func (PySem.W.fnOf "_law_take" "_law_take" (defArgs st__law_take) (defBody st__law_take) (defScope st__law_take) .none kV1 dc1 pm1 an1 cd1 ct1), sl1⟩) (c1 : PySem.W.codeIn K cd1 "_law_take" = true) (k1 : PySem.W.keepIn K (.ref f1) = true)
    (l2 : K.lookup f2 = some ⟨oc2, od2, .func (PySem.W.fnOf "runs_of" "runs_of" (defArgs st_runs_of) (defBody st_runs_of) (defScope st_runs_of) .none kV2 dc2 pm2 an2 cd2 ct2), sl2⟩) (c2 : PySem.W.codeIn K cd2 "runs_of" = true) (k2 : PySem.W.keepIn K (.ref f2) = true)
    (l3 : K.lookup f3 = some ⟨oc3, od3, .func (PySem.W.fnOf "ticks_of" "ticks_of" (defArgs st_ticks_of) (defBody st_ticks_of) (defScope st_ticks_of) .none kV3 dc3 pm3 an3 cd3 ct3), sl3⟩) (c3 : PySem.W.codeIn K cd3 "ticks_of" = true) (k3 : PySem.W.keepIn K (.ref f3) = true)
    (l4 : K.lookup f4 = some ⟨oc4, od4, .func (PySem.W.fnOf "put_together" "put_together" (defArgs st_put_together) (defBody st_put_together) (defScope st_put_together) .none kV4 dc4 pm4 an4 cd4 ct4), sl4⟩) (c4 : PySem.W.codeIn K cd4 "put_together" = true) (k4 : PySem.W.keepIn K (.ref f4) = true)
    (l5 : K.lookup f5 = some ⟨oc5, od5, .func (PySem.W.fnOf "turned" "turned" (defArgs st_turned1) (defBody st_turned1) (defScope st_turned1) .none kV5 dc5 pm5 an5 cd5 ct5), sl5⟩) (c5 : PySem.W.codeIn K cd5 "turned" = true) (k5 : PySem.W.keepIn K (.ref f5) = true)
    (l6 : K.lookup f6 = some ⟨oc6, od6, .func (PySem.W.fnOf "alike" "alike" (defArgs st_alike) (defBody st_alike) (defScope st_alike) .none kV6 dc6 pm6 an6 cd6 ct6), sl6⟩) (c6 : PySem.W.codeIn K cd6 "alike" = true) (k6 : PySem.W.keepIn K (.ref f6) = true)
    (l7 : K.lookup f7 = some ⟨oc7, od7, .func (PySem.W.fnOf "cost_of" "cost_of" (defArgs st_cost_of) (defBody st_cost_of) (defScope st_cost_of) .none kV7 dc7 pm7 an7 cd7 ct7), sl7⟩) (c7 : PySem.W.codeIn K cd7 "cost_of" = true) (k7 : PySem.W.keepIn K (.ref f7) = true)
    (l8 : K.lookup f8 = some ⟨oc8, od8, .func (PySem.W.fnOf "coded" "coded" (defArgs st_coded) (defBody st_coded) (defScope st_coded) .none kV8 dc8 pm8 an8 cd8 ct8), sl8⟩) (c8 : PySem.W.codeIn K cd8 "coded" = true) (k8 : PySem.W.keepIn K (.ref f8) = true)
    (l9 : K.lookup f9 = some ⟨oc9, od9, .func (PySem.W.fnOf "told_by" "told_by" (defArgs st_told_by) (defBody st_told_by) (defScope st_told_by) .none kV9 dc9 pm9 an9 cd9 ct9), sl9⟩) (c9 : PySem.W.codeIn K cd9 "told_by" = true) (k9 : PySem.W.keepIn K (.ref f9) = true)
    (l10 : K.lookup f10 = some ⟨oc10, od10, .func (PySem.W.fnOf "read_back" "read_back" (defArgs st_read_back) (defBody st_read_back) (defScope st_read_back) .none kV10 dc10 pm10 an10 cd10 ct10), sl10⟩) (c10 : PySem.W.codeIn K cd10 "read_back" = true) (k10 : PySem.W.keepIn K (.ref f10) = true)
    (l11 : K.lookup f11 = some ⟨oc11, od11, .func (PySem.W.fnOf "changes" "changes" (defArgs st_changes) (defBody st_changes) (defScope st_changes) .none kV11 dc11 pm11 an11 cd11 ct11), sl11⟩) (c11 : PySem.W.codeIn K cd11 "changes" = true) (k11 : PySem.W.keepIn K (.ref f11) = true)
    (l12 : K.lookup f12 = some ⟨oc12, od12, .func (PySem.W.fnOf "order_cost" "order_cost" (defArgs st_order_cost) (defBody st_order_cost) (defScope st_order_cost) .none kV12 dc12 pm12 an12 cd12 ct12), sl12⟩) (c12 : PySem.W.codeIn K cd12 "order_cost" = true) (k12 : PySem.W.keepIn K (.ref f12) = true)
    (l13 : K.lookup f13 = some ⟨oc13, od13, .func (PySem.W.fnOf "least_turn" "least_turn" (defArgs st_least_turn) (defBody st_least_turn) (defScope st_least_turn) .none kV13 dc13 pm13 an13 cd13 ct13), sl13⟩) (c13 : PySem.W.codeIn K cd13 "least_turn" = true) (k13 : PySem.W.keepIn K (.ref f13) = true)
    (l14 : K.lookup f14 = some ⟨oc14, od14, .func (PySem.W.fnOf "least_round" "least_round" (defArgs st_least_round) (defBody st_least_round) (defScope st_least_round) .none kV14 dc14 pm14 an14 cd14 ct14), sl14⟩) (c14 : PySem.W.codeIn K cd14 "least_round" = true) (k14 : PySem.W.keepIn K (.ref f14) = true)
    (l15 : K.lookup f15 = some ⟨oc15, od15, .func (PySem.W.fnOf "turned" "turned" (defArgs st_turned2) (defBody st_turned2) (defScope st_turned2) .none kV15 dc15 pm15 an15 cd15 ct15), sl15⟩) (c15 : PySem.W.codeIn K cd15 "turned" = true) (k15 : PySem.W.keepIn K (.ref f15) = true)
    (l16 : K.lookup f16 = some ⟨oc16, od16, .func (PySem.W.fnOf "same_but_for_begin" "same_but_for_begin" (defArgs st_same_but_for_begin) (defBody st_same_but_for_begin) (defScope st_same_but_for_begin) .none kV16 dc16 pm16 an16 cd16 ct16), sl16⟩) (c16 : PySem.W.codeIn K cd16 "same_but_for_begin" = true) (k16 : PySem.W.keepIn K (.ref f16) = true)
    (l17 : K.lookup f17 = some ⟨oc17, od17, .func (PySem.W.fnOf "starts_of" "starts_of" (defArgs st_starts_of) (defBody st_starts_of) (defScope st_starts_of) .none kV17 dc17 pm17 an17 cd17 ct17), sl17⟩) (c17 : PySem.W.codeIn K cd17 "starts_of" = true) (k17 : PySem.W.keepIn K (.ref f17) = true)
    (l18 : K.lookup f18 = some ⟨oc18, od18, .func (PySem.W.fnOf "at" "at" (defArgs st_at) (defBody st_at) (defScope st_at) .none kV18 dc18 pm18 an18 cd18 ct18), sl18⟩) (c18 : PySem.W.codeIn K cd18 "at" = true) (k18 : PySem.W.keepIn K (.ref f18) = true)
    (l19 : K.lookup f19 = some ⟨oc19, od19, .func (PySem.W.fnOf "bar_of" "bar_of" (defArgs st_bar_of) (defBody st_bar_of) (defScope st_bar_of) .none kV19 dc19 pm19 an19 cd19 ct19), sl19⟩) (c19 : PySem.W.codeIn K cd19 "bar_of" = true) (k19 : PySem.W.keepIn K (.ref f19) = true)
    (l20 : K.lookup f20 = some ⟨oc20, od20, .func (PySem.W.fnOf "fitting" "fitting" (defArgs st_fitting) (defBody st_fitting) (defScope st_fitting) .none kV20 dc20 pm20 an20 cd20 ct20), sl20⟩) (c20 : PySem.W.codeIn K cd20 "fitting" = true) (k20 : PySem.W.keepIn K (.ref f20) = true)
    (l21 : K.lookup f21 = some ⟨oc21, od21, .func (PySem.W.fnOf "law" "law" (defArgs st_law) (defBody st_law) (defScope st_law) .none kV21 dc21 pm21 an21 cd21 ct21), sl21⟩) (c21 : PySem.W.codeIn K cd21 "law" = true) (k21 : PySem.W.keepIn K (.ref f21) = true)
    (z_any : PySem.W.nsIn K mainGlobals "any" = some none)
    (z_all : PySem.W.nsIn K mainGlobals "all" = some none)
    (z_abs : PySem.W.nsIn K mainGlobals "abs" = some none)
    (z_enumerate : PySem.W.nsIn K mainGlobals "enumerate" = some none)
    (z_int : PySem.W.nsIn K mainGlobals "int" = some none)
    (z_len : PySem.W.nsIn K mainGlobals "len" = some none)
    (z_list : PySem.W.nsIn K mainGlobals "list" = some none)
    (z_max : PySem.W.nsIn K mainGlobals "max" = some none)
    (z_min : PySem.W.nsIn K mainGlobals "min" = some none)
    (z_range : PySem.W.nsIn K mainGlobals "range" = some none)
    (z_set : PySem.W.nsIn K mainGlobals "set" = some none)
    (z_sorted : PySem.W.nsIn K mainGlobals "sorted" = some none)
    (z_sum : PySem.W.nsIn K mainGlobals "sum" = some none)
    (z_tuple : PySem.W.nsIn K mainGlobals "tuple" = some none)
    (z_zip : PySem.W.nsIn K mainGlobals "zip" = some none) :
    ∃ fd : FuncData, (∀ (s : Shared) (u : Value), BindsTo s fd ⟨[u], []⟩ [("script", u)]) ∧ ∀ base : Heap, K.In base → base.Ns mainGlobals mg → FnOk P w K mg base CX0 6 fa fd ["script"] (spQ K (fun _ _ => False) 1 law_s) := by
  have e := hfa.symm.trans (PySem.W.mg_of X G a_law)
  cases e
  have B : Bs mg := ⟨PySem.W.mg_none_of X G z_any, PySem.W.mg_none_of X G z_all, PySem.W.mg_none_of X G z_abs, PySem.W.mg_none_of X G z_enumerate, PySem.W.mg_none_of X G z_int, PySem.W.mg_none_of X G z_len, PySem.W.mg_none_of X G z_list, PySem.W.mg_none_of X G z_max, PySem.W.mg_none_of X G z_min, PySem.W.mg_none_of X G z_range, PySem.W.mg_none_of X G z_set, PySem.W.mg_none_of X G z_sorted, PySem.W.mg_none_of X G z_sum, PySem.W.mg_none_of X G z_tuple, PySem.W.mg_none_of X G z_zip⟩
  refine ⟨PySem.W.fnOf "law" "law" (defArgs st_law) (defBody st_law) (defScope st_law) .none kV21 dc21 pm21 an21 cd21 ct21, fun s u => .of_eq rfl, fun base _ _ => ?_⟩
  have G0 := fun_mk (st := st__law_state) l0 c0 k0
  have o0 : FnOk P w K mg base CX0 1 _ _ ["script"] (spP K (fun _ _ => False) 1 _law_state_s) := ok__law_state B G0 
  have h__law_state : HasFn P w K mg base 1 "_law_state" ["script"] (spP K (fun _ _ => False) 1 _law_state_s) := HasFn.mk' G0 o0 (PySem.W.mg_of X G a__law_state) (G0.binds fun _ _ _ _ _ _ us hl => match us, hl with | [_], _ => rfl)
  have G1 := fun_mk (st := st__law_take) l1 c1 k1
  have o1 : FnOk P w K mg base CX0 1 _ _ ["state", "most"] (spM K (fun _ _ => False) 1 _law_take_s) := ok__law_take B G1 
  have h__law_take : HasFn P w K mg base 1 "_law_take" ["state", "most"] (spM K (fun _ _ => False) 1 _law_take_s) := HasFn.mk' G1 o1 (PySem.W.mg_of X G a__law_take) (G1.binds fun _ _ _ _ _ _ us hl => match us, hl with | [_, _], _ => rfl)
  have G2 := fun_mk (st := st_runs_of) l2 c2 k2
  have o2 : FnOk P w K mg base CX0 1 _ _ ["row"] (spQ K (fun _ _ => False) 1 runs_of_s) := ok_runs_of B G2 
  have h_runs_of : HasFn P w K mg base 1 "runs_of" ["row"] (spQ K (fun _ _ => False) 1 runs_of_s) := HasFn.mk' G2 o2 (PySem.W.mg_of X G a_runs_of) (G2.binds fun _ _ _ _ _ _ us hl => match us, hl with | [_], _ => rfl)
  have G3 := fun_mk (st := st_ticks_of) l3 c3 k3
  have o3 : FnOk P w K mg base CX0 1 _ _ ["runs", "long"] (spQ K (fun _ _ => False) 2 ticks_of_s) := ok_ticks_of B G3 
  have h_ticks_of : HasFn P w K mg base 1 "ticks_of" ["runs", "long"] (spQ K (fun _ _ => False) 2 ticks_of_s) := HasFn.mk' G3 o3 (PySem.W.mg_of X G a_ticks_of) (G3.binds fun _ _ _ _ _ _ us hl => match us, hl with | [_, _], _ => rfl)
  have G4 := fun_mk (st := st_put_together) l4 c4 k4
  have o4 : FnOk P w K mg base CX0 1 _ _ ["one", "other", "wanted"] (spQ K (fun _ _ => False) 3 put_together_s) := ok_put_together B G4 
  have h_put_together : HasFn P w K mg base 1 "put_together" ["one", "other", "wanted"] (spQ K (fun _ _ => False) 3 put_together_s) := HasFn.mk' G4 o4 (PySem.W.mg_of X G a_put_together) (G4.binds fun _ _ _ _ _ _ us hl => match us, hl with | [_, _, _], _ => rfl)
  have G5 := fun_mk (st := st_turned1) l5 c5 k5
  have o5 : FnOk P w K mg base CX0 2 _ _ ["runs", "steps", "long"] (spQ K (fun _ _ => False) 3 turned1_s) := ok_turned1 B G5 h_put_together
  have h_turned_runs : HasFn P w K mg base 2 "turned_runs" ["runs", "steps", "long"] (spQ K (fun _ _ => False) 3 turned1_s) := HasFn.mk' G5 o5 (PySem.W.mg_of X G a_turned_runs) (G5.binds fun _ _ _ _ _ _ us hl => match us, hl with | [_, _, _], _ => rfl)
  have G6 := fun_mk (st := st_alike) l6 c6 k6
  have o6 : FnOk P w K mg base CX0 3 _ _ ["one", "other", "long"] (spQ K (fun _ _ => False) 3 alike_s) := ok_alike B G6 h_turned_runs
  have h_alike : HasFn P w K mg base 3 "alike" ["one", "other", "long"] (spQ K (fun _ _ => False) 3 alike_s) := HasFn.mk' G6 o6 (PySem.W.mg_of X G a_alike) (G6.binds fun _ _ _ _ _ _ us hl => match us, hl with | [_, _, _], _ => rfl)
  have G7 := fun_mk (st := st_cost_of) l7 c7 k7
  have o7 : FnOk P w K mg base CX0 4 _ _ ["way", "runs", "before", "long"] (spQ K (fun _ _ => False) 4 cost_of_s) := ok_cost_of B G7 h_alike h_put_together
  have h_cost_of : HasFn P w K mg base 4 "cost_of" ["way", "runs", "before", "long"] (spQ K (fun _ _ => False) 4 cost_of_s) := HasFn.mk' G7 o7 (PySem.W.mg_of X G a_cost_of) (G7.binds fun _ _ _ _ _ _ us hl => match us, hl with | [_, _, _, _], _ => rfl)
  have G8 := fun_mk (st := st_coded) l8 c8 k8
  have o8 : FnOk P w K mg base CX0 5 _ _ ["book", "long"] (spQ K (fun _ _ => False) 2 coded_s) := ok_coded B G8 h_cost_of
  have h_coded : HasFn P w K mg base 5 "coded" ["book", "long"] (spQ K (fun _ _ => False) 2 coded_s) := HasFn.mk' G8 o8 (PySem.W.mg_of X G a_coded) (G8.binds fun _ _ _ _ _ _ us hl => match us, hl with | [_, _], _ => rfl)
  have G9 := fun_mk (st := st_told_by) l9 c9 k9
  have o9 : FnOk P w K mg base CX0 5 _ _ ["book", "long", "ways"] (spQ K (fun _ _ => False) 3 told_by_s) := ok_told_by B G9 h_cost_of h_ticks_of h_alike h_put_together
  have h_told_by : HasFn P w K mg base 5 "told_by" ["book", "long", "ways"] (spQ K (fun _ _ => False) 3 told_by_s) := HasFn.mk' G9 o9 (PySem.W.mg_of X G a_told_by) (G9.binds fun _ _ _ _ _ _ us hl => match us, hl with | [_, _, _], _ => rfl)
  have G10 := fun_mk (st := st_read_back) l10 c10 k10
  have o10 : FnOk P w K mg base CX0 3 _ _ ["rows", "long"] (spQ K (fun _ _ => False) 2 read_back_s) := ok_read_back B G10 h_runs_of h_turned_runs h_put_together
  have h_read_back : HasFn P w K mg base 3 "read_back" ["rows", "long"] (spQ K (fun _ _ => False) 2 read_back_s) := HasFn.mk' G10 o10 (PySem.W.mg_of X G a_read_back) (G10.binds fun _ _ _ _ _ _ us hl => match us, hl with | [_, _], _ => rfl)
  have G11 := fun_mk (st := st_changes) l11 c11 k11
  have o11 : FnOk P w K mg base CX0 2 _ _ ["one", "other"] (spQ K (fun _ _ => False) 2 changes_s) := ok_changes B G11 h_put_together
  have h_changes : HasFn P w K mg base 2 "changes" ["one", "other"] (spQ K (fun _ _ => False) 2 changes_s) := HasFn.mk' G11 o11 (PySem.W.mg_of X G a_changes) (G11.binds fun _ _ _ _ _ _ us hl => match us, hl with | [_, _], _ => rfl)
  have G12 := fun_mk (st := st_order_cost) l12 c12 k12
  have o12 : FnOk P w K mg base CX0 3 _ _ ["book", "order"] (spQ K (fun _ _ => False) 2 order_cost_s) := ok_order_cost B G12 h_changes
  have h_order_cost : HasFn P w K mg base 3 "order_cost" ["book", "order"] (spQ K (fun _ _ => False) 2 order_cost_s) := HasFn.mk' G12 o12 (PySem.W.mg_of X G a_order_cost) (G12.binds fun _ _ _ _ _ _ us hl => match us, hl with | [_, _], _ => rfl)
  have G13 := fun_mk (st := st_least_turn) l13 c13 k13
  have o13 : FnOk P w K mg base CX0 1 _ _ ["rhythm"] (spQ K (fun _ _ => False) 1 least_turn_s) := ok_least_turn B G13 
  have h_least_turn : HasFn P w K mg base 1 "least_turn" ["rhythm"] (spQ K (fun _ _ => False) 1 least_turn_s) := HasFn.mk' G13 o13 (PySem.W.mg_of X G a_least_turn) (G13.binds fun _ _ _ _ _ _ us hl => match us, hl with | [_], _ => rfl)
  have G14 := fun_mk (st := st_least_round) l14 c14 k14
  have o14 : FnOk P w K mg base CX0 3 _ _ ["runs", "long"] (spQ K (fun _ _ => False) 2 least_round_s) := ok_least_round B G14 h_turned_runs
  have h_least_round : HasFn P w K mg base 3 "least_round" ["runs", "long"] (spQ K (fun _ _ => False) 2 least_round_s) := HasFn.mk' G14 o14 (PySem.W.mg_of X G a_least_round) (G14.binds fun _ _ _ _ _ _ us hl => match us, hl with | [_, _], _ => rfl)
  have G15 := fun_mk (st := st_turned2) l15 c15 k15
  have o15 : FnOk P w K mg base CX0 1 _ _ ["rhythm", "begin"] (spQ K (fun _ _ => False) 2 turned2_s) := ok_turned2 B G15 
  have h_turned_apart : HasFn P w K mg base 1 "turned_apart" ["rhythm", "begin"] (spQ K (fun _ _ => False) 2 turned2_s) := HasFn.mk' G15 o15 (PySem.W.mg_of X G a_turned_apart) (G15.binds fun _ _ _ _ _ _ us hl => match us, hl with | [_, _], _ => rfl)
  have G16 := fun_mk (st := st_same_but_for_begin) l16 c16 k16
  have o16 : FnOk P w K mg base CX0 2 _ _ ["one", "other"] (spQ K (fun _ _ => False) 2 same_but_for_begin_s) := ok_same_but_for_begin B G16 h_least_turn h_turned_apart
  have h_same_but_for_begin : HasFn P w K mg base 2 "same_but_for_begin" ["one", "other"] (spQ K (fun _ _ => False) 2 same_but_for_begin_s) := HasFn.mk' G16 o16 (PySem.W.mg_of X G a_same_but_for_begin) (G16.binds fun _ _ _ _ _ _ us hl => match us, hl with | [_, _], _ => rfl)
  have G17 := fun_mk (st := st_starts_of) l17 c17 k17
  have o17 : FnOk P w K mg base CX0 2 _ _ ["rhythms"] (spQ K (fun _ _ => False) 1 starts_of_s) := ok_starts_of B G17 h_least_turn
  have h_starts_of : HasFn P w K mg base 2 "starts_of" ["rhythms"] (spQ K (fun _ _ => False) 1 starts_of_s) := HasFn.mk' G17 o17 (PySem.W.mg_of X G a_starts_of) (G17.binds fun _ _ _ _ _ _ us hl => match us, hl with | [_], _ => rfl)
  have G18 := fun_mk (st := st_at) l18 c18 k18
  have o18 : FnOk P w K mg base CX0 1 _ _ ["rhythm", "tick"] (spQ K (fun _ _ => False) 2 at_s) := ok_at B G18 
  have h_at : HasFn P w K mg base 1 "at" ["rhythm", "tick"] (spQ K (fun _ _ => False) 2 at_s) := HasFn.mk' G18 o18 (PySem.W.mg_of X G a_at) (G18.binds fun _ _ _ _ _ _ us hl => match us, hl with | [_, _], _ => rfl)
  have G19 := fun_mk (st := st_bar_of) l19 c19 k19
  have o19 : FnOk P w K mg base CX0 2 _ _ ["rhythm", "begin", "heard"] (spQ K (fun _ _ => False) 3 bar_of_s) := ok_bar_of B G19 h_at
  have h_bar_of : HasFn P w K mg base 2 "bar_of" ["rhythm", "begin", "heard"] (spQ K (fun _ _ => False) 3 bar_of_s) := HasFn.mk' G19 o19 (PySem.W.mg_of X G a_bar_of) (G19.binds fun _ _ _ _ _ _ us hl => match us, hl with | [_, _, _], _ => rfl)
  have G20 := fun_mk (st := st_fitting) l20 c20 k20
  have o20 : FnOk P w K mg base CX0 3 _ _ ["rhythms", "heard"] (spQ K (fun _ _ => False) 2 fitting_s) := ok_fitting B G20 h_starts_of h_bar_of
  have h_fitting : HasFn P w K mg base 3 "fitting" ["rhythms", "heard"] (spQ K (fun _ _ => False) 2 fitting_s) := HasFn.mk' G20 o20 (PySem.W.mg_of X G a_fitting) (G20.binds fun _ _ _ _ _ _ us hl => match us, hl with | [_, _], _ => rfl)
  have G21 := fun_mk (st := st_law) l21 c21 k21
  have o21 : FnOk P w K mg base CX0 6 _ _ ["script"] (spQ K (fun _ _ => False) 1 law_s) := ok_law B G21 h__law_state h__law_take h_runs_of h_ticks_of h_coded h_cost_of h_told_by h_read_back h_order_cost h_least_turn h_least_round h_alike h_same_but_for_begin h_turned_runs h_fitting
  exact o21
end HW

open PySem PySem.W PyProof.Rows
set_option maxHeartbeats 0 in
theorem PySem.Challenge.cw_hornwright_k50_books_of_runs_and_rhythms_holds : PySem.Challenge.rw_hornwright_k50_books_of_runs_and_rhythms.Holds := by
  w_on; o_law; k_head; (case hw => w_witness2)
  k_fill
  refine HW.walk_law (l := PySem.Challenge.rw_hornwright_k50_books_of_runs_and_rhythms) (n := 63) (k := 6) (x := "script") HW.law_s (fun _ _ => False) (fun ns _ => HW.law_sem ns) rfl (by decide) rfl ⟨rfl, by decide, by decide⟩ (fun w h Y => PySem.W.kIn_of Y) ?F
  case F =>
    intro w mg fa h KX G hmg
    refine' HW.all_mk KX G hmg ?a_put_together ?a_turned_runs ?a_alike ?a_cost_of ?a_ticks_of ?a_runs_of ?a_changes ?a_least_turn ?a_turned_apart ?a_at ?a_starts_of ?a_bar_of ?a__law_state ?a__law_take ?a_coded ?a_told_by ?a_read_back ?a_order_cost ?a_least_round ?a_same_but_for_begin ?a_fitting ?a_law ?l0 ?c0 ?k0 ?l1 ?c1 ?k1 ?l2 ?c2 ?k2 ?l3 ?c3 ?k3 ?l4 ?c4 ?k4 ?l5 ?c5 ?k5 ?l6 ?c6 ?k6 ?l7 ?c7 ?k7 ?l8 ?c8 ?k8 ?l9 ?c9 ?k9 ?l10 ?c10 ?k10 ?l11 ?c11 ?k11 ?l12 ?c12 ?k12 ?l13 ?c13 ?k13 ?l14 ?c14 ?k14 ?l15 ?c15 ?k15 ?l16 ?c16 ?k16 ?l17 ?c17 ?k17 ?l18 ?c18 ?k18 ?l19 ?c19 ?k19 ?l20 ?c20 ?k20 ?l21 ?c21 ?k21 ?z_any ?z_all ?z_abs ?z_enumerate ?z_int ?z_len ?z_list ?z_max ?z_min ?z_range ?z_set ?z_sorted ?z_sum ?z_tuple ?z_zip
    (case a_put_together => k_is); (case a_turned_runs => k_is); (case a_alike => k_is); (case a_cost_of => k_is); (case a_ticks_of => k_is); (case a_runs_of => k_is); (case a_changes => k_is); (case a_least_turn => k_is)
    (case a_turned_apart => k_is); (case a_at => k_is); (case a_starts_of => k_is); (case a_bar_of => k_is); (case a__law_state => k_is); (case a__law_take => k_is); (case a_coded => k_is); (case a_told_by => k_is)
    (case a_read_back => k_is); (case a_order_cost => k_is); (case a_least_round => k_is); (case a_same_but_for_begin => k_is); (case a_fitting => k_is); (case a_law => k_is); (case l0 => k_is); (case c0 => k_is)
    (case k0 => k_is); (case l1 => k_is); (case c1 => k_is); (case k1 => k_is); (case l2 => k_is); (case c2 => k_is); (case k2 => k_is); (case l3 => k_is)
    (case c3 => k_is); (case k3 => k_is); (case l4 => k_is); (case c4 => k_is); (case k4 => k_is); (case l5 => k_is); (case c5 => k_is); (case k5 => k_is)
    (case l6 => k_is); (case c6 => k_is); (case k6 => k_is); (case l7 => k_is); (case c7 => k_is); (case k7 => k_is); (case l8 => k_is); (case c8 => k_is)
    (case k8 => k_is); (case l9 => k_is); (case c9 => k_is); (case k9 => k_is); (case l10 => k_is); (case c10 => k_is); (case k10 => k_is); (case l11 => k_is)
    (case c11 => k_is); (case k11 => k_is); (case l12 => k_is); (case c12 => k_is); (case k12 => k_is); (case l13 => k_is); (case c13 => k_is); (case k13 => k_is)
    (case l14 => k_is); (case c14 => k_is); (case k14 => k_is); (case l15 => k_is); (case c15 => k_is); (case k15 => k_is); (case l16 => k_is); (case c16 => k_is)
    (case k16 => k_is); (case l17 => k_is); (case c17 => k_is); (case k17 => k_is); (case l18 => k_is); (case c18 => k_is); (case k18 => k_is); (case l19 => k_is)
    (case c19 => k_is); (case k19 => k_is); (case l20 => k_is); (case c20 => k_is); (case k20 => k_is); (case l21 => k_is); (case c21 => k_is); (case k21 => k_is)
    (case z_any => k_is); (case z_all => k_is); (case z_abs => k_is); (case z_enumerate => k_is); (case z_int => k_is); (case z_len => k_is); (case z_list => k_is); (case z_max => k_is)
    (case z_min => k_is); (case z_range => k_is); (case z_set => k_is); (case z_sorted => k_is); (case z_sum => k_is); (case z_tuple => k_is); (case z_zip => k_is)
