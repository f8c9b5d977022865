import PyProof.Rows.All
import Wide.All
import OpenK.AllK
import Wide.FinOn
import PySem.Challenge.RW_hornwright_k51_rhythms_given_and_heard
import HandS.ForMost
import HandS.Deep
import HandS.DictTup
import HandS.TupSets
import HandS.SortKw
import HandS.TupAny
import HandS.Style
import HandS.Zip
import HandS.StrMore
import HandS.EndBits
import KE.DataMinMax
import KE.SortData
import KE.DataEq
import KE.DataCmp
import KE.DataFind
import KE.DataIsa
import KE.DataAny
import KE.DatumIndex
import KE.SortUse
import HandS.Strs
import HandS.Conv
import KE.KDictZip
import HandS.More
set_option Elab.async false
set_option linter.all false
set_option maxRecDepth 100000
set_option maxHeartbeats 0
namespace HW
open PySem PySem.Spec PyProof.Rows L2

abbrev P := PyData

/-- data with ownership marks: pd: frozen; ol, od, ob: an object that only its holder holds; hole: not known -/
inductive D where
  | hole
  | pd (p : P)
  | ol (ds : List D)
  | od (kvs : List (P × D))
  | ot (kvs : List (P × D))
  | ob (c : Str) (fs : List (Str × D))
  | kv (v : V)
abbrev Sl := List D

def keyP : Key → P
  | .inl i => .int i
  | .inr x => .str x
def keysP (ks : List Key) : P := .tuple (ks.map keyP)

/-- a list that stands: frozen, or laid by the program's top -/
def LK (K : PySem.W.Frag) (F : Hp) (a : Addr) (xs : List V) : Prop := Rd F a (.lst xs) ∨ ∃ (its : Array Value) (n : Nat), K.lookup a = some { cls := .type "list", data := .seq its n } ∧ its.size ≤ sizeLine ∧ Vals xs its.toList
theorem LK.seq {K : PySem.W.Frag} {F : Hp} {a : Addr} {xs : List V} (h : LK K F a xs) : SqL K F a xs := by
  rcases h with h | ⟨its, n, h1, h2, h3⟩
  · exact .inl h
  · exact .inr ⟨_, its, n, h1, rfl, rfl, rfl, h2, h3⟩
mutual
inductive DP (K : PySem.W.Frag) (F : Hp) : V → P → Prop
  | non : DP K F .non .none
  | bl (b : Bool) : DP K F (.bl b) (.bool b)
  | int (i : Int) : DP K F (.int i) (.int i)
  | str (x : Str) : DP K F (.str x) (.str x)
  | lst {a : Addr} {xs : List V} {ps : List P} : LK K F a xs → DPs K F xs ps → DP K F (.ref a) (.list ps)
  | tup {a : Addr} {xs : List V} {ps : List P} : SqT K F a xs → DPs K F xs ps → DP K F (.ref a) (.tuple ps)
inductive DPs (K : PySem.W.Frag) (F : Hp) : List V → List P → Prop
  | nil : DPs K F [] []
  | cons {v : V} {vs : List V} {p : P} {ps : List P} : DP K F v p → DPs K F vs ps → DPs K F (v :: vs) (p :: ps)
end
mutual
theorem DP.dp {K : PySem.W.Frag} {F : Hp} {v : V} {p : P} (h : DP K F v p) : Dp K F v p := by
  cases h with
  | non => exact .non
  | bl b => exact .bl b
  | int i => exact .int i
  | str x => exact .str x
  | lst s a => exact .lst s.seq (DPs.dp a)
  | tup s a => exact .tup s (DPs.dp a)
theorem DPs.dp {K : PySem.W.Frag} {F : Hp} {vs : List V} {ps : List P} (h : DPs K F vs ps) : DpAll K F vs ps := by
  cases h with
  | nil => exact .nil
  | cons a b => exact .cons (DP.dp a) (DPs.dp b)
end

mutual
inductive RD (K : PySem.W.Frag) (cm : Str → Addr → Prop) (F H : Hp) : V → D → List Addr → Prop
  | hole {v : V} : RD K cm F H v .hole []
  | pd {v : V} {p : P} : DP K F v p → RD K cm F H v (.pd p) []
  | kv {v : V} : RD K cm F H v (.kv v) []
  | ol {a : Addr} {vs : List V} {ds : List D} {fp : List Addr} : H a = some (.lst vs) → RDs K cm F H vs ds fp → RD K cm F H (.ref a) (.ol ds) (a :: fp)
  | odK {a : Addr} {ks : List Key} {vs : List V} {ds : List D} {fp : List Addr} : H a = some (.dK (ks.zip vs)) → ks.length = vs.length → ks.Nodup → RDs K cm F H vs ds fp → RD K cm F H (.ref a) (.od ((ks.map keyP).zip ds)) (a :: fp)
  | odT {a : Addr} {ks : List (List Key)} {vs : List V} {ds : List D} {fp : List Addr} : H a = some (.dT (ks.zip vs)) → ks.length = vs.length → ks.Nodup → RDs K cm F H vs ds fp → RD K cm F H (.ref a) (.ot ((ks.map keysP).zip ds)) (a :: fp)
  | ob {a dx C : Addr} {c : Str} {ns : List Str} {vs : List V} {ds : List D} {fp : List Addr} : H a = some (.ins C dx (ns.zip vs)) → H dx = some (.own a) → cm c C → ns.length = vs.length → RDs K cm F H vs ds fp → RD K cm F H (.ref a) (.ob c (ns.zip ds)) (a :: dx :: fp)
inductive RDs (K : PySem.W.Frag) (cm : Str → Addr → Prop) (F H : Hp) : List V → List D → List Addr → Prop
  | nil : RDs K cm F H [] [] []
  | cons {v : V} {vs : List V} {d : D} {ds : List D} {f g : List Addr} : RD K cm F H v d f → RDs K cm F H vs ds g → RDs K cm F H (v :: vs) (d :: ds) (f ++ g)
end

/-- slots -/
inductive RE (K : PySem.W.Frag) (cm : Str → Addr → Prop) (F H : Hp) : L2.St → Sl → List Addr → Prop
  | nil : RE K cm F H [] [] []
  | no {x : Option V} {σ : L2.St} {ρ : Sl} {g : List Addr} : RE K cm F H σ ρ g → RE K cm F H (x :: σ) (.hole :: ρ) g
  | yes {v : V} {d : D} {σ : L2.St} {ρ : Sl} {f g : List Addr} : RD K cm F H v d f → RE K cm F H σ ρ g → RE K cm F H (some v :: σ) (d :: ρ) (f ++ g)

section
variable {K : PySem.W.Frag} {cm : Str → Addr → Prop} {F F' H H' W : Hp}

theorem Rd.mono {a : Addr} {u : HO} (s : Rd F a u) (e : Same F F') : Rd F' a u := by
  rcases s with s | ⟨o, s⟩
  · exact .inl (e _ _ s)
  · exact .inr ⟨o, e _ _ s⟩
theorem LK.mono {a : Addr} {xs : List V} (s : LK K F a xs) (e : Same F F') : LK K F' a xs := by
  rcases s with s | s
  · exact .inl (Rd.mono s e)
  · exact .inr s
theorem SqT.mono {a : Addr} {xs : List V} (s : SqT K F a xs) (e : Same F F') : SqT K F' a xs := by
  rcases s with s | s
  · exact .inl (Rd.mono s e)
  · exact .inr s
mutual
theorem DP.mono {v : V} {p : P} (h : DP K F v p) (e : Same F F') : DP K F' v p := by
  cases h with
  | non => exact .non
  | bl b => exact .bl b
  | int i => exact .int i
  | str x => exact .str x
  | lst s a => exact .lst (s.mono e) (DPs.mono a e)
  | tup s a => exact .tup (SqT.mono s e) (DPs.mono a e)
theorem DPs.mono {vs : List V} {ps : List P} (h : DPs K F vs ps) (e : Same F F') : DPs K F' vs ps := by
  cases h with
  | nil => exact .nil
  | cons a b => exact .cons (DP.mono a e) (DPs.mono b e)
end
theorem RD.mono_both (e : Same F F') :
    (∀ {v : V} {d : D} {fp : List Addr}, RD K cm F H v d fp → (∀ a ∈ fp, ∀ o, H a = some o → H' a = some o) → RD K cm F' H' v d fp) ∧
    (∀ {vs : List V} {ds : List D} {fp : List Addr}, RDs K cm F H vs ds fp → (∀ a ∈ fp, ∀ o, H a = some o → H' a = some o) → RDs K cm F' H' vs ds fp) := by
  constructor
  · intro v d fp h
    refine RD.rec (motive_1 := fun v d fp _ => (∀ a ∈ fp, ∀ o, H a = some o → H' a = some o) → RD K cm F' H' v d fp) (motive_2 := fun vs ds fp _ => (∀ a ∈ fp, ∀ o, H a = some o → H' a = some o) → RDs K cm F' H' vs ds fp) ?_ ?_ ?_ ?_ ?_ ?_ ?_ ?_ ?_ h
    · intro v k; exact .hole
    · intro v p h k; exact .pd (DP.mono h e)
    · intro v k; exact .kv
    · intro a vs ds fp h r ih k; exact .ol (k _ (by simp) _ h) (ih fun a m => k a (by simp [m]))
    · intro a ks vs ds fp h l n r ih k; exact .odK (k _ (by simp) _ h) l n (ih fun a m => k a (by simp [m]))
    · intro a ks vs ds fp h l n r ih k; exact .odT (k _ (by simp) _ h) l n (ih fun a m => k a (by simp [m]))
    · intro a dx C c ns vs ds fp h h2 c l r ih k; exact .ob (k _ (by simp) _ h) (k _ (by simp) _ h2) c l (ih fun a m => k a (by simp [m]))
    · intro k; exact .nil
    · intro v vs d ds f g a b iha ihb k; exact .cons (iha fun x m => k x (by simp [m])) (ihb fun x m => k x (by simp [m]))
  · intro vs ds fp h
    refine RDs.rec (motive_1 := fun v d fp _ => (∀ a ∈ fp, ∀ o, H a = some o → H' a = some o) → RD K cm F' H' v d fp) (motive_2 := fun vs ds fp _ => (∀ a ∈ fp, ∀ o, H a = some o → H' a = some o) → RDs K cm F' H' vs ds fp) ?_ ?_ ?_ ?_ ?_ ?_ ?_ ?_ ?_ h
    · intro v k; exact .hole
    · intro v p h k; exact .pd (DP.mono h e)
    · intro v k; exact .kv
    · intro a vs ds fp h r ih k; exact .ol (k _ (by simp) _ h) (ih fun a m => k a (by simp [m]))
    · intro a ks vs ds fp h l n r ih k; exact .odK (k _ (by simp) _ h) l n (ih fun a m => k a (by simp [m]))
    · intro a ks vs ds fp h l n r ih k; exact .odT (k _ (by simp) _ h) l n (ih fun a m => k a (by simp [m]))
    · intro a dx C c ns vs ds fp h h2 c l r ih k; exact .ob (k _ (by simp) _ h) (k _ (by simp) _ h2) c l (ih fun a m => k a (by simp [m]))
    · intro k; exact .nil
    · intro v vs d ds f g a b iha ihb k; exact .cons (iha fun x m => k x (by simp [m])) (ihb fun x m => k x (by simp [m]))
theorem RD.mono {v : V} {d : D} {fp : List Addr} (h : RD K cm F H v d fp) (e : Same F F') (k : ∀ a ∈ fp, ∀ o, H a = some o → H' a = some o) : RD K cm F' H' v d fp := (RD.mono_both e).1 h k
theorem RDs.mono {vs : List V} {ds : List D} {fp : List Addr} (h : RDs K cm F H vs ds fp) (e : Same F F') (k : ∀ a ∈ fp, ∀ o, H a = some o → H' a = some o) : RDs K cm F' H' vs ds fp := (RD.mono_both e).2 h k
theorem RE.mono {σ : L2.St} {ρ : Sl} {fp : List Addr} (h : RE K cm F H σ ρ fp) : Same F F' → (∀ a ∈ fp, ∀ o, H a = some o → H' a = some o) → RE K cm F' H' σ ρ fp := by
  induction h with
  | nil => exact fun _ _ => .nil
  | no _ ih => exact fun e k => .no (ih e k)
  | yes a _ ih => exact fun e k => .yes (RD.mono a e fun x m => k x (by simp [m])) (ih e fun x m => k x (by simp [m]))

theorem RDs.length {vs : List V} {ds : List D} {fp : List Addr} (h : RDs K cm F H vs ds fp) : vs.length = ds.length := by
  induction vs generalizing ds fp with
  | nil => cases h; rfl
  | cons v vs ih => cases h with | cons a b => simp [ih b]
theorem RE.length {σ : L2.St} {ρ : Sl} {fp : List Addr} (h : RE K cm F H σ ρ fp) : σ.length = ρ.length := by
  induction h with
  | nil => rfl
  | no _ ih => simp [ih]
  | yes _ _ ih => simp [ih]
theorem RD.there_both : (∀ {v : V} {d : D} {fp : List Addr}, RD K cm F H v d fp → ∀ a ∈ fp, ∃ o, H a = some o) ∧ (∀ {vs : List V} {ds : List D} {fp : List Addr}, RDs K cm F H vs ds fp → ∀ a ∈ fp, ∃ o, H a = some o) := by
  have A : ∀ {vs : List V} {ds : List D} {fp : List Addr}, RDs K cm F H vs ds fp → ∀ a ∈ fp, ∃ o, H a = some o := by
    intro vs ds fp h
    refine RDs.rec (motive_1 := fun v d fp _ => ∀ a ∈ fp, ∃ o, H a = some o) (motive_2 := fun vs ds fp _ => ∀ a ∈ fp, ∃ o, H a = some o) ?_ ?_ ?_ ?_ ?_ ?_ ?_ ?_ ?_ h
    · intro v a m; cases m
    · intro v p h a m; cases m
    · intro v a m; cases m
    · intro a vs ds fp h r ih x m; rcases List.mem_cons.mp m with rfl | m; exact ⟨_, h⟩; exact ih x m
    · intro a ks vs ds fp h l n r ih x m; rcases List.mem_cons.mp m with rfl | m; exact ⟨_, h⟩; exact ih x m
    · intro a ks vs ds fp h l n r ih x m; rcases List.mem_cons.mp m with rfl | m; exact ⟨_, h⟩; exact ih x m
    · intro a dx C c ns vs ds fp h h2 c l r ih x m
      rcases List.mem_cons.mp m with rfl | m; exact ⟨_, h⟩
      rcases List.mem_cons.mp m with rfl | m; exact ⟨_, h2⟩; exact ih x m
    · intro a m; cases m
    · intro v vs d ds f g a b iha ihb x m; rcases List.mem_append.mp m with m | m; exact iha x m; exact ihb x m
  refine ⟨fun {v d fp} h a m => ?_, A⟩
  have h2 : RDs K cm F H [v] [d] (fp ++ []) := .cons h .nil
  exact A h2 a (by simpa using m)
theorem RD.there {v : V} {d : D} {fp : List Addr} (h : RD K cm F H v d fp) : ∀ a ∈ fp, ∃ o, H a = some o := RD.there_both.1 h
theorem RDs.there {vs : List V} {ds : List D} {fp : List Addr} (h : RDs K cm F H vs ds fp) : ∀ a ∈ fp, ∃ o, H a = some o := RD.there_both.2 h
theorem RE.there {σ : L2.St} {ρ : Sl} {fp : List Addr} (h : RE K cm F H σ ρ fp) : ∀ a ∈ fp, ∃ o, H a = some o := by
  induction h with
  | nil => intro a m; cases m
  | no _ ih => exact ih
  | yes x _ ih => intro a m; rcases List.mem_append.mp m with m | m; exact RD.there x a m; exact ih a m

/-! ### the state -/
structure R (K : PySem.W.Frag) (cm : Str → Addr → Prop) (W : Hp) (σ : L2.St) (H F : Hp) (ρ : Sl) : Prop where
  fh : Same F H
  wh : Same W H
  wf : ∀ a o, W a = some o → F a = none
  ex : ∃ fp, RE K cm F H σ ρ fp ∧ fp.Nodup ∧ ∀ a ∈ fp, F a = none ∧ W a = none

variable {σ : L2.St} {ρ : Sl} {p : Addr} {o : HO}
theorem R.length (r : R K cm W σ H F ρ) : σ.length = ρ.length := let ⟨_, h, _⟩ := r.ex; h.length
/-- the heap grows, all that was tracked is as it was -/
theorem R.same (r : R K cm W σ H F ρ) (e : Same H H') : R K cm W σ H' F ρ :=
  let ⟨fp, h, n, m⟩ := r.ex
  ⟨fun a o q => e _ _ (r.fh a o q), fun a o q => e _ _ (r.wh a o q), r.wf, fp, h.mono (Same.refl F) (fun a _ o q => e a o q), n, m⟩
theorem none_of_same {H H' : Hp} {a : Addr} (e : Same H H') (h : H' a = none) : H a = none := e.free h
/-- a new frozen object -/
theorem R.laid (r : R K cm W σ H F ρ) (hp : H p = none) : R K cm W σ (upd H p o) (upd F p o) ρ := by
  obtain ⟨fp, h, n, m⟩ := r.ex
  have fp0 : F p = none := r.fh.free hp
  have wp0 : W p = none := r.wh.free hp
  have sF : Same F (upd F p o) := fun a u q => by rw [upd_ne (ne_of_none q fp0)]; exact q
  have sH : Same H (upd H p o) := fun a u q => by rw [upd_ne (ne_of_none q hp)]; exact q
  refine ⟨fun a u q => ?_, fun a u q => sH a u (r.wh a u q), fun a u q => ?_, fp, h.mono sF (fun a _ u q => sH a u q), n, fun a ha => ⟨?_, (m a ha).2⟩⟩
  · by_cases e : a = p
    · subst e; rw [upd_same] at q ⊢; exact q
    · rw [upd_ne e] at q; rw [upd_ne e]; exact r.fh a u q
  · rw [upd_ne (ne_of_none q wp0)]; exact r.wf a u q
  · obtain ⟨u, hu⟩ := h.there a ha
    rw [upd_ne (ne_of_none hu hp)]; exact (m a ha).1
theorem same_upd {H : Hp} {p : Addr} {o : HO} (hp : H p = none) : Same H (upd H p o) := fun a u q => by rw [upd_ne (ne_of_none q hp)]; exact q

/-! ### taking and putting -/
def Sub (f g : List Addr) : Prop := ∃ h, g.Perm (f ++ h)
theorem Sub.refl (f : List Addr) : Sub f f := ⟨[], by simp⟩
theorem Sub.nodup {f g : List Addr} (s : Sub f g) (n : g.Nodup) : f.Nodup := by
  obtain ⟨h, p⟩ := s
  exact (List.nodup_append.mp (p.nodup_iff.mp n)).1
theorem Sub.mem {f g : List Addr} (s : Sub f g) {a : Addr} (m : a ∈ f) : a ∈ g := by
  obtain ⟨h, p⟩ := s
  exact p.mem_iff.mpr (List.mem_append_left _ m)
theorem Sub.trans {f g h : List Addr} (s : Sub f g) (t : Sub g h) : Sub f h := by
  obtain ⟨x, p⟩ := s
  obtain ⟨y, q⟩ := t
  exact ⟨x ++ y, q.trans (by rw [← List.append_assoc]; exact p.append_right y)⟩
theorem Sub.of_perm {f g : List Addr} (p : g.Perm f) : Sub f g := ⟨[], by simpa using p⟩
theorem Sub.right (f g : List Addr) : Sub g (f ++ g) := ⟨f, List.perm_append_comm⟩
theorem Sub.left (f g : List Addr) : Sub f (f ++ g) := ⟨g, List.Perm.refl _⟩
theorem Sub.app {f f' g g' : List Addr} (s : Sub f f') (t : Sub g g') : Sub (f ++ g) (f' ++ g') := by
  obtain ⟨x, p⟩ := s
  obtain ⟨y, q⟩ := t
  refine ⟨x ++ y, (p.append q).trans ?_⟩
  rw [List.append_assoc, List.append_assoc]
  refine List.Perm.append_left f ?_
  rw [← List.append_assoc, ← List.append_assoc]
  exact List.Perm.append_right y List.perm_append_comm
theorem Sub.swap (f g h : List Addr) : Sub (f ++ (g ++ h)) (g ++ (f ++ h)) := by
  refine .of_perm ?_
  rw [← List.append_assoc, ← List.append_assoc]
  exact List.Perm.append_right h List.perm_append_comm
theorem Sub.append_swap (f g h : List Addr) : Sub (f ++ g ++ h) (g ++ f ++ h) := .of_perm (List.Perm.append_right h List.perm_append_comm)

theorem RE.take {fp : List Addr} (h : RE K cm F H σ ρ fp) : ∀ {i : Nat} {d : D}, ρ[i]? = some d → d ≠ .hole → ∃ v f g, σ[i]? = some (some v) ∧ RD K cm F H v d f ∧ RE K cm F H σ (ρ.set i .hole) g ∧ Sub (f ++ g) fp := by
  induction h with
  | nil => intro i d e; simp at e
  | no r ih =>
    intro i d e n
    cases i with
    | zero => simp at e; exact absurd e.symm n
    | succ i =>
      obtain ⟨v, f, g, h1, h2, h3, h4⟩ := ih (by simpa using e) n
      exact ⟨v, f, g, by simpa using h1, h2, .no h3, h4⟩
  | @yes v0 d0 σ0 ρ0 f0 g0 x r ih =>
    intro i d e n
    cases i with
    | zero =>
      simp at e; subst e
      exact ⟨v0, f0, g0, by simp, x, .no r, Sub.refl _⟩
    | succ i =>
      obtain ⟨v, f, g, h1, h2, h3, h4⟩ := ih (by simpa using e) n
      refine ⟨v, f, f0 ++ g, by simpa using h1, h2, .yes x h3, (Sub.swap f f0 g).trans ((Sub.refl f0).app h4)⟩
theorem RE.put {fp : List Addr} (h : RE K cm F H σ ρ fp) : ∀ {i : Nat} {v : V} {d : D} {f : List Addr}, i < σ.length → RD K cm F H v d f → ∃ g, RE K cm F H (σ.set i (some v)) (ρ.set i d) g ∧ Sub g (f ++ fp) := by
  induction h with
  | nil => intro i v d f hi; simp at hi
  | @no x0 σ0 ρ0 g0 r ih =>
    intro i v d f hi hd
    cases i with
    | zero => exact ⟨f ++ g0, .yes hd r, Sub.refl _⟩
    | succ i =>
      obtain ⟨g, h1, h2⟩ := ih (by simpa using hi) hd
      exact ⟨g, .no h1, h2⟩
  | @yes v0 d0 σ0 ρ0 f0 g0 x r ih =>
    intro i v d f hi hd
    cases i with
    | zero => exact ⟨f ++ g0, .yes hd r, (Sub.refl f).app (Sub.right f0 g0)⟩
    | succ i =>
      obtain ⟨g, h1, h2⟩ := ih (by simpa using hi) hd
      exact ⟨f0 ++ g, .yes x h1, ((Sub.refl f0).app h2).trans (Sub.swap f0 f g0)⟩
theorem RE.drop {fp : List Addr} (h : RE K cm F H σ ρ fp) : ∀ (i : Nat), ∃ g, RE K cm F H σ (ρ.set i .hole) g ∧ Sub g fp := by
  induction h with
  | nil => intro i; exact ⟨[], by simpa using .nil, Sub.refl _⟩
  | @no x0 σ0 ρ0 g0 r ih =>
    intro i
    cases i with
    | zero => exact ⟨g0, .no r, Sub.refl _⟩
    | succ i => obtain ⟨g, h1, h2⟩ := ih i; exact ⟨g, .no h1, h2⟩
  | @yes v0 d0 σ0 ρ0 f0 g0 x r ih =>
    intro i
    cases i with
    | zero => exact ⟨g0, .no r, Sub.right f0 g0⟩
    | succ i => obtain ⟨g, h1, h2⟩ := ih i; exact ⟨f0 ++ g, .yes x h1, (Sub.refl f0).app h2⟩

theorem R.ofRE {fp : List Addr} {σ' : L2.St} {ρ' : Sl} {g : List Addr} (fh : Same F H) (wh : Same W H) (wf : ∀ a o, W a = some o → F a = none) (n : fp.Nodup) (m : ∀ a ∈ fp, F a = none ∧ W a = none)
    (h : RE K cm F H σ' ρ' g) (s : Sub g fp) : R K cm W σ' H F ρ' := ⟨fh, wh, wf, g, h, s.nodup n, fun a ha => m a (s.mem ha)⟩
/-- reading a frozen slot -/
theorem R.get (r : R K cm W σ H F ρ) {i : Nat} {q : P} (h : ρ[i]? = some (.pd q)) : ∃ v, σ[i]? = some (some v) ∧ DP K F v q := by
  obtain ⟨fp, e, _⟩ := r.ex
  obtain ⟨v, f, g, h1, h2, _⟩ := e.take h (by simp)
  cases h2 with
  | pd d => exact ⟨v, h1, d⟩
/-- a value is moved out of its slot -/
theorem R.take (r : R K cm W σ H F ρ) {i : Nat} {d : D} (h : ρ[i]? = some d) (n : d ≠ .hole) : ∃ v, σ[i]? = some (some v) ∧ R K cm W (some v :: σ) H F (d :: ρ.set i .hole) := by
  obtain ⟨fp, e, nd, m⟩ := r.ex
  obtain ⟨v, f, g, h1, h2, h3, h4⟩ := e.take h n
  exact ⟨v, h1, .ofRE r.fh r.wh r.wf nd m (.yes h2 h3) h4⟩
/-- the first extra value is moved into a slot -/
theorem R.put (r : R K cm W (some v :: σ) H F (d :: ρ)) {i : Nat} (hi : i < σ.length) : R K cm W (σ.set i (some v)) H F (ρ.set i d) := by
  obtain ⟨fp, e, nd, m⟩ := r.ex
  cases e with
  | no r' =>
    obtain ⟨g, h1, h2⟩ := r'.put (v := v) (d := .hole) hi .hole
    exact .ofRE r.fh r.wh r.wf nd m h1 (by simpa using h2)
  | yes x r' =>
    obtain ⟨g, h1, h2⟩ := r'.put hi x
    exact .ofRE r.fh r.wh r.wf nd m h1 h2
theorem R.back {v : V} {d : D} (r : R K cm W (some v :: σ) H F (d :: ρ)) {i : Nat} (h : σ[i]? = some (some v)) : R K cm W σ H F (ρ.set i d) := by
  obtain ⟨hi, e⟩ := List.getElem?_eq_some_iff.mp h
  have q := r.put hi
  have e2 : σ.set i (some v) = σ := by rw [← e]; exact List.set_getElem_self hi
  rw [e2] at q
  exact q
theorem R.tail {x : Option V} {d : D} (r : R K cm W (x :: σ) H F (d :: ρ)) : R K cm W σ H F ρ := by
  obtain ⟨fp, e, nd, m⟩ := r.ex
  cases e with
  | no r' => exact .ofRE r.fh r.wh r.wf nd m r' (Sub.refl _)
  | yes x r' => exact .ofRE r.fh r.wh r.wf nd m r' (Sub.right _ _)
theorem R.pd (r : R K cm W σ H F ρ) {v : V} {q : P} (h : DP K F v q) : R K cm W (some v :: σ) H F (.pd q :: ρ) := by
  obtain ⟨fp, e, nd, m⟩ := r.ex
  exact .ofRE r.fh r.wh r.wf nd m (.yes (.pd h) e) (Sub.refl _)
theorem R.setPd (r : R K cm W σ H F ρ) {v : V} {q : P} (h : DP K F v q) {i : Nat} (hi : i < σ.length) : R K cm W (σ.set i (some v)) H F (ρ.set i (.pd q)) := (r.pd h).put hi
theorem R.drop (r : R K cm W σ H F ρ) (i : Nat) : R K cm W σ H F (ρ.set i .hole) := by
  obtain ⟨fp, e, nd, m⟩ := r.ex
  obtain ⟨g, h1, h2⟩ := e.drop i
  exact .ofRE r.fh r.wh r.wf nd m h1 h2
theorem R.swap {x y : Option V} {d e : D} (r : R K cm W (x :: y :: σ) H F (d :: e :: ρ)) : R K cm W (y :: x :: σ) H F (e :: d :: ρ) := by
  obtain ⟨fp, h, nd, m⟩ := r.ex
  cases h with
  | no r1 =>
    cases r1 with
    | no r2 => exact .ofRE r.fh r.wh r.wf nd m (.no (.no r2)) (Sub.refl _)
    | yes b r2 => exact .ofRE r.fh r.wh r.wf nd m (.yes b (.no r2)) (Sub.refl _)
  | yes a r1 =>
    cases r1 with
    | no r2 => exact .ofRE r.fh r.wh r.wf nd m (.no (.yes a r2)) (Sub.refl _)
    | yes b r2 => exact .ofRE r.fh r.wh r.wf nd m (.yes b (.yes a r2)) (Sub.swap _ _ _)
end
end HW

namespace HW
open PySem PySem.Spec PyProof.Rows L2
noncomputable section

/-! ### what an expression, a test, a statement reckons -/
abbrev EF := Sl → Option (P × Sl)
abbrev EB := Sl → Option (Bool × Sl)
abbrev ED := Sl → Option (D × Sl)
abbrev EL := Sl → Option (List P × Sl)
def Pu (b : Bool) (ρ ρ' : Sl) (H H' : Hp) : Prop := b = true → ρ' = ρ ∧ Same H H'
theorem Pu.refl {b : Bool} {ρ : Sl} {H : Hp} : Pu b ρ ρ H H := fun _ => ⟨rfl, Same.refl H⟩
theorem Pu.same {b : Bool} {ρ : Sl} {H H' : Hp} (s : Same H H') : Pu b ρ ρ H H' := fun _ => ⟨rfl, s⟩
theorem Pu.trans {a b : Bool} {ρ ρ1 ρ2 : Sl} {H H1 H2 : Hp} (x : Pu a ρ ρ1 H H1) (y : Pu b ρ1 ρ2 H1 H2) : Pu (a && b) ρ ρ2 H H2 := fun h => by
  rw [Bool.and_eq_true] at h
  obtain ⟨e1, s1⟩ := x h.1
  obtain ⟨e2, s2⟩ := y h.2
  exact ⟨e2.trans e1, s1.trans s2⟩
theorem Pu.then {b : Bool} {ρ ρ1 : Sl} {H H1 H2 : Hp} (x : Pu b ρ ρ1 H H1) (s : Same H1 H2) : Pu b ρ ρ1 H H2 := fun h => ⟨(x h).1, (x h).2.trans s⟩

section
variable (K : PySem.W.Frag) (cm : Str → Addr → Prop) (b : Bool)
def tP (f : EF) : TE := fun σ H Q => ∃ W F ρ p ρ', R K cm W σ H F ρ ∧ f ρ = some (p, ρ') ∧ ∀ v H' F', R K cm W σ H' F' ρ' → Same F F' → Pu b ρ ρ' H H' → DP K F' v p → Q v H'
def tA (f : EL) : TA := fun σ H Q => ∃ W F ρ ps ρ', R K cm W σ H F ρ ∧ f ρ = some (ps, ρ') ∧ ∀ vs H' F', R K cm W σ H' F' ρ' → Same F F' → Pu b ρ ρ' H H' → DPs K F' vs ps → Q vs H'
def tT (f : EB) : TT := fun σ H Q => ∃ W F ρ c ρ', R K cm W σ H F ρ ∧ f ρ = some (c, ρ') ∧ ∀ H' F', R K cm W σ H' F' ρ' → Same F F' → Pu b ρ ρ' H H' → Q c H'
/-- a new list of frozen things -/
def tL (f : EL) : TE := fun σ H Q => ∃ W F ρ ps ρ', R K cm W σ H F ρ ∧ f ρ = some (ps, ρ') ∧ ∀ p vs H0 H' F', R K cm W σ H0 F' ρ' → Same F F' → Pu b ρ ρ' H H0 → DPs K F' vs ps → H0 p = none → H' = upd H0 p (.lst vs) → Q (.ref p) H'
def tD (f : ED) : TE := fun σ H Q => ∃ W F ρ d ρ', R K cm W σ H F ρ ∧ f ρ = some (d, ρ') ∧ ∀ v H' F', R K cm W (some v :: σ) H' F' (d :: ρ') → Same F F' → Pu b ρ ρ' H H' → Q v H'
end

section
variable {X : Cx}
theorem PE.imp {e : Expr} {t t' : TE} (h : PE X e t) (m : ∀ σ H Q, t' σ H Q → t σ H Q) : PE X e t' := ⟨fun pins s σ H Q I q => h.run pins s σ H Q I (m _ _ _ q)⟩
theorem PA.imp {e : List Expr} {t t' : TA} (h : PA X e t) (m : ∀ σ H Q, t' σ H Q → t σ H Q) : PA X e t' := ⟨fun pos pins s σ H Q I q => h.run pos pins s σ H Q I (m _ _ _ q)⟩
theorem PT.imp {e : Expr} {t t' : TT} (h : PT X e t) (m : ∀ σ H Q, t' σ H Q → t σ H Q) : PT X e t' := ⟨fun pins s σ H Q I q => h.run pins s σ H Q I (m _ _ _ q)⟩
theorem PW.imp {e : Expr} {t t' : TT} (h : PW X e t) (m : ∀ σ H Q, t' σ H Q → t σ H Q) : PW X e t' := ⟨fun wh pins s σ H Q I q => h.run wh pins s σ H Q I (m _ _ _ q)⟩
theorem PS.imp {e : Stmt} {t t' : TS} (h : PS X e t) (m : ∀ D σ H, t' D σ H → t D σ H) : PS X e t' := ⟨fun pins s σ H D I q => h.run pins s σ H D I (m _ _ _ q)⟩
theorem PSs.imp {e : List Stmt} {t t' : TS} (h : PSs X e t) (m : ∀ D σ H, t' D σ H → t D σ H) : PSs X e t' := ⟨fun pins s σ H D I q => h.run pins s σ H D I (m _ _ _ q)⟩
end

theorem DPs.length {K : PySem.W.Frag} {F : Hp} : ∀ {vs : List V} {ps : List P}, DPs K F vs ps → vs.length = ps.length
  | _, _, .nil => rfl
  | _, _, .cons _ r => by simp [DPs.length r]
theorem DPs.append {K : PySem.W.Frag} {F : Hp} : ∀ {vs us : List V} {ps qs : List P}, DPs K F vs ps → DPs K F us qs → DPs K F (vs ++ us) (ps ++ qs)
  | _, _, _, _, .nil, s => s
  | _, _, _, _, .cons a r, s => .cons a (DPs.append r s)
theorem DPs.get {K : PySem.W.Frag} {F : Hp} : ∀ {vs : List V} {ps : List P} {i : Nat} {p : P}, DPs K F vs ps → ps[i]? = some p → ∃ v, vs[i]? = some v ∧ DP K F v p
  | _, _, _, _, .nil, e => by simp at e
  | _, _, 0, _, .cons a _, e => by simp at e; subst e; exact ⟨_, rfl, a⟩
  | _, _, i + 1, _, .cons _ r, e => by simpa using DPs.get r (by simpa using e)
theorem DPs.getV {K : PySem.W.Frag} {F : Hp} : ∀ {vs : List V} {ps : List P} {i : Nat} {v : V}, DPs K F vs ps → vs[i]? = some v → ∃ p, ps[i]? = some p ∧ DP K F v p
  | _, _, _, _, .nil, e => by simp at e
  | _, _, 0, _, .cons a _, e => by simp at e; subst e; exact ⟨_, rfl, a⟩
  | _, _, i + 1, _, .cons _ r, e => by simpa using DPs.getV r (by simpa using e)
theorem DPs.drop {K : PySem.W.Frag} {F : Hp} : ∀ {vs : List V} {ps : List P} (n : Nat), DPs K F vs ps → DPs K F (vs.drop n) (ps.drop n)
  | _, _, 0, h => h
  | _, _, _ + 1, .nil => .nil
  | _, _, n + 1, .cons _ r => DPs.drop n r
theorem DPs.take {K : PySem.W.Frag} {F : Hp} : ∀ {vs : List V} {ps : List P} (n : Nat), DPs K F vs ps → DPs K F (vs.take n) (ps.take n)
  | _, _, 0, _ => .nil
  | _, _, _ + 1, .nil => .nil
  | _, _, n + 1, .cons a r => .cons a (DPs.take n r)
theorem DPs.set {K : PySem.W.Frag} {F : Hp} {v : V} {p : P} (h : DP K F v p) : ∀ {vs : List V} {ps : List P} (n : Nat), DPs K F vs ps → DPs K F (vs.set n v) (ps.set n p)
  | _, _, _, .nil => .nil
  | _, _, 0, .cons _ r => .cons h r
  | _, _, n + 1, .cons a r => .cons a (DPs.set h n r)
theorem DPs.reverse {K : PySem.W.Frag} {F : Hp} : ∀ {vs : List V} {ps : List P}, DPs K F vs ps → DPs K F vs.reverse ps.reverse
  | _, _, .nil => .nil
  | _, _, .cons a r => by
    rw [List.reverse_cons, List.reverse_cons]; exact (DPs.reverse r).append (.cons a .nil)
theorem DPs.rep {K : PySem.W.Frag} {F : Hp} {vs : List V} {ps : List P} (h : DPs K F vs ps) : ∀ k : Nat, DPs K F (List.replicate k vs).flatten (List.replicate k ps).flatten
  | 0 => .nil
  | k + 1 => by
    rw [List.replicate_succ, List.flatten_cons, List.replicate_succ, List.flatten_cons]
    exact h.append (DPs.rep h k)

/-! ### names, constants -/
def dC (p : P) : EF := fun ρ => some (p, ρ)
def dV (i : Nat) : EF := fun ρ => match ρ[i]? with
  | some (.pd p) => some (p, ρ)
  | _ => none
section
variable {X : Cx} {cm : Str → Addr → Prop} {W : Hp} {pos : Pos}
theorem xc {e : Expr} {v : V} {p : P} (h : PE X e (tC v)) (hv : ∀ F, DP X.K F v p) : PE X e (tP X.K cm true (dC p)) :=
  PE.imp h fun σ H Q ⟨W, F, ρ, q, ρ', r, e, k⟩ => by
    cases e
    exact k v H F r (Same.refl F) Pu.refl (hv F)
theorem x_int {i j} : PE X (.Constant (.int i) j pos) (tP X.K cm true (dC (.int i))) := xc pe_int fun _ => .int i
theorem x_bl {i j} : PE X (.Constant (.bool i) j pos) (tP X.K cm true (dC (.bool i))) := xc pe_bl fun _ => .bl i
theorem x_non {j} : PE X (.Constant .none j pos) (tP X.K cm true (dC .none)) := xc pe_non fun _ => .non
theorem x_str {x j} : PE X (.Constant (.str x) j pos) (tP X.K cm true (dC (.str x))) := xc pe_str fun _ => .str x
theorem dV_some {i : Nat} {ρ ρ' : Sl} {p : P} (h : dV i ρ = some (p, ρ')) : ρ[i]? = some (.pd p) ∧ ρ' = ρ := by
  unfold dV at h
  split at h
  · rename_i q e
    cases h
    exact ⟨e, rfl⟩
  · cases h
theorem xv (i : Nat) {x : Str} {pos : Pos} (hN : X.N[i]? = some x := by rfl) (hv : Vis X.env.scope x := by first | exact Or.inl rfl | exact Or.inr (Or.inl rfl) | exact Or.inr (Or.inr rfl)) (hd : (x == ("__debug__" : Str)) = false := by decide)
    (hcd : (x == ("__classdict__" : Str)) = false := by decide) : PE X (.Name x pos) (tP X.K cm true (dV i)) :=
  PE.imp (pe_var hN hv hd hcd) fun σ H Q ⟨W, F, ρ, p, ρ', r, e, k⟩ => by
    obtain ⟨e1, rfl⟩ := dV_some e
    obtain ⟨v, h1, h2⟩ := r.get e1
    exact ⟨v, h1, k v H F r (Same.refl F) Pu.refl h2⟩

/-! ### two-place operations -/
def dBin (g : P → P → Option P) (f1 f2 : EF) : EF := fun ρ => (f1 ρ).bind fun x => (f2 x.2).bind fun y => (g x.1 y.1).map fun z => (z, y.2)
def VOp (K : PySem.W.Frag) (cm : Str → Addr → Prop) (r : R2) (g : P → P → Option P) : Prop :=
  ∀ {W : Hp} {σ : L2.St} {H F : Hp} {ρ : Sl} {v u : V} {p q z : P} {Q : VK}, R K cm W σ H F ρ → DP K F v p → DP K F u q → g p q = some z →
    (∀ w H' F', R K cm W σ H' F' ρ → Same F F' → Same H H' → DP K F' w z → Q w H') → r v u H Q
theorem bin_imp {r : R2} {g : P → P → Option P} {f1 f2 : EF} {b1 b2 : Bool} (hv : VOp X.K cm r g) : ∀ σ H Q, tP X.K cm (b1 && b2) (dBin g f1 f2) σ H Q → tOp r (tP X.K cm b1 f1) (tP X.K cm b2 f2) σ H Q := by
  rintro σ H Q ⟨W, F, ρ, p, ρ', r, e, k⟩
  simp only [dBin, Option.bind_eq_some_iff, Option.map_eq_some_iff] at e
  obtain ⟨⟨p1, ρ1⟩, e1, ⟨p2, ρ2⟩, e2, z, e3, e4⟩ := e
  cases e4
  refine ⟨W, F, ρ, p1, ρ1, r, e1, fun v H1 F1 r1 s1 u1 d1 => ⟨W, F1, ρ1, p2, ρ2, r1, e2, fun u H2 F2 r2 s2 u2 d2 => ?_⟩⟩
  exact hv r2 (DP.mono d1 s2) d2 e3 fun w H' F' r3 s3 s4 d3 => k w H' F' r3 ((s1.trans s2).trans s3) ((u1.trans u2).then s4) d3
theorem x_bin {op : Operator} {r : R2} {g : P → P → Option P} {f1 f2 : EF} {b1 b2 : Bool} {a c : Expr} (ho : OpR X (binaryOp op) r) (hv : VOp X.K cm r g) (ha : PE X a (tP X.K cm b1 f1)) (hb : PE X c (tP X.K cm b2 f2)) :
    PE X (.BinOp a op c pos) (tP X.K cm (b1 && b2) (dBin g f1 f2)) := PE.imp (pe_op ho ha hb) (bin_imp hv)

/-! lists that are frozen -/
theorem Inv.lstR {pins : List (Addr × Obj)} {σ : L2.St} {H : Hp} {s : Shared} {l : Addr} {xs : List V} (I : Inv X pins σ H s) (hH : LK X.K H l xs) : xs.length ≤ sizeLine ∧ ∃ (its : List Value) (n : Nat), Vals xs its ∧ xs.length = its.length ∧ s.heap.get? l = some { cls := .type "list", data := .seq its.toArray n } := by
  rcases hH with hH | ⟨its, n, hk, hz, r⟩
  · obtain ⟨z, its, n, r, e⟩ := hH.ok I.hok
    exact ⟨z, its,
          n, r, r.length, e⟩
  · exact ⟨by rw [r.length, Array.length_toList]; exact hz, its.toList, n, r, r.length, I.kIn _ _ hk⟩
def rCatR (K : PySem.W.Frag) : R2 := fun x y H Q => ∃ l b xs zs, x = .ref l ∧ y = .ref b ∧ LK K H l xs ∧ LK K H b zs ∧ xs.length + zs.length ≤ sizeLine ∧ ∀ p, H p = none → Q (.ref p) (upd H p (.lst (xs ++ zs)))
theorem op_catR : OpR X (binaryOp .Add) (rCatR X.K) := by
  intro pins s σ H x y v u Q I rx ry h; obtain ⟨l, b, xs, zs, rfl, rfl, zhH, zhB, zhz, q⟩ := h
  cases rx
  cases ry
  obtain ⟨z, its, n, r, zhl, e⟩ := HW.Inv.lstR I zhH
  obtain ⟨z2, its2, n2, r2, zhl2, e2⟩ := HW.Inv.lstR I zhB
  refine PySem.P.add_list e e2 ?_ (by rw
        [List.size_toArray, List.size_toArray]; omega)
  have ea : its.toArray ++ its2.toArray = (its
        ++ its2).toArray := by simp
  rw [ea]
  exact ⟨.ref _, _, I.lnew (t' := s.toks) (r.append r2)
        (by rw [List.length_append]; omega), rfl, q _ I.fresh⟩
def rRepR (K : PySem.W.Frag) : R2 := fun x y H Q => ∃ l k xs, x = .ref l ∧ y = .int k ∧ LK K H l xs ∧ -(2 ^ 63) ≤ k ∧ k < 2 ^ 63 ∧ xs.length * k.toNat ≤ sizeLine ∧
  ∀ p, H p = none → Q (.ref p) (upd H p
        (.lst (List.replicate k.toNat xs).flatten))
theorem op_repR : OpR X (binaryOp .Mult) (rRepR X.K) := by
  intro pins s σ H x y v u Q I rx ry h; obtain ⟨l, k, xs, rfl, rfl, zhH, zh1, zh2, zhz, q⟩ := h
  cases rx
  obtain ⟨t, rfl⟩ := ry
  obtain ⟨z, its, n, r, zhl, e⟩ := HW.Inv.lstR I zhH
  have zhlen : its.toArray.size * k.toNat ≤ sizeLine := by rw [List.size_toArray, ← zhl]; exact zhz
  have zhcap : ¬ its.toArray.size * k.toNat > (2 ^ 63 - 1) / 8 := by
    have : (sizeLine : Nat) ≤ (2
          ^ 63 - 1) / 8 := by decide
    omega
  have zhfit : ¬ (!Builtin.List.listFitsIndex k) = true := by
    rw [fitsIndex_both zh1 zh2]
    exact Bool.false_ne_true
  have zhlong : ¬ Builtin.List.listTooLong (its.toArray.size * k.toNat) = true := by
    rw [notLongL zhlen]
    exact Bool.false_ne_true
  have zhnew : List.foldl (fun x1 x2 => x1 ++ x2) #[] (List.replicate (if its.toArray.isEmpty = true then 0 else k.toNat) its.toArray) = (List.replicate k.toNat its).flatten.toArray := by
    have f0 : ∀ m : Nat, List.foldl (fun x1 x2 => x1 ++ x2) #[] (List.replicate
          m its.toArray) = (List.replicate m its).flatten.toArray := fun m => by
      have := foldl_rep its m []
      rw [List.nil_append] at this
      exact this
    rw [f0]
    cases its with
    | nil => simp
    | cons a r' => rw [if_neg
          (by simp)]
  refine wpAny_binaryOp_repeat_ref (T := "list") (U := "int") (by decide) ⟨_, e, rfl⟩ (fun s' =>
        typeIs_int s' k t) noFill_list_mul F.fills_int_mul F.slot_int_rmul repeat_list F.slot_int_index.lookup
    (call_meets F.slot_int_rmul (typeIs_int s k t) F.entry_int_rmul
          (F.args_int_rmul_2 _ _) (int___rmul___int_list k t l its.toArray n)
      ⟨e, rfl, ⟨_, e, rfl⟩, call_meets F.slot_list_mul ⟨_, e, rfl⟩ F.entry_list_mul (F.args_list_mul_2 _ _) (AutoListH.list___mul___list_int_3 l its.toArray n k t zhfit zhcap zhlong) ⟨e, ?_⟩⟩)
  rw [zhnew]
  exact ⟨.ref _, _, I.lnew (t' := s.toks) (r.rep k.toNat) (by rw [PyProof.Rows.lm_len_rep_flat, Nat.mul_comm]; exact zhz), rfl, q _ I.fresh⟩
end

/-! ### the operations on data -/
def addP : P → P → Option P
  | .int i, .int j => some (.int (i + j))
  | .str x, .str y => if x.length + y.length ≤ 16777216 then some (.str (x ++ y)) else none
  | .list xs, .list ys => if xs.length + ys.length ≤ 16777216 then some (.list (xs ++ ys)) else none
  | .tuple xs, .tuple ys => if xs.length + ys.length ≤ 16777216 then some (.tuple (xs ++ ys)) else none
  | _, _ => none
def subP : P → P → Option P
  | .int i, .int j => some (.int (i - j))
  | _, _ => none
def mulP : P → P → Option P
  | .int i, .int j => @ite _ ((-(2 ^ 64) < i ∧ i < 2 ^ 64) ∨ (-(2 ^ 64) < j ∧ j < 2 ^ 64)) (Classical.propDecidable _) (some (.int (i * j))) none
  | .list xs, .int k => @ite _ (-(2 ^ 63) ≤ k ∧ k < 2 ^ 63 ∧ xs.length * k.toNat ≤ 16777216) (Classical.propDecidable _) (some (.list (List.replicate k.toNat xs).flatten)) none
  | _, _ => none
def fdivP : P → P → Option P
  | .int i, .int j => @ite _ (0 < j ∧ j < 1073741824) (Classical.propDecidable _) (some (.int (i / j))) none
  | _, _ => none
def modP : P → P → Option P
  | .int i, .int j => @ite _ (0 < j) (Classical.propDecidable _) (some (.int (i % j))) none
  | _, _ => none
def powP : P → P → Option P
  | .int i, .int j => @ite _ (0 ≤ j ∧ j ≤ 1000000 ∧ i.natAbs < 2 ^ 64) (Classical.propDecidable _) (some (.int (i ^ j.toNat))) none
  | _, _ => none

section
variable {K : PySem.W.Frag} {cm : Str → Addr → Prop} {W : Hp}
theorem laid_lst {σ : L2.St} {H F : Hp} {ρ : Sl} {vs : List V} {ps : List P} {p : Addr} (h : DPs K F vs ps) (hp : F p = none) : DP K (upd F p (.lst vs)) (.ref p) (.list ps) :=
  .lst (.inl (.inl upd_same)) (DPs.mono h (same_upd hp))
theorem laid_tup {σ : L2.St} {H F : Hp} {ρ : Sl} {vs : List V} {ps : List P} {p : Addr} (h : DPs K F vs ps) (hp : F p = none) : DP K (upd F p (.tup vs)) (.ref p) (.tuple ps) :=
  .tup (.inl (.inl upd_same)) (DPs.mono h (same_upd hp))
theorem vop_I0 {r : R2} {g : P → P → Option P} {f : Int → Int → Int} (hg : ∀ p q z, g p q = some z → ∃ i j, p = .int i ∧ q = .int j ∧ z = .int (f i j))
    : VOp K cm (rI0 fun i j => .int (f i j)) g := by
  intro W σ H F ρ v u p q z Q r d1 d2 e k
  obtain ⟨i, j, rfl, rfl, rfl⟩ := hg _ _ _ e
  cases d1
  cases d2
  exact ⟨i, j, rfl, rfl, k _ H F r (Same.refl F) (Same.refl H) (.int _)⟩
theorem vop_I {C : Int → Int → Prop} {g : P → P → Option P} {f : Int → Int → Int} (hg : ∀ p q z, g p q = some z → ∃ i j, p = .int i ∧ q = .int j ∧ C i j ∧ z = .int (f i j))
    : VOp K cm (rI C fun i j => .int (f i j)) g := by
  intro W σ H F ρ v u p q z Q r d1 d2 e k
  obtain ⟨i, j, rfl, rfl, hc, rfl⟩ := hg _ _ _ e
  cases d1
  cases d2
  exact ⟨i, j, rfl, rfl, hc, k _ H F r (Same.refl F) (Same.refl H) (.int _)⟩
abbrev rAddA (K : PySem.W.Frag) : R2 := fun x y H Q => rI0 (fun i j => .int (i + j)) x y H Q ∨ ((∃ i j, x = .str i ∧ y = .str j ∧ i.length + j.length ≤ sizeLine ∧ Q (.str (i ++ j)) H) ∨ (rCatR K x y H Q ∨ rCatA K x y H Q))
theorem op_addA {X : Cx} : OpR X (binaryOp .Add) (rAddA X.K) := op_add.or (op_add_str.or (op_catR.or op_catA))
theorem vop_add : VOp K cm (rAddA K) addP := by
  intro W σ H F ρ v u p q z Q r d1 d2 e k
  cases d1 <;> cases d2 <;> simp only [addP, reduceCtorEq] at e
  · cases e
    exact .inl ⟨_, _, rfl, rfl, k _ H F r (Same.refl F) (Same.refl H) (.int _)⟩
  · split at e
    · rename_i hz
      cases e
      exact .inr (.inl ⟨_, _, rfl, rfl, by rw [sizeLine_eq]; exact hz, k _ H F r (Same.refl F) (Same.refl H) (.str _)⟩)
    · cases e
  · rename_i a xs ps h1 h2 a' xs' ps' h3 h4
    split at e
    · rename_i hz
      cases e
      refine .inr (.inr (.inl ⟨_, _, _, _, rfl, rfl, LK.mono h1 r.fh, LK.mono h3 r.fh, by rw [sizeLine_eq, DPs.length h2, DPs.length h4]; exact hz, fun p hp => ?_⟩))
      have fp := r.fh.free hp
      exact k _ _ _ (r.laid hp) (same_upd fp) (same_upd hp) (laid_lst (σ := σ) (H := H) (ρ := ρ) (h2.append h4) fp)
    · cases e
  · rename_i a xs ps h1 h2 a' xs' ps' h3 h4
    split at e
    · rename_i hz
      cases e
      refine .inr (.inr (.inr ⟨_, _, _, _, rfl, rfl, SqT.mono h1 r.fh, SqT.mono h3 r.fh, by rw [sizeLine_eq, DPs.length h2, DPs.length h4]; exact hz, fun e => ?_, fun _ e => ?_, fun _ _ p hp => ?_⟩))
      · subst e
        cases h2
        exact k _ H F r (Same.refl F) (Same.refl H) (.tup h3 h4)
      · subst e
        cases h4
        rw [List.append_nil] at k
        exact k _ H F r (Same.refl F) (Same.refl H) (.tup h1 h2)
      · have fp := r.fh.free hp
        exact k _ _ _ (r.laid hp) (same_upd fp) (same_upd hp) (laid_tup (σ := σ) (H := H) (ρ := ρ) (h2.append h4) fp)
    · cases e
theorem vop_sub : VOp K cm (rI0 fun i j => .int (i - j)) subP := vop_I0 (r := rI0 fun i j => .int (i - j)) fun p q z e => by
  cases p <;> cases q <;> simp only [subP, reduceCtorEq] at e
  cases e
  exact ⟨_, _, rfl, rfl, rfl⟩
abbrev rMulA (K : PySem.W.Frag) : R2 := fun x y H Q => rI CMul (fun i j => .int (i * j)) x y H Q ∨ rRepR K x y H Q
theorem op_mulA {X : Cx} : OpR X (binaryOp .Mult) (rMulA X.K) := op_mul.or op_repR
theorem vop_mul : VOp K cm (rMulA K) mulP := by
  intro W σ H F ρ v u p q z Q r d1 d2 e k
  cases d1 <;> cases d2 <;> simp only [mulP, reduceCtorEq] at e
  · split at e
    · rename_i hz
      cases e
      exact .inl ⟨_, _, rfl, rfl, hz, k _ H F r (Same.refl F) (Same.refl H) (.int _)⟩
    · cases e
  · rename_i a xs ps h1 h2 k'
    split at e
    · rename_i hz
      cases e
      refine .inr ⟨_, _, _, rfl, rfl, LK.mono h1 r.fh, hz.1, hz.2.1, by rw [sizeLine_eq, DPs.length h2]; exact hz.2.2, fun p hp => ?_⟩
      have fp := r.fh.free hp
      exact k _ _ _ (r.laid hp) (same_upd fp) (same_upd hp) (laid_lst (σ := σ) (H := H) (ρ := ρ) (h2.rep _) fp)
    · cases e
theorem vop_fdiv : VOp K cm (rI CDiv fun i j => .int (i / j)) fdivP := vop_I fun p q z e => by
  cases p <;> cases q <;> simp only [fdivP, reduceCtorEq] at e
  split at e
  · rename_i hz
    cases e
    exact ⟨_, _, rfl, rfl, hz, rfl⟩
  · cases e
theorem vop_mod : VOp K cm (rI (fun _ j => 0 < j) fun i j => .int (i % j)) modP := vop_I fun p q z e => by
  cases p <;> cases q <;> simp only [modP, reduceCtorEq] at e
  split at e
  · rename_i hz
    cases e
    exact ⟨_, _, rfl, rfl, hz, rfl⟩
  · cases e
theorem vop_pow : VOp K cm (rI CPow fun i j => .int (i ^ j.toNat)) powP := vop_I fun p q z e => by
  cases p <;> cases q <;> simp only [powP, reduceCtorEq] at e
  split at e
  · rename_i hz
    cases e
    exact ⟨_, _, rfl, rfl, hz, rfl⟩
  · cases e
end
section
variable {X : Cx} {cm : Str → Addr → Prop} {W : Hp} {pos : Pos} {a c : Expr} {f1 f2 : EF} {b1 b2 : Bool}
theorem x_add (ha : PE X a (tP X.K cm b1 f1)) (hb : PE X c (tP X.K cm b2 f2)) : PE X (.BinOp a .Add c pos) (tP X.K cm (b1 && b2) (dBin addP f1 f2)) := x_bin op_addA vop_add ha hb
theorem x_sub (ha : PE X a (tP X.K cm b1 f1)) (hb : PE X c (tP X.K cm b2 f2)) : PE X (.BinOp a .Sub c pos) (tP X.K cm (b1 && b2) (dBin subP f1 f2)) := x_bin op_sub vop_sub ha hb
theorem x_mul (ha : PE X a (tP X.K cm b1 f1)) (hb : PE X c (tP X.K cm b2 f2)) : PE X (.BinOp a .Mult c pos) (tP X.K cm (b1 && b2) (dBin mulP f1 f2)) := x_bin op_mulA vop_mul ha hb
theorem x_fdiv (ha : PE X a (tP X.K cm b1 f1)) (hb : PE X c (tP X.K cm b2 f2)) : PE X (.BinOp a .FloorDiv c pos) (tP X.K cm (b1 && b2) (dBin fdivP f1 f2)) := x_bin op_fdiv vop_fdiv ha hb
theorem x_mod (ha : PE X a (tP X.K cm b1 f1)) (hb : PE X c (tP X.K cm b2 f2)) : PE X (.BinOp a .Mod c pos) (tP X.K cm (b1 && b2) (dBin modP f1 f2)) := x_bin op_mod vop_mod ha hb
theorem x_pow (ha : PE X a (tP X.K cm b1 f1)) (hb : PE X c (tP X.K cm b2 f2)) : PE X (.BinOp a .Pow c pos) (tP X.K cm (b1 && b2) (dBin powP f1 f2)) := x_bin op_pow vop_pow ha hb
/-- - a -/
def negP : P → Option P
  | .int i => some (.int (-i))
  | _ => none
def dUn (g : P → Option P) (f : EF) : EF := fun ρ => (f ρ).bind fun x => (g x.1).map fun z => (z, x.2)
theorem x_neg (ha : PE X a (tP X.K cm b1 f1)) : PE X (.UnaryOp .USub a pos) (tP X.K cm b1 (dUn negP f1)) :=
  PE.imp (pe_un un_neg ha) fun σ H Q ⟨W, F, ρ, p, ρ', r, e, k⟩ => by
    simp only [dUn, Option.bind_eq_some_iff, Option.map_eq_some_iff] at e
    obtain ⟨⟨p1, ρ1⟩, e1, z, e3, e4⟩ := e
    cases e4
    refine ⟨W, F, ρ, p1, ρ1, r, e1, fun v H1 F1 r1 s1 u1 d1 => ?_⟩
    cases d1 <;> simp only [negP, reduceCtorEq] at e3
    cases e3
    exact ⟨_, rfl, k _ H1 F1 r1 s1 u1 (.int _)⟩
end
end
end HW

namespace HW
open PySem PySem.Spec PyProof.Rows L2
noncomputable section

/-! ### comparisons of data -/
def flatP : P → Bool
  | .none => true
  | .bool _ => true
  | .int _ => true
  | .str _ => true
  | _ => false
/-- the depth of the less deep one is small -/
def shal (p q : P) : Bool := Nat.ble (min p.depth q.depth) 100
def eqP (p q : P) : Option Bool := if shal p q then some (PyData.eqv p q) else none
def neP (p q : P) : Option Bool := (eqP p q).map (!·)
def notNon : P → Bool
  | .none => false
  | _ => true
def ordP (f : P → P → Bool) (p q : P) : Option Bool := if (PySem.W.alike p q && shal p q) && notNon p then some (f p q) else none
def ltP : P → P → Option Bool
  | .int i, .int j => some (decide (i < j))
  | p, q => ordP (fun p q => PySem.W.dataLt p q) p q
def gtP : P → P → Option Bool
  | .int i, .int j => some (decide (j < i))
  | p, q => ordP (fun p q => PySem.W.dataLt q p) p q
def leP : P → P → Option Bool
  | .int i, .int j => some (decide (i ≤ j))
  | p, q => ordP (fun p q => !PySem.W.dataLt q p) p q
def geP : P → P → Option Bool
  | .int i, .int j => some (decide (j ≤ i))
  | p, q => ordP (fun p q => !PySem.W.dataLt p q) p q
def inP : P → P → Option Bool
  | x, .list ds => if Nat.ble (min (PyData.depthAll ds) x.depth) 100 then some (ds.any fun z => PyData.eqv z x) else none
  | x, .tuple ds => if Nat.ble (min (PyData.depthAll ds) x.depth) 100 then some (ds.any fun z => PyData.eqv z x) else none
  | .str x, .str z => match x.cps.toList with
    | [c] => some (decide (c ∈ z.cps.toList))
    | _ => none
  | _, _ => none
def ninP (p q : P) : Option Bool := (inP p q).map (!·)
def isNP : P → Bool
  | .none => true
  | _ => false

section
variable {K : PySem.W.Frag} {cm : Str → Addr → Prop} {W : Hp} {F H : Hp}
/-- a comparison's rule, by data -/
def COp (K : PySem.W.Frag) (cm : Str → Addr → Prop) (r : R2) (g : P → P → Option Bool) : Prop :=
  ∀ {W : Hp} {σ : L2.St} {H F : Hp} {ρ : Sl} {v u : V} {p q : P} {c : Bool} {Q : VK}, R K cm W σ H F ρ → DP K F v p → DP K F u q → g p q = some c → Q (.bl c) H → r v u H Q
theorem COp.vop {r : R2} {g : P → P → Option Bool} (h : COp K cm r g) : VOp K cm r (fun p q => (g p q).map .bool) := by
  intro W σ H F ρ v u p q z Q r d1 d2 e k
  obtain ⟨c, e1, rfl⟩ := Option.map_eq_some_iff.mp e
  exact h r d1 d2 e1 (k _ H F r (Same.refl F) (Same.refl H) (.bl c))
/-- a comparison of data -/
def rDat (K : PySem.W.Frag) (g : P → P → Option Bool) : R2 := fun x y H Q => ∃ p q c, Dp K H x p ∧ Dp K H y q ∧ g p q = some c ∧ Q (.bl c) H
theorem cop_dat {g : P → P → Option Bool} : COp K cm (rDat K g) g := fun {W σ H F ρ v u p q c Q} r d1 d2 e k => ⟨p, q, c, (DP.mono d1 r.fh).dp, (DP.mono d2 r.fh).dp, e, k⟩
mutual
theorem dp_plain : ∀ {v : V} {p : P}, Dp K H v p → p.plain = true
  | _, _, .non => rfl
  | _, _, .bl _ => rfl
  | _, _, .int _ => rfl
  | _, _, .str _ => rfl
  | _, _, .lst _ h => by simp only [PyData.plain]; exact dps_plain h
  | _, _, .tup _ h => by simp only [PyData.plain]; exact dps_plain h
theorem dps_plain : ∀ {vs : List V} {ps : List P}, DpAll K H vs ps → PyData.plainAll ps = true
  | _, _, .nil => rfl
  | _, _, .cons a b => by simp only [PyData.plainAll, dp_plain a, dps_plain b, Bool.and_self]
end
theorem one_sign {x : Str} {c : Nat} (h : x.cps.toList = [c]) : x = ⟨#[c]⟩ := by
  cases x with
  | mk a => cases a with | mk l => simp at h; subst h; rfl
end
abbrev HU (X : Cx) : Prop := X.A.units + 150 < cLine
section
variable {X : Cx}
theorem op_eqD' (hu : HU X) : OpR X (compareOp .Eq) (rDat X.K eqP) := by
  intro pins s σ H x y v u Q I rx ry ⟨p, q, c, d1, d2, e, k⟩
  obtain ⟨as, r1⟩ := Dp.reads I p x v d1 rx
  obtain ⟨bs, r2⟩ := Dp.reads I q y u d2 ry
  unfold eqP at e
  split at e
  · rename_i hd
    cases e
    have hd := Nat.le_of_ble_eq_true hd
    exact SeqAt.eq_plain r1 r2 (dp_plain d1) (dp_plain d2) (by have : X.A.units + 150 < cLine := hu; omega) ⟨.bl _, H, I, rfl, k⟩
  · cases e
theorem op_neD' (hu : HU X) : OpR X (compareOp .NotEq) (rDat X.K neP) := by
  intro pins s σ H x y v u Q I rx ry ⟨p, q, c, d1, d2, e, k⟩
  obtain ⟨as, r1⟩ := Dp.reads I p x v d1 rx
  obtain ⟨bs, r2⟩ := Dp.reads I q y u d2 ry
  unfold neP eqP at e
  split at e
  · rename_i hd
    cases e
    have hd := Nat.le_of_ble_eq_true hd
    exact SeqAt.ne_plain r1 r2 (dp_plain d1) (dp_plain d2) (by have : X.A.units + 150 < cLine := hu; omega) ⟨.bl _, H, I, rfl, k⟩
  · cases e
theorem ordP_some {f : P → P → Bool} {p q : P} {c : Bool} (e : ordP f p q = some c) : PySem.W.alike p q = true ∧ p ≠ .none ∧ min p.depth q.depth ≤ 100 ∧ c = f p q := by
  unfold ordP at e
  split at e
  · rename_i h
    cases e
    simp only [Bool.and_eq_true] at h
    exact ⟨h.1.1, fun z => by subst z; exact Bool.noConfusion h.2, Nat.le_of_ble_eq_true h.1.2, rfl⟩
  · cases e
theorem ord_op {op : CmpOp} {f : P → P → Bool} {gi : Int → Int → Bool} {g : P → P → Option Bool} (hg : ∀ p q c, g p q = some c → (∃ i j, p = .int i ∧ q = .int j ∧ c = gi i j) ∨ ordP f p q = some c) (hi : ∀ i j, f (.int i) (.int j) = gi i j)
    (hf : ∀ (s : Shared) (a b : Value) (p q : P) (as bs : List Addr) (Q : Value → Shared → Prop), Reads s.heap a p as → Reads s.heap b q bs → PySem.W.alike p q = true → p ≠ .none → X.A.units + min p.depth q.depth < cLine → Q (.bool (f p q)) s → wpAny (model X.prog X.w) X.A (compareOp op a b) Q X.xe s)
    (hu : HU X) : OpR X (compareOp op) (rDat X.K g) := by
  intro pins s σ H x y v u Q I rx ry ⟨p, q, c, d1, d2, e, k⟩
  obtain ⟨as, r1⟩ := Dp.reads I p x v d1 rx
  obtain ⟨bs, r2⟩ := Dp.reads I q y u d2 ry
  have hu' : X.A.units + 150 < cLine := hu
  rcases hg p q c e with ⟨i, j, rfl, rfl, rfl⟩ | e
  · refine hf s v u _ _ as bs _ r1 r2 (by simp only [PySem.W.alike]) (fun z => by cases z) (by simp only [PyData.depth]; omega) ?_
    rw [hi]
    exact ⟨.bl _, H, I, rfl, k⟩
  · obtain ⟨h1, h2, h3, rfl⟩ := ordP_some e
    exact hf s v u p q as bs _ r1 r2 h1 h2 (by omega) ⟨.bl _, H, I, rfl, k⟩
theorem op_ltD (hu : HU X) : OpR X (compareOp .Lt) (rDat X.K ltP) :=
  ord_op (f := fun p q => PySem.W.dataLt p q) (gi := fun i j => decide (i < j)) (fun p q c e => by unfold ltP at e; split at e; exact .inl ⟨_, _, rfl, rfl, by cases e; rfl⟩; exact .inr e) (fun i j => PySem.W.dataLt_int i j)
    (fun s a b p q as bs Q r1 r2 h1 h2 h3 k => PySem.W.lt_data r1 r2 h1 h2 h3 k) hu
theorem op_gtD (hu : HU X) : OpR X (compareOp .Gt) (rDat X.K gtP) :=
  ord_op (f := fun p q => PySem.W.dataLt q p) (gi := fun i j => decide (j < i)) (fun p q c e => by unfold gtP at e; split at e; exact .inl ⟨_, _, rfl, rfl, by cases e; rfl⟩; exact .inr e) (fun i j => PySem.W.dataLt_int j i)
    (fun s a b p q as bs Q r1 r2 h1 h2 h3 k => PySem.W.gt_data r1 r2 h1 h2 h3 k) hu
theorem op_leD (hu : HU X) : OpR X (compareOp .LtE) (rDat X.K leP) :=
  ord_op (f := fun p q => !PySem.W.dataLt q p) (gi := fun i j => decide (i ≤ j)) (fun p q c e => by unfold leP at e; split at e; exact .inl ⟨_, _, rfl, rfl, by cases e; rfl⟩; exact .inr e) (fun i j => by rw [PySem.W.dataLt_int]; by_cases h : j < i <;> simp [h] <;> omega)
    (fun s a b p q as bs Q r1 r2 h1 h2 h3 k => PySem.W.le_data r1 r2 h1 h2 h3 k) hu
theorem op_geD (hu : HU X) : OpR X (compareOp .GtE) (rDat X.K geP) :=
  ord_op (f := fun p q => !PySem.W.dataLt p q) (gi := fun i j => decide (j ≤ i)) (fun p q c e => by unfold geP at e; split at e; exact .inl ⟨_, _, rfl, rfl, by cases e; rfl⟩; exact .inr e) (fun i j => by rw [PySem.W.dataLt_int]; by_cases h : i < j <;> simp [h] <;> omega)
    (fun s a b p q as bs Q r1 r2 h1 h2 h3 k => PySem.W.ge_data r1 r2 h1 h2 h3 k) hu
theorem inP_cases {p q : P} {c : Bool} (e : inP p q = some c) : (∃ ds, q = .list ds ∧ min (PyData.depthAll ds) p.depth ≤ 100 ∧ c = ds.any fun z => PyData.eqv z p) ∨ (∃ ds, q = .tuple ds ∧ min (PyData.depthAll ds) p.depth ≤ 100 ∧ c = ds.any fun z => PyData.eqv z p) ∨
    ∃ ch z, p = .str ⟨#[ch]⟩ ∧ q = .str z ∧ c = decide (ch ∈ z.cps.toList) := by
  cases q with
  | list ds =>
    have e' : (if Nat.ble (min (PyData.depthAll ds) p.depth) 100 then some (ds.any fun z => PyData.eqv z p) else none) = some c := by cases p <;> exact e
    split at e'
    · cases e'; exact .inl ⟨ds, rfl, Nat.le_of_ble_eq_true (by assumption), rfl⟩
    · cases e'
  | tuple ds =>
    have e' : (if Nat.ble (min (PyData.depthAll ds) p.depth) 100 then some (ds.any fun z => PyData.eqv z p) else none) = some c := by cases p <;> exact e
    split at e'
    · cases e'; exact .inr (.inl ⟨ds, rfl, Nat.le_of_ble_eq_true (by assumption), rfl⟩)
    · cases e'
  | str z =>
    cases p <;> simp only [inP, reduceCtorEq] at e
    rename_i x
    split at e
    · rename_i ch hx
      cases e
      obtain rfl := one_sign hx
      exact .inr (.inr ⟨ch, z, rfl, rfl, rfl⟩)
    · cases e
  | _ => cases p <;> simp only [inP, reduceCtorEq] at e
theorem op_inX (hu : HU X) : OpR X (compareOp .In) (rDat X.K inP) := by
  intro pins s σ H x y v u Q I rx ry ⟨p, q, c, d1, d2, e, k⟩
  have hu' : X.A.units + 150 < cLine := hu
  rcases inP_cases e with ⟨ds, rfl, hd, rfl⟩ | ⟨ds, rfl, hd, rfl⟩ | ⟨ch, z, rfl, rfl, rfl⟩
  · obtain ⟨as, r1⟩ := Dp.reads I p x v d1 rx
    obtain ⟨bs, r2⟩ := Dp.reads I _ y u d2 ry
    exact SeqAt.in_list_data r2 r1 (by have := dp_plain d2; simpa only [PyData.plain] using this) (dp_plain d1) (by omega) ⟨.bl _, H, I, rfl, k⟩
  · obtain ⟨as, r1⟩ := Dp.reads I p x v d1 rx
    obtain ⟨bs, r2⟩ := Dp.reads I _ y u d2 ry
    exact SeqAt.in_tuple_data r2 r1 (by have := dp_plain d2; simpa only [PyData.plain] using this) (dp_plain d1) (by omega) ⟨.bl _, H, I, rfl, k⟩
  · cases d1
    cases d2
    exact op_in_sign pins s σ H _ _ v u Q I rx ry ⟨ch, z, rfl, rfl, k⟩
theorem op_ninX (hu : HU X) : OpR X (compareOp .NotIn) (rDat X.K ninP) := by
  intro pins s σ H x y v u Q I rx ry ⟨p, q, c, d1, d2, e, k⟩
  have hu' : X.A.units + 150 < cLine := hu
  obtain ⟨c', e', rfl⟩ := Option.map_eq_some_iff.mp (show (inP p q).map (!·) = some c from e)
  rcases inP_cases e' with ⟨ds, rfl, hd, rfl⟩ | ⟨ds, rfl, hd, rfl⟩ | ⟨ch, z, rfl, rfl, rfl⟩
  · obtain ⟨as, r1⟩ := Dp.reads I p x v d1 rx
    obtain ⟨bs, r2⟩ := Dp.reads I _ y u d2 ry
    exact SeqAt.notIn_list_data r2 r1 (by have := dp_plain d2; simpa only [PyData.plain] using this) (dp_plain d1) (by omega) ⟨.bl _, H, I, rfl, k⟩
  · obtain ⟨as, r1⟩ := Dp.reads I p x v d1 rx
    obtain ⟨bs, r2⟩ := Dp.reads I _ y u d2 ry
    exact SeqAt.notIn_tuple_data r2 r1 (by have := dp_plain d2; simpa only [PyData.plain] using this) (dp_plain d1) (by omega) ⟨.bl _, H, I, rfl, k⟩
  · cases d1
    cases d2
    exact op_notIn_sign pins s σ H _ _ v u Q I rx ry ⟨ch, z, rfl, rfl, k⟩
end

/-! ### comparisons as expressions and as tests -/
def dCmp (g : P → P → Option Bool) (f1 f2 : EF) : EB := fun ρ => (f1 ρ).bind fun x => (f2 x.2).bind fun y => (g x.1 y.1).map fun z => (z, y.2)
def dB (f : EB) : EF := fun ρ => (f ρ).map fun x => (.bool x.1, x.2)
def dChn (g g' : P → P → Option Bool) (f1 f2 f3 : EF) : EB := fun ρ => (f1 ρ).bind fun x => (f2 x.2).bind fun y => (g x.1 y.1).bind fun c =>
  if c then (f3 y.2).bind fun z => (g' y.1 z.1).map fun c' => (c', z.2) else some (false, y.2)
def dAnd (f1 f2 : EB) : EB := fun ρ => (f1 ρ).bind fun x => if x.1 then f2 x.2 else some (false, x.2)
def dOr (f1 f2 : EB) : EB := fun ρ => (f1 ρ).bind fun x => if x.1 then some (true, x.2) else f2 x.2
def dNot (f : EB) : EB := fun ρ => (f ρ).map fun x => (!x.1, x.2)
def dIf (c : EB) (f1 f2 : EF) : EF := fun ρ => (c ρ).bind fun x => if x.1 then f1 x.2 else f2 x.2
def truP : P → Option Bool
  | .none => some false
  | .bool b => some b
  | .int i => some (i != 0)
  | .str x => if x.length ≤ 16777216 then some (x.length != 0) else none
  | .list xs => some (!xs.isEmpty)
  | .tuple xs => some (!xs.isEmpty)
  | .dict _ => none
def dTru (f : EF) : EB := fun ρ => (f ρ).bind fun x => (truP x.1).map fun c => (c, x.2)

section
variable {X : Cx} {cm : Str → Addr → Prop} {W : Hp} {pos : Pos} {a c e : Expr} {f1 f2 f3 : EF} {g1 g2 : EB} {b1 b2 b3 : Bool}
/-- reading a test as a value that is a bool -/
def tBV (t : TT) : TE := fun σ H Q => t σ H fun c H1 => Q (.bl c) H1
theorem tb_imp {f : EB} {b : Bool} : ∀ σ H Q, tP X.K cm b (dB f) σ H Q → tBV (tT X.K cm b f) σ H Q := by
  rintro σ H Q ⟨W, F, ρ, p, ρ', r, e, k⟩
  obtain ⟨⟨c, ρ1⟩, e1, e2⟩ := Option.map_eq_some_iff.mp e
  cases e2
  exact ⟨W, F, ρ, c, ρ1, r, e1, fun H' F' r' s u => k _ H' F' r' s u (.bl c)⟩
theorem cmp_imp {r : R2} {g : P → P → Option Bool} (hv : COp X.K cm r g) : ∀ σ H Q, tT X.K cm (b1 && b2) (dCmp g f1 f2) σ H Q → tTest (tOp r (tP X.K cm b1 f1) (tP X.K cm b2 f2)) σ H Q := by
  rintro σ H Q ⟨W, F, ρ, p, ρ', r, e, k⟩
  simp only [dCmp, Option.bind_eq_some_iff, Option.map_eq_some_iff] at e
  obtain ⟨⟨p1, ρ1⟩, e1, ⟨p2, ρ2⟩, e2, z, e3, e4⟩ := e
  cases e4
  refine ⟨W, F, ρ, p1, ρ1, r, e1, fun v H1 F1 r1 s1 u1 d1 => ⟨W, F1, ρ1, p2, ρ2, r1, e2, fun u H2 F2 r2 s2 u2 d2 => ?_⟩⟩
  exact hv r2 (DP.mono d1 s2) d2 e3 ⟨_, rfl, k H2 F2 r2 (s1.trans s2) (u1.trans u2)⟩
theorem cmpv_imp {r : R2} {g : P → P → Option Bool} (hv : COp X.K cm r g) : ∀ σ H Q, tP X.K cm (b1 && b2) (dB (dCmp g f1 f2)) σ H Q → tOp r (tP X.K cm b1 f1) (tP X.K cm b2 f2) σ H Q := by
  rintro σ H Q ⟨W, F, ρ, p, ρ', r, e, k⟩
  simp only [dB, dCmp, Option.bind_eq_some_iff, Option.map_eq_some_iff] at e
  obtain ⟨⟨w, ρ3⟩, ⟨⟨p1, ρ1⟩, e1, ⟨p2, ρ2⟩, e2, z, e3, e4⟩, e5⟩ := e
  cases e4
  cases e5
  refine ⟨W, F, ρ, p1, ρ1, r, e1, fun v H1 F1 r1 s1 u1 d1 => ⟨W, F1, ρ1, p2, ρ2, r1, e2, fun u H2 F2 r2 s2 u2 d2 => ?_⟩⟩
  exact hv r2 (DP.mono d1 s2) d2 e3 (k _ H2 F2 r2 (s1.trans s2) (u1.trans u2) (.bl _))
theorem t_cmp {op : CmpOp} {r : R2} {g : P → P → Option Bool} (ho : OpR X (compareOp op) r) (hv : COp X.K cm r g) (ha : PE X a (tP X.K cm b1 f1)) (hb : PE X c (tP X.K cm b2 f2)) (hm : behindInMarks op c = false) :
    PT X (.Compare a [op] [c] pos) (tT X.K cm (b1 && b2) (dCmp g f1 f2)) := PT.imp (pt_cmpR ho ha hb hm) (cmp_imp hv)
theorem x_cmp {op : CmpOp} {r : R2} {g : P → P → Option Bool} (ho : OpR X (compareOp op) r) (hv : COp X.K cm r g) (ha : PE X a (tP X.K cm b1 f1)) (hb : PE X c (tP X.K cm b2 f2)) (hm : behindInMarks op c = false) :
    PE X (.Compare a [op] [c] pos) (tP X.K cm (b1 && b2) (dB (dCmp g f1 f2))) := PE.imp (pe_cmpR ho ha hb hm) (cmpv_imp hv)
theorem t_eq (hu : HU X) (ha : PE X a (tP X.K cm b1 f1)) (hb : PE X c (tP X.K cm b2 f2)) : PT X (.Compare a [.Eq] [c] pos) (tT X.K cm (b1 && b2) (dCmp eqP f1 f2)) := t_cmp (op_eqD' hu) cop_dat ha hb (nomark _)
theorem t_ne (hu : HU X) (ha : PE X a (tP X.K cm b1 f1)) (hb : PE X c (tP X.K cm b2 f2)) : PT X (.Compare a [.NotEq] [c] pos) (tT X.K cm (b1 && b2) (dCmp neP f1 f2)) := t_cmp (op_neD' hu) cop_dat ha hb (nomark _)
theorem t_lt (hu : HU X) (ha : PE X a (tP X.K cm b1 f1)) (hb : PE X c (tP X.K cm b2 f2)) : PT X (.Compare a [.Lt] [c] pos) (tT X.K cm (b1 && b2) (dCmp ltP f1 f2)) := t_cmp (op_ltD hu) cop_dat ha hb (nomark _)
theorem t_gt (hu : HU X) (ha : PE X a (tP X.K cm b1 f1)) (hb : PE X c (tP X.K cm b2 f2)) : PT X (.Compare a [.Gt] [c] pos) (tT X.K cm (b1 && b2) (dCmp gtP f1 f2)) := t_cmp (op_gtD hu) cop_dat ha hb (nomark _)
theorem t_le (hu : HU X) (ha : PE X a (tP X.K cm b1 f1)) (hb : PE X c (tP X.K cm b2 f2)) : PT X (.Compare a [.LtE] [c] pos) (tT X.K cm (b1 && b2) (dCmp leP f1 f2)) := t_cmp (op_leD hu) cop_dat ha hb (nomark _)
theorem t_ge (hu : HU X) (ha : PE X a (tP X.K cm b1 f1)) (hb : PE X c (tP X.K cm b2 f2)) : PT X (.Compare a [.GtE] [c] pos) (tT X.K cm (b1 && b2) (dCmp geP f1 f2)) := t_cmp (op_geD hu) cop_dat ha hb (nomark _)
theorem t_in (hu : HU X) (ha : PE X a (tP X.K cm b1 f1)) (hb : PE X c (tP X.K cm b2 f2)) (hm : behindInMarks .In c = false := by with_unfolding_all rfl) : PT X (.Compare a [.In] [c] pos) (tT X.K cm (b1 && b2) (dCmp inP f1 f2)) := t_cmp (op_inX hu) cop_dat ha hb hm
theorem t_nin (hu : HU X) (ha : PE X a (tP X.K cm b1 f1)) (hb : PE X c (tP X.K cm b2 f2)) (hm : behindInMarks .NotIn c = false := by with_unfolding_all rfl) : PT X (.Compare a [.NotIn] [c] pos) (tT X.K cm (b1 && b2) (dCmp ninP f1 f2)) := t_cmp (op_ninX hu) cop_dat ha hb hm
theorem x_eq (hu : HU X) (ha : PE X a (tP X.K cm b1 f1)) (hb : PE X c (tP X.K cm b2 f2)) : PE X (.Compare a [.Eq] [c] pos) (tP X.K cm (b1 && b2) (dB (dCmp eqP f1 f2))) := x_cmp (op_eqD' hu) cop_dat ha hb (nomark _)
theorem x_ne (hu : HU X) (ha : PE X a (tP X.K cm b1 f1)) (hb : PE X c (tP X.K cm b2 f2)) : PE X (.Compare a [.NotEq] [c] pos) (tP X.K cm (b1 && b2) (dB (dCmp neP f1 f2))) := x_cmp (op_neD' hu) cop_dat ha hb (nomark _)
theorem x_lt (hu : HU X) (ha : PE X a (tP X.K cm b1 f1)) (hb : PE X c (tP X.K cm b2 f2)) : PE X (.Compare a [.Lt] [c] pos) (tP X.K cm (b1 && b2) (dB (dCmp ltP f1 f2))) := x_cmp (op_ltD hu) cop_dat ha hb (nomark _)
theorem x_gt (hu : HU X) (ha : PE X a (tP X.K cm b1 f1)) (hb : PE X c (tP X.K cm b2 f2)) : PE X (.Compare a [.Gt] [c] pos) (tP X.K cm (b1 && b2) (dB (dCmp gtP f1 f2))) := x_cmp (op_gtD hu) cop_dat ha hb (nomark _)
theorem x_le (hu : HU X) (ha : PE X a (tP X.K cm b1 f1)) (hb : PE X c (tP X.K cm b2 f2)) : PE X (.Compare a [.LtE] [c] pos) (tP X.K cm (b1 && b2) (dB (dCmp leP f1 f2))) := x_cmp (op_leD hu) cop_dat ha hb (nomark _)
theorem x_ge (hu : HU X) (ha : PE X a (tP X.K cm b1 f1)) (hb : PE X c (tP X.K cm b2 f2)) : PE X (.Compare a [.GtE] [c] pos) (tP X.K cm (b1 && b2) (dB (dCmp geP f1 f2))) := x_cmp (op_geD hu) cop_dat ha hb (nomark _)
theorem x_in (hu : HU X) (ha : PE X a (tP X.K cm b1 f1)) (hb : PE X c (tP X.K cm b2 f2)) (hm : behindInMarks .In c = false := by with_unfolding_all rfl) : PE X (.Compare a [.In] [c] pos) (tP X.K cm (b1 && b2) (dB (dCmp inP f1 f2))) := x_cmp (op_inX hu) cop_dat ha hb hm
theorem x_nin (hu : HU X) (ha : PE X a (tP X.K cm b1 f1)) (hb : PE X c (tP X.K cm b2 f2)) (hm : behindInMarks .NotIn c = false := by with_unfolding_all rfl) : PE X (.Compare a [.NotIn] [c] pos) (tP X.K cm (b1 && b2) (dB (dCmp ninP f1 f2))) := x_cmp (op_ninX hu) cop_dat ha hb hm
/-- is None, is not None -/
def dIsN (f : EF) : EB := fun ρ => (f ρ).map fun x => (isNP x.1, x.2)
theorem isN_of {K : PySem.W.Frag} {F : Hp} {v : V} {p : P} (h : DP K F v p) : decide (v = .non) = isNP p := by cases h <;> rfl
theorem t_isN {j pos'} (ha : PE X a (tP X.K cm b1 f1)) : PT X (.Compare a [.Is] [.Constant .none j pos'] pos) (tT X.K cm b1 (dIsN f1)) :=
  PT.imp (pt_cmp (pc_isN ha)) fun σ H Q ⟨W, F, ρ, p, ρ', r, e, k⟩ => by
    obtain ⟨⟨p1, ρ1⟩, e1, e2⟩ := Option.map_eq_some_iff.mp e
    cases e2
    exact ⟨W, F, ρ, p1, ρ1, r, e1, fun v H1 F1 r1 s1 u1 d1 => ⟨_, rfl, by rw [isN_of d1]; exact k H1 F1 r1 s1 u1⟩⟩
theorem t_notN {j pos'} (ha : PE X a (tP X.K cm b1 f1)) : PT X (.Compare a [.IsNot] [.Constant .none j pos'] pos) (tT X.K cm b1 (dNot (dIsN f1))) :=
  PT.imp (pt_cmp (pc_notN ha)) fun σ H Q ⟨W, F, ρ, p, ρ', r, e, k⟩ => by
    simp only [dNot, dIsN, Option.map_map, Option.map_eq_some_iff] at e
    obtain ⟨⟨p1, ρ1⟩, e1, e2⟩ := e
    cases e2
    exact ⟨W, F, ρ, p1, ρ1, r, e1, fun v H1 F1 r1 s1 u1 d1 => ⟨_, rfl, by rw [isN_of d1]; exact k H1 F1 r1 s1 u1⟩⟩
theorem x_isN {j pos'} (ha : PE X a (tP X.K cm b1 f1)) : PE X (.Compare a [.Is] [.Constant .none j pos'] pos) (tP X.K cm b1 (dB (dIsN f1))) :=
  PE.imp (pe_cmp (pc_isN ha)) fun σ H Q ⟨W, F, ρ, p, ρ', r, e, k⟩ => by
    simp only [dB, dIsN, Option.map_map, Option.map_eq_some_iff] at e
    obtain ⟨⟨p1, ρ1⟩, e1, e2⟩ := e
    cases e2
    exact ⟨W, F, ρ, p1, ρ1, r, e1, fun v H1 F1 r1 s1 u1 d1 => by show Q (.bl (decide (v = .non))) H1; rw [isN_of d1]; exact k _ H1 F1 r1 s1 u1 (.bl _)⟩
theorem x_notN {j pos'} (ha : PE X a (tP X.K cm b1 f1)) : PE X (.Compare a [.IsNot] [.Constant .none j pos'] pos) (tP X.K cm b1 (dB (dNot (dIsN f1)))) :=
  PE.imp (pe_cmp (pc_notN ha)) fun σ H Q ⟨W, F, ρ, p, ρ', r, e, k⟩ => by
    simp only [dB, dNot, dIsN, Option.map_map, Option.map_eq_some_iff] at e
    obtain ⟨⟨p1, ρ1⟩, e1, e2⟩ := e
    cases e2
    exact ⟨W, F, ρ, p1, ρ1, r, e1, fun v H1 F1 r1 s1 u1 d1 => by show Q (.bl (!decide (v = .non))) H1; rw [isN_of d1]; exact k _ H1 F1 r1 s1 u1 (.bl _)⟩
/-- a op b op' c -/
theorem chn_imp {r r' : R2} {g g' : P → P → Option Bool} (hv : COp X.K cm r g) (hv' : COp X.K cm r' g') :
    ∀ σ H Q, tT X.K cm (b1 && (b2 && b3)) (dChn g g' f1 f2 f3) σ H Q → tChain r r' (tP X.K cm b1 f1) (tP X.K cm b2 f2) (tP X.K cm b3 f3) σ H (fun x H' => ∃ k, x = .bl k ∧ Q k H') := by
  rintro σ H Q ⟨W, F, ρ, p, ρ', r, e, k⟩
  simp only [dChn, Option.bind_eq_some_iff] at e
  obtain ⟨⟨p1, ρ1⟩, e1, ⟨p2, ρ2⟩, e2, z, e3, e4⟩ := e
  refine ⟨W, F, ρ, p1, ρ1, r, e1, fun v H1 F1 r1 s1 u1 d1 => ⟨W, F1, ρ1, p2, ρ2, r1, e2, fun u H2 F2 r2 s2 u2 d2 => ?_⟩⟩
  refine hv r2 (DP.mono d1 s2) d2 e3 ⟨z, rfl, ?_⟩
  cases z with
  | false =>
    rw [if_neg Bool.false_ne_true] at e4 ⊢
    cases e4
    exact ⟨false, rfl, k H2 F2 r2 (s1.trans s2) fun h => by
      simp only [Bool.and_eq_true] at h
      exact (u1.trans u2) (by simp [h.1, h.2.1])⟩
  | true =>
    rw [if_pos rfl] at e4 ⊢
    simp only [Option.bind_eq_some_iff, Option.map_eq_some_iff] at e4
    obtain ⟨⟨p3, ρ3⟩, e5, c', e6, e7⟩ := e4
    cases e7
    refine ⟨W, F2, ρ2, p3, ρ3, r2, e5, fun w H3 F3 r3 s3 u3 d3 => ?_⟩
    exact hv' r3 (DP.mono d2 s3) d3 e6 ⟨_, rfl, k H3 F3 r3 ((s1.trans s2).trans s3) (u1.trans (u2.trans u3))⟩
theorem t_chn {op op' : CmpOp} {r r' : R2} {g g' : P → P → Option Bool} (ho : OpR X (compareOp op) r) (ho' : OpR X (compareOp op') r') (hv : COp X.K cm r g) (hv' : COp X.K cm r' g')
    (ha : PE X a (tP X.K cm b1 f1)) (hb : PE X c (tP X.K cm b2 f2)) (hc : PE X e (tP X.K cm b3 f3)) (hm : lastMarks [op, op'] [c, e] = false := by with_unfolding_all rfl) :
    PT X (.Compare a [op, op'] [c, e] pos) (tT X.K cm (b1 && (b2 && b3)) (dChn g g' f1 f2 f3)) := PT.imp (pt_chain ho ho' ha hb hc hm) (chn_imp hv hv')
/-- a chain as a value -/
theorem chnv_imp {r r' : R2} {g g' : P → P → Option Bool} (hv : COp X.K cm r g) (hv' : COp X.K cm r' g') :
    ∀ σ H Q, tP X.K cm (b1 && (b2 && b3)) (dB (dChn g g' f1 f2 f3)) σ H Q → tChain r r' (tP X.K cm b1 f1) (tP X.K cm b2 f2) (tP X.K cm b3 f3) σ H Q := by
  rintro σ H Q ⟨W, F, ρ, p, ρ', r, e, k⟩
  obtain ⟨⟨w, ρ4⟩, e', e0⟩ := Option.map_eq_some_iff.mp e
  cases e0
  simp only [dChn, Option.bind_eq_some_iff] at e'
  obtain ⟨⟨p1, ρ1⟩, e1, ⟨p2, ρ2⟩, e2, z, e3, e4⟩ := e'
  refine ⟨W, F, ρ, p1, ρ1, r, e1, fun v H1 F1 r1 s1 u1 d1 => ⟨W, F1, ρ1, p2, ρ2, r1, e2, fun u H2 F2 r2 s2 u2 d2 => ?_⟩⟩
  refine hv r2 (DP.mono d1 s2) d2 e3 ⟨z, rfl, ?_⟩
  cases z with
  | false =>
    rw [if_neg Bool.false_ne_true] at e4 ⊢
    cases e4
    exact k _ H2 F2 r2 (s1.trans s2) (fun h => by
      simp only [Bool.and_eq_true] at h
      exact (u1.trans u2) (by simp [h.1, h.2.1])) (.bl _)
  | true =>
    rw [if_pos rfl] at e4 ⊢
    simp only [Option.bind_eq_some_iff, Option.map_eq_some_iff] at e4
    obtain ⟨⟨p3, ρ3⟩, e5, c', e6, e7⟩ := e4
    cases e7
    refine ⟨W, F2, ρ2, p3, ρ3, r2, e5, fun w H3 F3 r3 s3 u3 d3 => ?_⟩
    exact hv' r3 (DP.mono d2 s3) d3 e6 (k _ H3 F3 r3 ((s1.trans s2).trans s3) (u1.trans (u2.trans u3)) (.bl _))
theorem x_chn {op op' : CmpOp} {r r' : R2} {g g' : P → P → Option Bool} (ho : OpR X (compareOp op) r) (ho' : OpR X (compareOp op') r') (hv : COp X.K cm r g) (hv' : COp X.K cm r' g')
    (ha : PE X a (tP X.K cm b1 f1)) (hb : PE X c (tP X.K cm b2 f2)) (hc : PE X e (tP X.K cm b3 f3)) (hm : lastMarks [op, op'] [c, e] = false := by with_unfolding_all rfl) :
    PE X (.Compare a [op, op'] [c, e] pos) (tP X.K cm (b1 && (b2 && b3)) (dB (dChn g g' f1 f2 f3))) := PE.imp (pe_chain ho ho' ha hb hc hm) (chnv_imp hv hv')

/-! ### and, or, not, truth -/
theorem and_imp {f g : EB} : ∀ σ H Q, tT X.K cm (b1 && b2) (dAnd f g) σ H Q → tAnd (tT X.K cm b1 f) (tT X.K cm b2 g) σ H Q := by
  rintro σ H Q ⟨W, F, ρ, p, ρ', r, e, k⟩
  simp only [dAnd, Option.bind_eq_some_iff] at e
  obtain ⟨⟨c1, ρ1⟩, e1, e2⟩ := e
  refine ⟨W, F, ρ, c1, ρ1, r, e1, fun H1 F1 r1 s1 u1 => ?_⟩
  cases c1 with
  | false =>
    rw [if_neg Bool.false_ne_true] at e2 ⊢
    cases e2
    exact k H1 F1 r1 s1 fun h => u1 (by rw [Bool.and_eq_true] at h; exact h.1)
  | true =>
    rw [if_pos rfl] at e2 ⊢
    exact ⟨W, F1, ρ1, p, ρ', r1, e2, fun H2 F2 r2 s2 u2 => k H2 F2 r2 (s1.trans s2) (u1.trans u2)⟩
theorem or_imp {f g : EB} : ∀ σ H Q, tT X.K cm (b1 && b2) (dOr f g) σ H Q → tOr (tT X.K cm b1 f) (tT X.K cm b2 g) σ H Q := by
  rintro σ H Q ⟨W, F, ρ, p, ρ', r, e, k⟩
  simp only [dOr, Option.bind_eq_some_iff] at e
  obtain ⟨⟨c1, ρ1⟩, e1, e2⟩ := e
  refine ⟨W, F, ρ, c1, ρ1, r, e1, fun H1 F1 r1 s1 u1 => ?_⟩
  cases c1 with
  | true =>
    rw [if_pos rfl] at e2 ⊢
    cases e2
    exact k H1 F1 r1 s1 fun h => u1 (by rw [Bool.and_eq_true] at h; exact h.1)
  | false =>
    rw [if_neg Bool.false_ne_true] at e2 ⊢
    exact ⟨W, F1, ρ1, p, ρ', r1, e2, fun H2 F2 r2 s2 u2 => k H2 F2 r2 (s1.trans s2) (u1.trans u2)⟩
theorem w_one_and {t : TT} (h : PT X a t) : PW X (.BoolOp .And [a] pos) t := pw_and1 h
theorem w_one_or {t : TT} (h : PT X a t) : PW X (.BoolOp .Or [a] pos) t := pw_or1 h
theorem w_and {rest : List Expr} {f g : EB} (ha : PT X a (tT X.K cm b1 f)) (hb : PW X (.BoolOp .And (c :: rest) pos) (tT X.K cm b2 g)) : PW X (.BoolOp .And (a :: c :: rest) pos) (tT X.K cm (b1 && b2) (dAnd f g)) := PW.imp (pw_and ha hb) and_imp
theorem w_or {rest : List Expr} {f g : EB} (ha : PT X a (tT X.K cm b1 f)) (hb : PW X (.BoolOp .Or (c :: rest) pos) (tT X.K cm b2 g)) : PW X (.BoolOp .Or (a :: c :: rest) pos) (tT X.K cm (b1 && b2) (dOr f g)) := PW.imp (pw_or ha hb) or_imp
theorem t_not {f : EB} (ha : PT X a (tT X.K cm b1 f)) : PT X (.UnaryOp .Not a pos) (tT X.K cm b1 (dNot f)) :=
  PT.imp (pt_not ha) fun σ H Q ⟨W, F, ρ, p, ρ', r, e, k⟩ => by
    obtain ⟨⟨p1, ρ1⟩, e1, e2⟩ := Option.map_eq_some_iff.mp e
    cases e2
    exact ⟨W, F, ρ, p1, ρ1, r, e1, fun H1 F1 r1 s1 u1 => k H1 F1 r1 s1 u1⟩
/-- and, or, not as values of bools -/
theorem xb_one {op} {f : EF} (h : PE X a (tP X.K cm b1 f)) : PE X (.BoolOp op [a] pos) (tP X.K cm b1 f) := pe_one h
theorem dB_inv {f : EB} {ρ ρ' : Sl} {p : P} (h : dB f ρ = some (p, ρ')) : ∃ c, p = .bool c ∧ f ρ = some (c, ρ') := by
  obtain ⟨⟨c, ρ1⟩, e1, e2⟩ := Option.map_eq_some_iff.mp h
  cases e2
  exact ⟨c, rfl, e1⟩
theorem xb_and {rest : List Expr} {f g : EB} (ha : PE X a (tP X.K cm b1 (dB f))) (hb : PE X (.BoolOp .And (c :: rest) pos) (tP X.K cm b2 (dB g))) : PE X (.BoolOp .And (a :: c :: rest) pos) (tP X.K cm (b1 && b2) (dB (dAnd f g))) :=
  PE.imp (pe_and ha hb) fun σ H Q ⟨W, F, ρ, p, ρ', r, e, k⟩ => by
    obtain ⟨z, rfl, e'⟩ := dB_inv e
    simp only [dAnd, Option.bind_eq_some_iff] at e'
    obtain ⟨⟨c1, ρ1⟩, e1, e2⟩ := e'
    refine ⟨W, F, ρ, .bool c1, ρ1, r, by simp only [dB, e1, Option.map_some], fun v H1 F1 r1 s1 u1 d1 => ?_⟩
    cases d1
    refine ⟨c1, rfl, ?_⟩
    cases c1 with
    | false =>
      rw [if_neg Bool.false_ne_true] at e2 ⊢
      cases e2
      exact k _ H1 F1 r1 s1 (fun h => u1 (by rw [Bool.and_eq_true] at h; exact h.1)) (.bl _)
    | true =>
      rw [if_pos rfl] at e2 ⊢
      exact ⟨W, F1, ρ1, .bool z, ρ', r1, by simp only [dB, e2, Option.map_some], fun v H2 F2 r2 s2 u2 d2 => k v H2 F2 r2 (s1.trans s2) (u1.trans u2) d2⟩
theorem xb_or {rest : List Expr} {f g : EB} (ha : PE X a (tP X.K cm b1 (dB f))) (hb : PE X (.BoolOp .Or (c :: rest) pos) (tP X.K cm b2 (dB g))) : PE X (.BoolOp .Or (a :: c :: rest) pos) (tP X.K cm (b1 && b2) (dB (dOr f g))) :=
  PE.imp (pe_or ha hb) fun σ H Q ⟨W, F, ρ, p, ρ', r, e, k⟩ => by
    obtain ⟨z, rfl, e'⟩ := dB_inv e
    simp only [dOr, Option.bind_eq_some_iff] at e'
    obtain ⟨⟨c1, ρ1⟩, e1, e2⟩ := e'
    refine ⟨W, F, ρ, .bool c1, ρ1, r, by simp only [dB, e1, Option.map_some], fun v H1 F1 r1 s1 u1 d1 => ?_⟩
    cases d1
    refine ⟨c1, rfl, ?_⟩
    cases c1 with
    | true =>
      rw [if_pos rfl] at e2 ⊢
      cases e2
      exact k _ H1 F1 r1 s1 (fun h => u1 (by rw [Bool.and_eq_true] at h; exact h.1)) (.bl _)
    | false =>
      rw [if_neg Bool.false_ne_true] at e2 ⊢
      exact ⟨W, F1, ρ1, .bool z, ρ', r1, by simp only [dB, e2, Option.map_some], fun v H2 F2 r2 s2 u2 d2 => k v H2 F2 r2 (s1.trans s2) (u1.trans u2) d2⟩
theorem xb_not {f : EB} (ha : PE X a (tP X.K cm b1 (dB f))) : PE X (.UnaryOp .Not a pos) (tP X.K cm b1 (dB (dNot f))) :=
  PE.imp (pe_not ha) fun σ H Q ⟨W, F, ρ, p, ρ', r, e, k⟩ => by
    obtain ⟨z, rfl, e'⟩ := dB_inv e
    obtain ⟨⟨c1, ρ1⟩, e1, e2⟩ := Option.map_eq_some_iff.mp e'
    cases e2
    refine ⟨W, F, ρ, .bool c1, ρ1, r, by simp only [dB, e1, Option.map_some], fun v H1 F1 r1 s1 u1 d1 => ?_⟩
    cases d1
    exact ⟨c1, rfl, k _ H1 F1 r1 s1 u1 (.bl _)⟩
theorem tru_of {K : PySem.W.Frag} {F H : Hp} {v : V} {p : P} {k : Bool} (h : DP K F v p) (s : Same F H) (e : truP p = some k) : TruV K v H k := by
  cases h with
  | non => cases e; rfl
  | bl b => cases e; rfl
  | int i => cases e; rfl
  | str x =>
    simp only [truP] at e
    split at e
    · rename_i hz
      cases e
      refine ⟨by rw [sizeLine_eq]; exact hz, ?_⟩
      show (x.length != 0) = ((x.length : Int) != 0)
      rw [Bool.eq_iff_iff]
      simp
    · cases e
  | lst h1 h2 =>
    rename_i a xs ps
    cases e
    refine .inl ⟨xs, (LK.mono h1 s).seq, ?_⟩
    cases h2 <;> rfl
  | tup h1 h2 =>
    rename_i a xs ps
    cases e
    refine .inr (.inl ⟨xs, SqT.mono h1 s, ?_⟩)
    cases h2 <;> rfl
/-- a value as a test (a name, a call, a subscript, a field ..) -/
theorem t_tru {f : EF} (ha : PE X a (tP X.K cm b1 f)) (he : ∀ whole, isTrue a X.env whole = (do let v ← whole; standAt a.pos; holding [v] (truthy v)) := by exact fun _ => rfl) : PT X a (tT X.K cm b1 (dTru f)) :=
  PT.imp (pt_truth ha he) fun σ H Q ⟨W, F, ρ, p, ρ', r, e, k⟩ => by
    simp only [dTru, Option.bind_eq_some_iff, Option.map_eq_some_iff] at e
    obtain ⟨⟨p1, ρ1⟩, e1, z, e2, e3⟩ := e
    cases e3
    exact ⟨W, F, ρ, p1, ρ1, r, e1, fun v H1 F1 r1 s1 u1 d1 => ⟨_, tru_of d1 r1.fh e2, k H1 F1 r1 s1 u1⟩⟩
theorem x_if {cnd : Expr} {g : EB} (hc : PT X cnd (tT X.K cm b3 g)) (ha : PE X a (tP X.K cm b1 f1)) (hb : PE X c (tP X.K cm b2 f2)) : PE X (.IfExp cnd a c pos) (tP X.K cm (b3 && (b1 && b2)) (dIf g f1 f2)) :=
  PE.imp (pe_ifExp hc ha hb) fun σ H Q ⟨W, F, ρ, p, ρ', r, e, k⟩ => by
    simp only [dIf, Option.bind_eq_some_iff] at e
    obtain ⟨⟨c1, ρ1⟩, e1, e2⟩ := e
    refine ⟨W, F, ρ, c1, ρ1, r, e1, fun H1 F1 r1 s1 u1 => ?_⟩
    have pu : ∀ {bb : Bool} {ρ2 : Sl} {H2 : Hp}, (bb = b1 ∨ bb = b2) → Pu bb ρ1 ρ2 H1 H2 → Pu (b3 && (b1 && b2)) ρ ρ2 H H2 := fun {bb ρ2 H2} hb u h => by
      simp only [Bool.and_eq_true] at h
      rcases hb with rfl | rfl
      · exact (u1.trans u) (by simp [h.1, h.2.1])
      · exact (u1.trans u) (by simp [h.1, h.2.2])
    cases c1 with
    | true =>
      rw [if_pos rfl] at e2
      exact iteT ⟨W, F1, ρ1, p, ρ', r1, e2, fun v H2 F2 r2 s2 u2 d2 => k v H2 F2 r2 (s1.trans s2) (pu (.inl rfl) u2) d2⟩
    | false =>
      rw [if_neg Bool.false_ne_true] at e2
      exact iteF ⟨W, F1, ρ1, p, ρ', r1, e2, fun v H2 F2 r2 s2 u2 d2 => k v H2 F2 r2 (s1.trans s2) (pu (.inr rfl) u2) d2⟩
end
end
end HW

namespace HW
open PySem PySem.Spec PyProof.Rows L2
noncomputable section

/-! ### argument lists, displays -/
def dArgs : List EF → EL
  | [] => fun ρ => some ([], ρ)
  | f :: fs => fun ρ => (f ρ).bind fun x => (dArgs fs x.2).map fun y => (x.1 :: y.1, y.2)
theorem dArgs_len : ∀ {fs : List EF} {ρ ρ' : Sl} {ps : List P}, dArgs fs ρ = some (ps, ρ') → ps.length = fs.length
  | [], _, _, _, h => by cases h; rfl
  | f :: fs, ρ, ρ', ps, h => by
    simp only [dArgs, Option.bind_eq_some_iff, Option.map_eq_some_iff] at h
    obtain ⟨⟨p1, ρ1⟩, e1, ⟨ps2, ρ2⟩, e2, e3⟩ := h
    cases e3
    simp [dArgs_len e2]
section
variable {X : Cx} {cm : Str → Addr → Prop} {W : Hp} {pos : Pos} {a c e : Expr} {es : List Expr} {f f1 f2 : EF} {fs : List EF} {b b1 b2 b3 : Bool}
theorem a_nil : PA X [] (tA X.K cm true (dArgs [])) :=
  PA.imp pa_nil fun σ H Q ⟨W, F, ρ, p, ρ', r, e, k⟩ => by
    cases e
    exact k [] H F r (Same.refl F) Pu.refl .nil
theorem a_cons (ha : PE X e (tP X.K cm b1 f)) (hr : PA X es (tA X.K cm b2 (dArgs fs))) (hs : starEach (e :: es) X.env = (false, eval e X.env) :: starEach es X.env := by rfl) : PA X (e :: es) (tA X.K cm (b1 && b2) (dArgs (f :: fs))) :=
  PA.imp (pa_cons ha hr hs) fun σ H Q ⟨W, F, ρ, p, ρ', r, e, k⟩ => by
    simp only [dArgs, Option.bind_eq_some_iff, Option.map_eq_some_iff] at e
    obtain ⟨⟨p1, ρ1⟩, e1, ⟨ps, ρ2⟩, e2, e3⟩ := e
    cases e3
    refine ⟨W, F, ρ, p1, ρ1, r, e1, fun v H1 F1 r1 s1 u1 d1 => ⟨W, F1, ρ1, ps, ρ2, r1, e2, fun vs H2 F2 r2 s2 u2 d2 => ?_⟩⟩
    exact k _ H2 F2 r2 (s1.trans s2) (u1.trans u2) (.cons (DP.mono d1 s2) d2)
def dTup (fs : List EF) : EF := fun ρ => (dArgs fs ρ).map fun x => (.tuple x.1, x.2)
theorem x_tup {x1} (h : PA X es (tA X.K cm b (dArgs fs))) (hl : Nat.ble fs.length 1000 = true := by rfl) : PE X (.Tuple es x1 pos) (tP X.K cm b (dTup fs)) :=
  PE.imp (pe_tup h) fun σ H Q ⟨W, F, ρ, p, ρ', r, e, k⟩ => by
    obtain ⟨⟨ps, ρ1⟩, e1, e2⟩ := Option.map_eq_some_iff.mp e
    cases e2
    refine ⟨W, F, ρ, ps, ρ1, r, e1, fun vs H1 F1 r1 s1 u1 d1 => ⟨?_, fun p hp => ?_⟩⟩
    · rw [DPs.length d1, dArgs_len e1, sizeLine_eq]
      have := Nat.le_of_ble_eq_true hl
      omega
    · have fp := r1.fh.free hp
      exact k _ _ _ (r1.laid hp) (s1.trans (same_upd fp)) (u1.then (same_upd hp)) (laid_tup (σ := σ) (H := H1) (ρ := ρ1) d1 fp)
/-- a new list -/
theorem l_lst (h : PA X es (tA X.K cm b (dArgs fs))) (hl : Nat.ble fs.length 1000 = true := by rfl) : PE X (.List es pos) (tL X.K cm b (dArgs fs)) :=
  PE.imp (pe_lst h) fun σ H Q ⟨W, F, ρ, p, ρ', r, e, k⟩ => by
    refine ⟨W, F, ρ, p, ρ', r, e, fun vs H1 F1 r1 s1 u1 d1 => ⟨?_, fun p hp => k p vs H1 _ F1 r1 s1 u1 d1 hp rfl⟩⟩
    rw [DPs.length d1, dArgs_len e, sizeLine_eq]
    have := Nat.le_of_ble_eq_true hl
    omega
/-- a new list, frozen -/
def dLst (f : EL) : EF := fun ρ => (f ρ).map fun x => (.list x.1, x.2)
theorem x_ofL {f : EL} (h : PE X e (tL X.K cm b f)) : PE X e (tP X.K cm b (dLst f)) :=
  PE.imp h fun σ H Q ⟨W, F, ρ, p, ρ', r, e, k⟩ => by
    obtain ⟨⟨ps, ρ1⟩, e1, e2⟩ := Option.map_eq_some_iff.mp e
    cases e2
    refine ⟨W, F, ρ, ps, ρ1, r, e1, fun q vs H0 H1 F1 r1 s1 u1 d1 hp e3 => ?_⟩
    subst e3
    have fp := r1.fh.free hp
    exact k _ _ _ (r1.laid hp) (s1.trans (same_upd fp)) (u1.then (same_upd hp)) (laid_lst (σ := σ) (H := H0) (ρ := ρ1) d1 fp)
/-- as data with marks -/
def dPd (f : EF) : ED := fun ρ => (f ρ).map fun x => (.pd x.1, x.2)
theorem d_ofP (h : PE X e (tP X.K cm b f)) : PE X e (tD X.K cm b (dPd f)) :=
  PE.imp h fun σ H Q ⟨W, F, ρ, p, ρ', r, e, k⟩ => by
    obtain ⟨⟨q, ρ1⟩, e1, e2⟩ := Option.map_eq_some_iff.mp e
    cases e2
    exact ⟨W, F, ρ, q, ρ1, r, e1, fun v H1 F1 r1 s1 u1 d1 => k v H1 F1 (r1.pd d1) s1 u1⟩
def pds (ps : List P) : List D := ps.map .pd
theorem rds_pds {K : PySem.W.Frag} {F H : Hp} : ∀ {vs : List V} {ps : List P}, DPs K F vs ps → RDs K cm F H vs (pds ps) []
  | _, _, .nil => .nil
  | _, _, .cons a r => by
    have q := RDs.cons (RD.pd (cm := cm) (H := H) a) (rds_pds (H := H) r)
    exact q
theorem R.newL {K : PySem.W.Frag} {σ : L2.St} {H F : Hp} {ρ : Sl} {vs : List V} {ps : List P} {p : Addr} (r : R K cm W σ H F ρ) (h : DPs K F vs ps) (hp : H p = none) : R K cm W (some (.ref p) :: σ) (upd H p (.lst vs)) F (.ol (pds ps) :: ρ) := by
  obtain ⟨fp, h1, n, m⟩ := r.ex
  have fp0 : F p = none := r.fh.free hp
  have wp0 : W p = none := r.wh.free hp
  refine ⟨fun a o q => same_upd hp _ _ (r.fh a o q), fun a o q => same_upd hp _ _ (r.wh a o q), r.wf, p :: fp, ?_, ?_, ?_⟩
  · exact .yes (f := [p]) (.ol upd_same (rds_pds h)) (h1.mono (Same.refl F) fun a _ o q => same_upd hp a o q)
  · refine List.nodup_cons.mpr ⟨fun q => ?_, n⟩
    obtain ⟨o, ho⟩ := h1.there p q
    rw [hp] at ho
    cases ho
  · intro a ha
    rcases List.mem_cons.mp ha with rfl | ha
    · exact ⟨fp0, wp0⟩
    · exact m a ha
/-- .. as an owned list -/
def dOl (f : EL) : ED := fun ρ => (f ρ).map fun x => (.ol (pds x.1), x.2)
theorem d_ofL {f : EL} (h : PE X e (tL X.K cm b f)) : PE X e (tD X.K cm b (dOl f)) :=
  PE.imp h fun σ H Q ⟨W, F, ρ, p, ρ', r, e, k⟩ => by
    obtain ⟨⟨ps, ρ1⟩, e1, e2⟩ := Option.map_eq_some_iff.mp e
    cases e2
    refine ⟨W, F, ρ, ps, ρ1, r, e1, fun q vs H0 H1 F1 r1 s1 u1 d1 hp e3 => ?_⟩
    subst e3
    exact k _ _ _ (R.newL r1 d1 hp) s1 (u1.then (same_upd hp))

/-! ### subscripts -/
def idxP : P → P → Option P
  | .list xs, .int i => atI xs i
  | .tuple xs, .int i => atI xs i
  | .str z, .int i => if z.length ≤ 16777216 then (atI z.cps.toList i).map fun c => .str ⟨#[c]⟩ else none
  | _, _ => none
theorem atI_ds {K : PySem.W.Frag} {F : Hp} {vs : List V} {ps : List P} {i : Int} {p : P} (h : DPs K F vs ps) (e : atI ps i = some p) : ∃ v, atI vs i = some v ∧ DP K F v p := by
  unfold atI at e ⊢
  rw [DPs.length h]
  obtain ⟨j, e1, e2⟩ := Option.bind_eq_some_iff.mp e
  obtain ⟨v, e3, d⟩ := DPs.get h e2
  exact ⟨v, by rw [e1]; exact e3, d⟩
theorem vop_idx {K : PySem.W.Frag} : VOp K cm (rIx K) idxP := by
  intro W σ H F ρ v u p q z Q r d1 d2 e k
  cases d1 <;> cases d2 <;> simp only [idxP, reduceCtorEq] at e
  · split at e
    · rename_i hz
      obtain ⟨c, e1, rfl⟩ := Option.map_eq_some_iff.mp e
      exact .inr (.inr ⟨_, _, c, rfl, rfl, by rw [sizeLine_eq]; exact hz, e1, k _ H F r (Same.refl F) (Same.refl H) (.str _)⟩)
    · cases e
  · rename_i a xs ps h1 h2 i
    obtain ⟨w, e1, d⟩ := atI_ds h2 e
    exact .inl ⟨a, xs, i, w, rfl, rfl, (LK.mono h1 r.fh).seq, e1, k _ H F r (Same.refl F) (Same.refl H) d⟩
  · rename_i a xs ps h1 h2 i
    obtain ⟨w, e1, d⟩ := atI_ds h2 e
    exact .inr (.inl ⟨a, xs, i, w, rfl, rfl, SqT.mono h1 r.fh, e1, k _ H F r (Same.refl F) (Same.refl H) d⟩)
theorem x_ix (ha : PE X a (tP X.K cm b1 f1)) (hb : PE X c (tP X.K cm b2 f2)) (hs : PlainIx c := by exact fun _ _ => rfl) : PE X (.Subscript a c pos) (tP X.K cm (b1 && b2) (dBin idxP f1 f2)) := PE.imp (pe_ix ix_seq ha hb hs) (bin_imp vop_idx)

/-! ### slices -/
abbrev EO := Sl → Option (Option Int × Sl)
def tO (K : PySem.W.Frag) (cm : Str → Addr → Prop) (b : Bool) (f : EO) : TO := fun σ H Q => ∃ W F ρ o ρ', R K cm W σ H F ρ ∧ f ρ = some (o, ρ') ∧ ∀ H' F', R K cm W σ H' F' ρ' → Same F F' → Pu b ρ ρ' H H' → Q o H'
def dNo : EO := fun ρ => some (none, ρ)
def dSo (f : EF) : EO := fun ρ => (f ρ).bind fun x => match x.1 with
  | .int i => some (some i, x.2)
  | _ => none
theorem PO.imp {e : Option Expr} {t t' : TO} (h : PO X e t) (m : ∀ σ H Q, t' σ H Q → t σ H Q) : PO X e t' := ⟨fun pins s σ H Q I q => h.run pins s σ H Q I (m _ _ _ q)⟩
theorem o_no : PO X none (tO X.K cm true dNo) := HW.PO.imp po_none fun σ H Q ⟨W, F, ρ, p, ρ', r, e, k⟩ => by
  cases e
  exact k H F r (Same.refl F) Pu.refl
theorem o_so (h : PE X e (tP X.K cm b f)) : PO X (some e) (tO X.K cm b (dSo f)) := HW.PO.imp (po_some h) fun σ H Q ⟨W, F, ρ, p, ρ', r, e, k⟩ => by
  simp only [dSo, Option.bind_eq_some_iff] at e
  obtain ⟨⟨p1, ρ1⟩, e1, e2⟩ := e
  refine ⟨W, F, ρ, p1, ρ1, r, e1, fun v H1 F1 r1 s1 u1 d1 => ?_⟩
  cases d1 <;> simp only [reduceCtorEq] at e2
  cases e2
  exact ⟨_, rfl, k H1 F1 r1 s1 u1⟩
def cutL {α : Type} (xs : List α) (lo hi : Option Int) : List α := (xs.drop (HT.sIx xs.length 0 lo)).take (HT.sIx xs.length xs.length hi - HT.sIx xs.length 0 lo)
theorem cut_ds {K : PySem.W.Frag} {F : Hp} {vs : List V} {ps : List P} {lo hi : Option Int} (h : DPs K F vs ps) : DPs K F (cutV vs lo hi) (cutL ps lo hi) := by
  unfold cutV cutL
  rw [DPs.length h]
  exact (h.drop _).take _
def sliceP : P → Option Int → Option Int → Option P
  | .tuple xs, lo, hi => some (.tuple (cutL xs lo hi))
  | .str z, lo, hi => if z.length ≤ 16777216 then some (.str (cutS z lo hi)) else none
  | _, _, _ => none
def dSl (f : EF) (g h : EO) : EF := fun ρ => (f ρ).bind fun x => (g x.2).bind fun y => (h y.2).bind fun z => (sliceP x.1 y.1 z.1).map fun w => (w, z.2)
theorem cut_whole {α : Type} {xs : List α} {lo hi : Option Int} (h1 : HT.sIx xs.length 0 lo = 0) (h2 : HT.sIx xs.length xs.length hi = xs.length) : cutL xs lo hi = xs := by
  unfold cutL
  rw [h1, h2]
  simp
/-- a slice of a tuple or a text -/
theorem x_sl {lo hi : Option Expr} {g h : EO} {p2 : Pos} (ha : PE X a (tP X.K cm b1 f1)) (hl : PO X lo (tO X.K cm b2 g)) (hu : PO X hi (tO X.K cm b3 h)) : PE X (.Subscript a (.Slice lo hi none p2) pos) (tP X.K cm (b1 && (b2 && b3)) (dSl f1 g h)) :=
  PE.imp (pe_slice (sl_tupA.or sl_str) ha hl hu) fun σ H Q ⟨W, F, ρ, p, ρ', r, e, k⟩ => by
    simp only [dSl, Option.bind_eq_some_iff, Option.map_eq_some_iff] at e
    obtain ⟨⟨p1, ρ1⟩, e1, ⟨o1, ρ2⟩, e2, ⟨o2, ρ3⟩, e3, w, e4, e5⟩ := e
    cases e5
    refine ⟨W, F, ρ, p1, ρ1, r, e1, fun v H1 F1 r1 s1 u1 d1 => ⟨W, F1, ρ1, o1, ρ2, r1, e2, fun H2 F2 r2 s2 u2 => ⟨W, F2, ρ2, o2, ρ3, r2, e3, fun H3 F3 r3 s3 u3 => ?_⟩⟩⟩
    have d3 := DP.mono d1 (s2.trans s3)
    have u := u1.trans (u2.trans u3)
    have ss := (s1.trans s2).trans s3
    cases d3 with
    | tup h2 h3 =>
      rename_i ad xs ps
      have e4' : PyData.tuple (cutL ps o1 o2) = _ := Option.some.inj e4
      subst e4'
      refine .inl ⟨ad, xs, rfl, SqT.mono h2 r3.fh, fun hw => ?_, fun _ q hq => ?_⟩
      · have hl := DPs.length h3
        rw [cut_whole (by rw [← hl]; exact hw.1) (by rw [← hl]; exact hw.2)] at k
        exact k _ H3 F3 r3 ss u (.tup h2 h3)
      · have fp := r3.fh.free hq
        exact k _ _ _ (r3.laid hq) (ss.trans (same_upd fp)) (u.then (same_upd hq)) (laid_tup (σ := σ) (H := H3) (ρ := ρ3) (cut_ds h3) fp)
    | str x =>
      simp only [sliceP] at e4
      split at e4
      · rename_i hz
        cases e4
        exact .inr ⟨x, rfl, by rw [sizeLine_eq]; exact hz, k _ H3 F3 r3 ss u (.str _)⟩
      · cases e4
    | _ => simp only [sliceP, reduceCtorEq] at e4
/-- a slice of a list: a new list -/
def dSlL (f : EF) (g h : EO) : EL := fun ρ => (f ρ).bind fun x => (g x.2).bind fun y => (h y.2).bind fun z => match x.1 with
  | .list xs => some (cutL xs y.1 z.1, z.2)
  | _ => none
theorem l_sl {lo hi : Option Expr} {g h : EO} {p2 : Pos} (ha : PE X a (tP X.K cm b1 f1)) (hl : PO X lo (tO X.K cm b2 g)) (hu : PO X hi (tO X.K cm b3 h)) : PE X (.Subscript a (.Slice lo hi none p2) pos) (tL X.K cm (b1 && (b2 && b3)) (dSlL f1 g h)) :=
  PE.imp (pe_slice sl_list ha hl hu) fun σ H Q ⟨W, F, ρ, p, ρ', r, e, k⟩ => by
    simp only [dSlL, Option.bind_eq_some_iff] at e
    obtain ⟨⟨p1, ρ1⟩, e1, ⟨o1, ρ2⟩, e2, ⟨o2, ρ3⟩, e3, e4⟩ := e
    refine ⟨W, F, ρ, p1, ρ1, r, e1, fun v H1 F1 r1 s1 u1 d1 => ⟨W, F1, ρ1, o1, ρ2, r1, e2, fun H2 F2 r2 s2 u2 => ⟨W, F2, ρ2, o2, ρ3, r2, e3, fun H3 F3 r3 s3 u3 => ?_⟩⟩⟩
    have d3 := DP.mono d1 (s2.trans s3)
    cases d3 with
    | lst h2 h3 =>
      rename_i ad xs ps
      cases e4
      exact ⟨ad, xs, rfl, (LK.mono h2 r3.fh).seq, fun q hq => k q _ H3 _ F3 r3 ((s1.trans s2).trans s3) (u1.trans (u2.trans u3)) (cut_ds h3) hq rfl⟩
    | _ => simp only [reduceCtorEq] at e4
/-- a slice of any kind, frozen -/
def sliceA : P → Option Int → Option Int → Option P
  | .list xs, lo, hi => some (.list (cutL xs lo hi))
  | p, lo, hi => sliceP p lo hi
def dSlA (f : EF) (g h : EO) : EF := fun ρ => (f ρ).bind fun x => (g x.2).bind fun y => (h y.2).bind fun z => (sliceA x.1 y.1 z.1).map fun w => (w, z.2)
theorem x_slA {lo hi : Option Expr} {g h : EO} {p2 : Pos} (ha : PE X a (tP X.K cm b1 f1)) (hl : PO X lo (tO X.K cm b2 g)) (hu : PO X hi (tO X.K cm b3 h)) : PE X (.Subscript a (.Slice lo hi none p2) pos) (tP X.K cm (b1 && (b2 && b3)) (dSlA f1 g h)) :=
  PE.imp (pe_slice (sl_list.or (sl_tupA.or sl_str)) ha hl hu) fun σ H Q ⟨W, F, ρ, p, ρ', r, e, k⟩ => by
    simp only [dSlA, Option.bind_eq_some_iff, Option.map_eq_some_iff] at e
    obtain ⟨⟨p1, ρ1⟩, e1, ⟨o1, ρ2⟩, e2, ⟨o2, ρ3⟩, e3, w, e4, e5⟩ := e
    cases e5
    refine ⟨W, F, ρ, p1, ρ1, r, e1, fun v H1 F1 r1 s1 u1 d1 => ⟨W, F1, ρ1, o1, ρ2, r1, e2, fun H2 F2 r2 s2 u2 => ⟨W, F2, ρ2, o2, ρ3, r2, e3, fun H3 F3 r3 s3 u3 => ?_⟩⟩⟩
    have d3 := DP.mono d1 (s2.trans s3)
    have u := u1.trans (u2.trans u3)
    have ss := (s1.trans s2).trans s3
    cases d3 with
    | lst h2 h3 =>
      rename_i ad xs ps
      have e4' : PyData.list (cutL ps o1 o2) = _ := Option.some.inj e4
      subst e4'
      refine .inl ⟨ad, xs, rfl, (LK.mono h2 r3.fh).seq, fun q hq => ?_⟩
      have fp := r3.fh.free hq
      exact k _ _ _ (r3.laid hq) (ss.trans (same_upd fp)) (u.then (same_upd hq)) (laid_lst (σ := σ) (H := H3) (ρ := ρ3) (cut_ds h3) fp)
    | tup h2 h3 =>
      rename_i ad xs ps
      have e4' : PyData.tuple (cutL ps o1 o2) = _ := Option.some.inj e4
      subst e4'
      refine .inr (.inl ⟨ad, xs, rfl, SqT.mono h2 r3.fh, fun hw => ?_, fun _ q hq => ?_⟩)
      · have hl := DPs.length h3
        rw [cut_whole (by rw [← hl]; exact hw.1) (by rw [← hl]; exact hw.2)] at k
        exact k _ H3 F3 r3 ss u (.tup h2 h3)
      · have fp := r3.fh.free hq
        exact k _ _ _ (r3.laid hq) (ss.trans (same_upd fp)) (u.then (same_upd hq)) (laid_tup (σ := σ) (H := H3) (ρ := ρ3) (cut_ds h3) fp)
    | str x =>
      simp only [sliceA, sliceP] at e4
      split at e4
      · rename_i hz
        cases e4
        exact .inr (.inr ⟨x, rfl, by rw [sizeLine_eq]; exact hz, k _ H3 F3 r3 ss u (.str _)⟩)
      · cases e4
    | _ => simp only [sliceA, sliceP, reduceCtorEq] at e4

/-! ### calls of built-in functions, by data -/
def VCall (K : PySem.W.Frag) (cm : Str → Addr → Prop) (r : List V → Hp → VK → Prop) (g : List P → Option P) : Prop :=
  ∀ {W : Hp} {σ : L2.St} {H F : Hp} {ρ : Sl} {vs : List V} {ps : List P} {z : P} {Q : VK}, R K cm W σ H F ρ → DPs K F vs ps → g ps = some z →
    (∀ w H' F', R K cm W σ H' F' ρ → Same F F' → Same H H' → DP K F' w z → Q w H') → r vs H Q
def dCall (g : List P → Option P) (f : EL) : EF := fun ρ => (f ρ).bind fun x => (g x.1).map fun z => (z, x.2)
theorem call_imp {r : List V → Hp → VK → Prop} {g : List P → Option P} {f : EL} (hv : VCall X.K cm r g) : ∀ σ H Q, tP X.K cm b (dCall g f) σ H Q → tCB r (tA X.K cm b f) σ H Q := by
  rintro σ H Q ⟨W, F, ρ, p, ρ', r, e, k⟩
  simp only [dCall, Option.bind_eq_some_iff, Option.map_eq_some_iff] at e
  obtain ⟨⟨p1, ρ1⟩, e1, z, e3, e4⟩ := e
  cases e4
  exact ⟨W, F, ρ, p1, ρ1, r, e1, fun vs H1 F1 r1 s1 u1 d1 => hv r1 d1 e3 fun w H' F' r2 s2 s3 d2 => k w H' F' r2 (s1.trans s2) (u1.then s3) d2⟩
theorem x_callB {x : Str} {id : String} {p : Pos} {r : List V → Hp → VK → Prop} {g : List P → Option P} {f : EL} (hc : CallR X (.builtin id) r) (hv : VCall X.K cm r g) (hg : Gl X x) (hm : X.mg x = none) (hb : bootBuiltins x = some (.builtin id)) (ha : PA X (e :: es) (tA X.K cm b f))
    (hn : x ≠ "__name__" := by decide) (hdb : (x == ("__debug__" : Str)) = false := by decide)
    (he : starEach (e :: es) X.env = (false, eval e X.env) :: starEach es X.env := by rfl) (hpl : (backTo pos (starEach es X.env)).any (·.1) = false := by rfl) : PE X (.Call (.Name x p) (e :: es) [] pos) (tP X.K cm b (dCall g f)) :=
  PE.imp (pe_callB hc hg hm hb ha hn hdb he hpl) (call_imp hv)
theorem x_callTy {x : Str} {T : String} {p : Pos} {r : List V → Hp → VK → Prop} {g : List P → Option P} {f : EL} (hc : CallR X (.type T) r) (hv : VCall X.K cm r g) (hg : Gl X x) (hm : X.mg x = none) (hb : bootBuiltins x = some (.type T)) (ha : PA X (e :: es) (tA X.K cm b f))
    (hn : x ≠ "__name__" := by decide) (hdb : (x == ("__debug__" : Str)) = false := by decide)
    (he : starEach (e :: es) X.env = (false, eval e X.env) :: starEach es X.env := by rfl) (hpl : (backTo pos (starEach es X.env)).any (·.1) = false := by rfl) : PE X (.Call (.Name x p) (e :: es) [] pos) (tP X.K cm b (dCall g f)) :=
  PE.imp (pe_callTy hc hg hm hb ha hn hdb he hpl) (call_imp hv)
/-- the result a new list -/
def VCallL (K : PySem.W.Frag) (cm : Str → Addr → Prop) (r : List V → Hp → VK → Prop) (g : List P → Option (List P)) : Prop :=
  ∀ {W : Hp} {σ : L2.St} {H F : Hp} {ρ : Sl} {vs : List V} {ps zs : List P} {Q : VK}, R K cm W σ H F ρ → DPs K F vs ps → g ps = some zs →
    (∀ p us, DPs K F us zs → H p = none → Q (.ref p) (upd H p (.lst us))) → r vs H Q
def dCallL (g : List P → Option (List P)) (f : EL) : EL := fun ρ => (f ρ).bind fun x => (g x.1).map fun z => (z, x.2)
theorem callL_imp {r : List V → Hp → VK → Prop} {g : List P → Option (List P)} {f : EL} (hv : VCallL X.K cm r g) : ∀ σ H Q, tL X.K cm b (dCallL g f) σ H Q → tCB r (tA X.K cm b f) σ H Q := by
  rintro σ H Q ⟨W, F, ρ, p, ρ', r, e, k⟩
  simp only [dCallL, Option.bind_eq_some_iff, Option.map_eq_some_iff] at e
  obtain ⟨⟨p1, ρ1⟩, e1, z, e3, e4⟩ := e
  cases e4
  exact ⟨W, F, ρ, p1, ρ1, r, e1, fun vs H1 F1 r1 s1 u1 d1 => hv r1 d1 e3 fun q us d2 hq => k q us H1 _ F1 r1 s1 u1 d2 hq rfl⟩
theorem l_callB {x : Str} {id : String} {p : Pos} {r : List V → Hp → VK → Prop} {g : List P → Option (List P)} {f : EL} (hc : CallR X (.builtin id) r) (hv : VCallL X.K cm r g) (hg : Gl X x) (hm : X.mg x = none) (hb : bootBuiltins x = some (.builtin id)) (ha : PA X (e :: es) (tA X.K cm b f))
    (hn : x ≠ "__name__" := by decide) (hdb : (x == ("__debug__" : Str)) = false := by decide)
    (he : starEach (e :: es) X.env = (false, eval e X.env) :: starEach es X.env := by rfl) (hpl : (backTo pos (starEach es X.env)).any (·.1) = false := by rfl) : PE X (.Call (.Name x p) (e :: es) [] pos) (tL X.K cm b (dCallL g f)) :=
  PE.imp (pe_callB hc hg hm hb ha hn hdb he hpl) (callL_imp hv)
theorem l_callTy {x : Str} {T : String} {p : Pos} {r : List V → Hp → VK → Prop} {g : List P → Option (List P)} {f : EL} (hc : CallR X (.type T) r) (hv : VCallL X.K cm r g) (hg : Gl X x) (hm : X.mg x = none) (hb : bootBuiltins x = some (.type T)) (ha : PA X (e :: es) (tA X.K cm b f))
    (hn : x ≠ "__name__" := by decide) (hdb : (x == ("__debug__" : Str)) = false := by decide)
    (he : starEach (e :: es) X.env = (false, eval e X.env) :: starEach es X.env := by rfl) (hpl : (backTo pos (starEach es X.env)).any (·.1) = false := by rfl) : PE X (.Call (.Name x p) (e :: es) [] pos) (tL X.K cm b (dCallL g f)) :=
  PE.imp (pe_callTy hc hg hm hb ha hn hdb he hpl) (callL_imp hv)

/-! the functions -/
def lenP : List P → Option P
  | [.list xs] => some (.int xs.length)
  | [.tuple xs] => some (.int xs.length)
  | [.str x] => if x.length ≤ 16777216 then some (.int x.length) else none
  | _ => none
theorem vc_len {K : PySem.W.Frag} : VCall K cm (fun xs H Q => ∃ x n, xs = [x] ∧ LenV K x H n ∧ Q (.int n) H) lenP := by
  intro W σ H F ρ vs ps z Q r d e k
  cases d with
  | nil => cases e
  | cons a t =>
    cases t with
    | cons _ _ => cases a <;> cases e
    | nil =>
      cases a with
      | lst h1 h2 =>
        cases e
        exact ⟨_, _, rfl, .inl ⟨_, (LK.mono h1 r.fh).seq, rfl⟩, by rw [DPs.length h2]; exact k _ H F r (Same.refl F) (Same.refl H) (.int _)⟩
      | tup h1 h2 =>
        cases e
        exact ⟨_, _, rfl, .inr ⟨_, SqT.mono h1 r.fh, rfl⟩, by rw [DPs.length h2]; exact k _ H F r (Same.refl F) (Same.refl H) (.int _)⟩
      | str x =>
        simp only [lenP] at e
        split at e
        · rename_i hz
          cases e
          exact ⟨_, _, rfl, ⟨by rw [sizeLine_eq]; exact hz, rfl⟩, k _ H F r (Same.refl F) (Same.refl H) (.int _)⟩
        · cases e
      | _ => cases e
def absP : List P → Option P
  | [.int i] => some (.int (if i < 0 then -i else i))
  | _ => none
def max2P : List P → Option P
  | [.int i, .int j] => some (.int (if j > i then j else i))
  | _ => none
def min2P : List P → Option P
  | [.int i, .int j] => some (.int (if j < i then j else i))
  | _ => none
def intP : List P → Option P
  | [.int i] => some (.int i)
  | [.bool k] => some (.int (if k then 1 else 0))
  | _ => none
theorem vc_abs {K : PySem.W.Frag} : VCall K cm (fun xs H Q => ∃ i, xs = [.int i] ∧ Q (.int (if i < 0 then -i else i)) H) absP := by
  intro W σ H F ρ vs ps z Q r d e k
  unfold absP at e
  split at e
  · cases e
    cases d with | cons a t => cases a; cases t; exact ⟨_, rfl, k _ H F r (Same.refl F) (Same.refl H) (.int _)⟩
  · cases e
theorem vc_max2 {K : PySem.W.Frag} : VCall K cm (fun xs H Q => ∃ i j, xs = [.int i, .int j] ∧ Q (.int (if j > i then j else i)) H) max2P := by
  intro W σ H F ρ vs ps z Q r d e k
  unfold max2P at e
  split at e
  · cases e
    cases d with | cons a t => cases a; cases t with | cons a t => cases a; cases t; exact ⟨_, _, rfl, k _ H F r (Same.refl F) (Same.refl H) (.int _)⟩
  · cases e
theorem vc_min2 {K : PySem.W.Frag} : VCall K cm (fun xs H Q => ∃ i j, xs = [.int i, .int j] ∧ Q (.int (if j < i then j else i)) H) min2P := by
  intro W σ H F ρ vs ps z Q r d e k
  unfold min2P at e
  split at e
  · cases e
    cases d with | cons a t => cases a; cases t with | cons a t => cases a; cases t; exact ⟨_, _, rfl, k _ H F r (Same.refl F) (Same.refl H) (.int _)⟩
  · cases e
theorem vc_int {K : PySem.W.Frag} : VCall K cm (fun xs H Q => (∃ i, xs = [.int i] ∧ Q (.int i) H) ∨ ∃ k, xs = [.bl k] ∧ Q (.int (if k then 1 else 0)) H) intP := by
  intro W σ H F ρ vs ps z Q r d e k
  unfold intP at e
  split at e
  · cases e
    cases d with | cons a t => cases a; cases t; exact .inl ⟨_, rfl, k _ H F r (Same.refl F) (Same.refl H) (.int _)⟩
  · cases e
    cases d with | cons a t => cases a; cases t; exact .inr ⟨_, rfl, k _ H F r (Same.refl F) (Same.refl H) (.int _)⟩
  · cases e
def intsP : List P → Option (List Int)
  | [] => some []
  | .int i :: r => (intsP r).map (i :: ·)
  | _ => none
def bolsP : List P → Option (List Bool)
  | [] => some []
  | .bool i :: r => (bolsP r).map (i :: ·)
  | _ => none
theorem ints_vs {K : PySem.W.Frag} {F : Hp} : ∀ {vs : List V} {ps : List P} {ns : List Int}, DPs K F vs ps → intsP ps = some ns → vs = ns.map V.int
  | _, _, _, .nil, e => by cases e; rfl
  | _, _, _, .cons a t, e => by
    cases a <;> simp only [intsP, reduceCtorEq] at e
    obtain ⟨ms, e1, rfl⟩ := Option.map_eq_some_iff.mp e
    rw [ints_vs t e1, List.map_cons]
theorem bols_vs {K : PySem.W.Frag} {F : Hp} : ∀ {vs : List V} {ps : List P} {ns : List Bool}, DPs K F vs ps → bolsP ps = some ns → vs = ns.map V.bl
  | _, _, _, .nil, e => by cases e; rfl
  | _, _, _, .cons a t, e => by
    cases a <;> simp only [bolsP, reduceCtorEq] at e
    obtain ⟨ms, e1, rfl⟩ := Option.map_eq_some_iff.mp e
    rw [bols_vs t e1, List.map_cons]
theorem intsP_map (ns : List Int) : intsP (ns.map .int) = some ns := by
  induction ns with
  | nil => rfl
  | cons n ns ih => simp [intsP, ih]
theorem bolsP_map (ns : List Bool) : bolsP (ns.map .bool) = some ns := by
  induction ns with
  | nil => rfl
  | cons n ns ih => simp [bolsP, ih]
def sumP : List P → Option P
  | [.list xs] => (intsP xs).map fun ns => .int ns.sum
  | _ => none
def anyP : List P → Option P
  | [.list xs] => (bolsP xs).map fun ns => .bool (ns.any id)
  | _ => none
def allP : List P → Option P
  | [.list xs] => (bolsP xs).map fun ns => .bool (ns.all id)
  | _ => none
theorem one_lst {K : PySem.W.Frag} {F : Hp} {vs : List V} {xs : List P} (d : DPs K F vs [.list xs]) : ∃ a us, vs = [.ref a] ∧ LK K F a us ∧ DPs K F us xs := by
  cases d with | cons a t => cases t; cases a; exact ⟨_, _, rfl, by assumption, by assumption⟩
theorem vc_sum {K : PySem.W.Frag} : VCall K cm (rSum K) sumP := by
  intro W σ H F ρ vs ps z Q r d e k
  unfold sumP at e
  split at e
  · obtain ⟨ns, e1, rfl⟩ := Option.map_eq_some_iff.mp e
    obtain ⟨a, us, rfl, h1, h2⟩ := one_lst d
    have e2 := ints_vs h2 e1
    subst e2
    exact ⟨a, ns, rfl, (LK.mono h1 r.fh).seq, k _ H F r (Same.refl F) (Same.refl H) (.int _)⟩
  · cases e
theorem vc_any {K : PySem.W.Frag} : VCall K cm (rAny K) anyP := by
  intro W σ H F ρ vs ps z Q r d e k
  unfold anyP at e
  split at e
  · obtain ⟨ns, e1, rfl⟩ := Option.map_eq_some_iff.mp e
    obtain ⟨a, us, rfl, h1, h2⟩ := one_lst d
    have e2 := bols_vs h2 e1
    subst e2
    exact ⟨a, ns, rfl, (LK.mono h1 r.fh).seq, k _ H F r (Same.refl F) (Same.refl H) (.bl _)⟩
  · cases e
theorem vc_all {K : PySem.W.Frag} : VCall K cm (rAll K) allP := by
  intro W σ H F ρ vs ps z Q r d e k
  unfold allP at e
  split at e
  · obtain ⟨ns, e1, rfl⟩ := Option.map_eq_some_iff.mp e
    obtain ⟨a, us, rfl, h1, h2⟩ := one_lst d
    have e2 := bols_vs h2 e1
    subst e2
    exact ⟨a, ns, rfl, (LK.mono h1 r.fh).seq, k _ H F r (Same.refl F) (Same.refl H) (.bl _)⟩
  · cases e
/-- list(x), tuple(x) -/
def listP : List P → Option (List P)
  | [.list xs] => some xs
  | [.tuple xs] => some xs
  | _ => none
def tupleP : List P → Option P
  | [.list xs] => some (.tuple xs)
  | [.tuple xs] => some (.tuple xs)
  | _ => none
theorem one_tup {K : PySem.W.Frag} {F : Hp} {vs : List V} {xs : List P} (d : DPs K F vs [.tuple xs]) : ∃ a us, vs = [.ref a] ∧ SqT K F a us ∧ DPs K F us xs := by
  cases d with | cons a t => cases t; cases a; exact ⟨_, _, rfl, by assumption, by assumption⟩
theorem vc_list {K : PySem.W.Frag} : VCallL K cm (fun xs H Q => ∃ p ys, xs = [.ref p] ∧ (SqL K H p ys ∨ SqT K H p ys) ∧ ∀ l, H l = none → Q (.ref l) (upd H l (.lst ys))) listP := by
  intro W σ H F ρ vs ps zs Q r d e k
  unfold listP at e
  split at e
  · cases e
    obtain ⟨a, us, rfl, h1, h2⟩ := one_lst d
    exact ⟨a, us, rfl, .inl ((LK.mono h1 r.fh).seq), fun l hl => k l us h2 hl⟩
  · cases e
    obtain ⟨a, us, rfl, h1, h2⟩ := one_tup d
    exact ⟨a, us, rfl, .inr (SqT.mono h1 r.fh), fun l hl => k l us h2 hl⟩
  · cases e
theorem vc_tuple {K : PySem.W.Frag} : VCall K cm (fun xs H Q => ∃ p ys, xs = [.ref p] ∧ ((SqL K H p ys ∧ ∀ l, H l = none → Q (.ref l) (upd H l (.tup ys))) ∨ (SqT K H p ys ∧ Q (.ref p) H))) tupleP := by
  intro W σ H F ρ vs ps zs Q r d e k
  unfold tupleP at e
  split at e
  · cases e
    obtain ⟨a, us, rfl, h1, h2⟩ := one_lst d
    refine ⟨a, us, rfl, .inl ⟨(LK.mono h1 r.fh).seq, fun l hl => ?_⟩⟩
    have fp := r.fh.free hl
    exact k _ _ _ (r.laid hl) (same_upd fp) (same_upd hl) (laid_tup (σ := σ) (H := H) (ρ := ρ) h2 fp)
  · cases e
    obtain ⟨a, us, rfl, h1, h2⟩ := one_tup d
    exact ⟨a, us, rfl, .inr ⟨SqT.mono h1 r.fh, k _ H F r (Same.refl F) (Same.refl H) (.tup h1 h2)⟩⟩
  · cases e
section
variable {p : Pos} {f : EL}
abbrev MgN (X : Cx) (x : Str) : Prop := X.mg x = none
theorem x_len (hm : MgN X "len") (ha : PA X (e :: es) (tA X.K cm b f)) (hg : Gl X "len" := by rfl)
    (he : starEach (e :: es) X.env = (false, eval e X.env) :: starEach es X.env := by rfl) (hpl : (backTo pos (starEach es X.env)).any (·.1) = false := by rfl) : PE X (.Call (.Name "len" p) (e :: es) [] pos) (tP X.K cm b (dCall lenP f)) := x_callB call_len vc_len hg hm PySem.boot_len ha (by decide) (by decide) he hpl
theorem x_abs (hm : MgN X "abs") (ha : PA X (e :: es) (tA X.K cm b f)) (hg : Gl X "abs" := by rfl)
    (he : starEach (e :: es) X.env = (false, eval e X.env) :: starEach es X.env := by rfl) (hpl : (backTo pos (starEach es X.env)).any (·.1) = false := by rfl) : PE X (.Call (.Name "abs" p) (e :: es) [] pos) (tP X.K cm b (dCall absP f)) := x_callB call_abs vc_abs hg hm (by decide +kernel) ha (by decide) (by decide) he hpl
theorem x_max2 (hc : X.calm = true) (hm : MgN X "max") (ha : PA X (e :: es) (tA X.K cm b f)) (hg : Gl X "max" := by rfl)
    (he : starEach (e :: es) X.env = (false, eval e X.env) :: starEach es X.env := by rfl) (hpl : (backTo pos (starEach es X.env)).any (·.1) = false := by rfl) : PE X (.Call (.Name "max" p) (e :: es) [] pos) (tP X.K cm b (dCall max2P f)) := x_callB (call_max2 hc) vc_max2 hg hm (by decide +kernel) ha (by decide) (by decide) he hpl
theorem x_min2 (hc : X.calm = true) (hm : MgN X "min") (ha : PA X (e :: es) (tA X.K cm b f)) (hg : Gl X "min" := by rfl)
    (he : starEach (e :: es) X.env = (false, eval e X.env) :: starEach es X.env := by rfl) (hpl : (backTo pos (starEach es X.env)).any (·.1) = false := by rfl) : PE X (.Call (.Name "min" p) (e :: es) [] pos) (tP X.K cm b (dCall min2P f)) := x_callB (call_min2 hc) vc_min2 hg hm (by decide +kernel) ha (by decide) (by decide) he hpl
theorem x_sum (hc : X.calm = true) (hm : MgN X "sum") (ha : PA X (e :: es) (tA X.K cm b f)) (hg : Gl X "sum" := by rfl)
    (he : starEach (e :: es) X.env = (false, eval e X.env) :: starEach es X.env := by rfl) (hpl : (backTo pos (starEach es X.env)).any (·.1) = false := by rfl) : PE X (.Call (.Name "sum" p) (e :: es) [] pos) (tP X.K cm b (dCall sumP f)) := x_callB (cr_sum hc) vc_sum hg hm (by decide +kernel) ha (by decide) (by decide) he hpl
theorem x_any (hc : X.calm = true) (hm : MgN X "any") (ha : PA X (e :: es) (tA X.K cm b f)) (hg : Gl X "any" := by rfl)
    (he : starEach (e :: es) X.env = (false, eval e X.env) :: starEach es X.env := by rfl) (hpl : (backTo pos (starEach es X.env)).any (·.1) = false := by rfl) : PE X (.Call (.Name "any" p) (e :: es) [] pos) (tP X.K cm b (dCall anyP f)) := x_callB (cr_any hc) vc_any hg hm (by decide +kernel) ha (by decide) (by decide) he hpl
theorem x_all (hc : X.calm = true) (hm : MgN X "all") (ha : PA X (e :: es) (tA X.K cm b f)) (hg : Gl X "all" := by rfl)
    (he : starEach (e :: es) X.env = (false, eval e X.env) :: starEach es X.env := by rfl) (hpl : (backTo pos (starEach es X.env)).any (·.1) = false := by rfl) : PE X (.Call (.Name "all" p) (e :: es) [] pos) (tP X.K cm b (dCall allP f)) := x_callB (cr_all hc) vc_all hg hm (by decide +kernel) ha (by decide) (by decide) he hpl
theorem x_int1 (hm : MgN X "int") (ha : PA X (e :: es) (tA X.K cm b f)) (hg : Gl X "int" := by rfl)
    (he : starEach (e :: es) X.env = (false, eval e X.env) :: starEach es X.env := by rfl) (hpl : (backTo pos (starEach es X.env)).any (·.1) = false := by rfl) : PE X (.Call (.Name "int" p) (e :: es) [] pos) (tP X.K cm b (dCall intP f)) := x_callTy call_int1 vc_int hg hm (by decide +kernel) ha (by decide) (by decide) he hpl
theorem x_tuple (hm : MgN X "tuple") (ha : PA X (e :: es) (tA X.K cm b f)) (hg : Gl X "tuple" := by rfl)
    (he : starEach (e :: es) X.env = (false, eval e X.env) :: starEach es X.env := by rfl) (hpl : (backTo pos (starEach es X.env)).any (·.1) = false := by rfl) : PE X (.Call (.Name "tuple" p) (e :: es) [] pos) (tP X.K cm b (dCall tupleP f)) := x_callTy call_tuple_of vc_tuple hg hm (by decide +kernel) ha (by decide) (by decide) he hpl
theorem l_list (hm : MgN X "list") (ha : PA X (e :: es) (tA X.K cm b f)) (hg : Gl X "list" := by rfl)
    (he : starEach (e :: es) X.env = (false, eval e X.env) :: starEach es X.env := by rfl) (hpl : (backTo pos (starEach es X.env)).any (·.1) = false := by rfl) : PE X (.Call (.Name "list" p) (e :: es) [] pos) (tL X.K cm b (dCallL listP f)) := l_callTy call_list_of vc_list hg hm (by decide +kernel) ha (by decide) (by decide) he hpl
end
end
end
end HW

namespace HW
open PySem PySem.Spec PyProof.Rows L2
noncomputable section

/-! ### what is walked -/
def Stp (K : PySem.W.Frag) (F H F' H' : Hp) : Prop := Same F F' ∧ Same H H' ∧ ∀ (cm : Str → Addr → Prop) (W : Hp) (σ : L2.St) (ρ : Sl), R K cm W σ H F ρ → R K cm W σ H' F' ρ
theorem Stp.refl {K : PySem.W.Frag} {F H : Hp} : Stp K F H F H := ⟨Same.refl F, Same.refl H, fun _ _ _ _ r => r⟩
theorem Stp.laid {K : PySem.W.Frag} {F H : Hp} {p : Addr} {o : HO} (s : Same F H) (hp : H p = none) : Stp K F H (upd F p o) (upd H p o) := ⟨same_upd (s.free hp), same_upd hp, fun _ _ _ _ r => r.laid hp⟩
def WalkD (K : PySem.W.Frag) (F0 : Hp) (J : It) (ps : List P) : Prop := ∀ (i : Nat) (F H : Hp), Same F0 F → Same F H →
  (∀ p, ps[i]? = some p → J.go i H ∧ ∀ x H', J.yld i H x H' → ∃ F', Stp K F H F' H' ∧ DP K F' x p) ∧ (ps.length ≤ i → J.stop i H)
theorem WalkD.mono {K : PySem.W.Frag} {F0 F1 : Hp} {J : It} {ps : List P} (w : WalkD K F0 J ps) (s : Same F0 F1) : WalkD K F1 J ps := fun i F H h1 h2 => w i F H (s.trans h1) h2
def tI (K : PySem.W.Frag) (cm : Str → Addr → Prop) (b : Bool) (f : EL) : TI := fun σ H Rk => ∃ W F ρ ps ρ', R K cm W σ H F ρ ∧ f ρ = some (ps, ρ') ∧ ∀ J H' F', R K cm W σ H' F' ρ' → Same F F' → Pu b ρ ρ' H H' → WalkD K F' J ps → Rk J H'
theorem PI.imp {X : Cx} {tg e : Expr} {t t' : TI} (h : PI X tg e t) (m : ∀ σ H Q, t' σ H Q → t σ H Q) : PI X tg e t' := ⟨fun pins s σ H Q I q => h.run pins s σ H Q I (m _ _ _ q)⟩
section
variable {X : Cx} {cm : Str → Addr → Prop} {W : Hp} {pos : Pos} {a c e tg : Expr} {es : List Expr} {f f1 f2 : EF} {b b1 b2 b3 : Bool}
theorem walk_list {K : PySem.W.Frag} {F : Hp} {ad : Addr} {vs : List V} {ps : List P} (h : LK K F ad vs) (d : DPs K F vs ps) : WalkD K F (Itl K ad) ps := fun i F1 H s1 s2 => by
  have hq : SqL K H ad vs := ((h.mono s1).mono s2).seq
  refine ⟨fun p hp => ?_, fun hl => ⟨vs, hq, by rw [DPs.length d]; exact hl⟩⟩
  obtain ⟨v, hv, dv⟩ := DPs.get d hp
  refine ⟨⟨vs, v, hq, hv⟩, fun x H' y => ?_⟩
  obtain ⟨rfl, y⟩ := y
  have e : x = v := Option.some.inj ((y vs hq).symm.trans hv)
  subst e
  exact ⟨F1, Stp.refl, DP.mono dv s1⟩
theorem walk_tup {K : PySem.W.Frag} {F : Hp} {ad : Addr} {vs : List V} {ps : List P} (h : SqT K F ad vs) (d : DPs K F vs ps) : WalkD K F (Itt K ad) ps := fun i F1 H s1 s2 => by
  have hq : SqT K H ad vs := SqT.mono (SqT.mono h s1) s2
  refine ⟨fun p hp => ?_, fun hl => ⟨vs, hq, by rw [DPs.length d]; exact hl⟩⟩
  obtain ⟨v, hv, dv⟩ := DPs.get d hp
  refine ⟨⟨vs, v, hq, hv⟩, fun x H' y => ?_⟩
  obtain ⟨rfl, y⟩ := y
  have e : x = v := Option.some.inj ((y vs hq).symm.trans hv)
  subst e
  exact ⟨F1, Stp.refl, DP.mono dv s1⟩
def signs (x : Str) : List P := x.cps.toList.map fun c => .str ⟨#[c]⟩
theorem walk_str {K : PySem.W.Frag} {F : Hp} (x : Str) : WalkD K F (Its x) (signs x) := fun i F1 H s1 s2 => by
  refine ⟨fun p hp => ?_, fun hl => (show x.cps.size ≤ i by simpa [signs] using hl)⟩
  unfold signs at hp
  rw [List.getElem?_map] at hp
  obtain ⟨c, hc, rfl⟩ := Option.map_eq_some_iff.mp hp
  have hc' : x.cps[i]? = some c := by simpa using hc
  refine ⟨(Array.getElem?_eq_some_iff.mp hc').1, fun v H' y => ?_⟩
  obtain ⟨rfl, c', e1, rfl⟩ := y
  rw [hc'] at e1
  cases e1
  exact ⟨F1, Stp.refl, .str _⟩
def rngL (lo : Int) (n : Nat) : List P := (List.range n).map fun (i : Nat) => .int (lo + (i : Int))
theorem walk_rng {K : PySem.W.Frag} {F : Hp} (lo : Int) (n : Nat) : WalkD K F (Itr lo n) (rngL lo n) := fun i F1 H s1 s2 => by
  refine ⟨fun p hp => ?_, fun hl => (show n ≤ i by simpa [rngL] using hl)⟩
  unfold rngL at hp
  rw [List.getElem?_map] at hp
  obtain ⟨j, hj, rfl⟩ := Option.map_eq_some_iff.mp hp
  obtain ⟨h1, h2⟩ := List.getElem?_eq_some_iff.mp hj
  rw [List.getElem_range] at h2
  subst h2
  refine ⟨(show i < n by simpa using h1), fun v H' y => ?_⟩
  obtain ⟨rfl, rfl⟩ := y
  exact ⟨F1, Stp.refl, .int _⟩
def rngC (lo c : Int) (n : Nat) : List P := (List.range n).map fun (i : Nat) => .int (lo + (i : Int) * c)
theorem walk_rngC {K : PySem.W.Frag} {F : Hp} (lo c : Int) (n : Nat) : WalkD K F (Itc lo c n) (rngC lo c n) := fun i F1 H s1 s2 => by
  refine ⟨fun p hp => ?_, fun hl => (show n ≤ i by simpa [rngC] using hl)⟩
  unfold rngC at hp
  rw [List.getElem?_map] at hp
  obtain ⟨j, hj, rfl⟩ := Option.map_eq_some_iff.mp hp
  obtain ⟨h1, h2⟩ := List.getElem?_eq_some_iff.mp hj
  rw [List.getElem_range] at h2
  subst h2
  refine ⟨(show i < n by simpa using h1), fun v H' y => ?_⟩
  obtain ⟨rfl, rfl⟩ := y
  exact ⟨F1, Stp.refl, .int _⟩
/-- a value is walked: a list, a tuple, a text -/
def itP : P → Option (List P)
  | .list xs => some xs
  | .tuple xs => some xs
  | .str x => some (signs x)
  | _ => none
def dIt (f : EF) : EL := fun ρ => (f ρ).bind fun x => (itP x.1).map fun y => (y, x.2)
/-- the iterator of a value -/
theorem iter_val {K : PySem.W.Frag} {pins : List (Addr × Obj)} {s1 : Shared} {σ : L2.St} {H1 F : Hp} {v : Value} {x : V} {p : P} {ps : List P} {Rk : It → Hp → Prop} {E : Value → Shared → Prop} (I1 : Inv X pins σ H1 s1) (hK : X.K = K) (rx : RelV x v) (s : Same F H1) (d : DP K F x p) (e : itP p = some ps)
    (k : ∀ J, WalkD K F J ps → Rk J H1) : wpAny (model X.prog X.w) X.A (pyIter v) (PIE X pins σ tg Rk) E s1 := by
  subst hK
  cases d with
  | lst h1 h2 =>
    rename_i ad xs qs
    cases e
    cases rx
    have hq : SqL X.K H1 ad xs := (LK.mono h1 s).seq
    obtain ⟨its, rv, p, hz⟩ := I1.list hq
    refine wpAny_pyIter_list p.isList ?_
    refine ⟨s1.heap.objs.size, [s1.heap.objs.size], _, _, H1, rfl, I1.kept (t' := s1.toks) fun b o e => Heap.get?_push_of_some _ e, turn_list ad _, ⟨_, Heap.get?_push_size _ rfl, rfl, rfl⟩, fun b hb => ?_, k _ (walk_list h1 h2)⟩
    have e : b = s1.heap.objs.size := by simpa using hb
    subst e
    exact I1.fpOk (Nat.le_refl _) (I1.hok.fresh (Nat.le_refl _))
  | tup h1 h2 =>
    rename_i ad xs qs
    cases e
    cases rx
    have hq : SqT X.K H1 ad xs := SqT.mono h1 s
    obtain ⟨its, rv, p, hz⟩ := I1.tuple hq
    refine wpAny_pyIter_tuple (show s1.heap.IsTuple ad its.toArray from p) ?_
    refine ⟨s1.heap.objs.size, [s1.heap.objs.size], _, _, H1, rfl, I1.kept (t' := s1.toks) fun b o e => Heap.get?_push_of_some _ e, turn_tuple ad _, ⟨_, Heap.get?_push_size _ rfl, rfl, rfl⟩, fun b hb => ?_, k _ (walk_tup h1 h2)⟩
    have e : b = s1.heap.objs.size := by simpa using hb
    subst e
    exact I1.fpOk (Nat.le_refl _) (I1.hok.fresh (Nat.le_refl _))
  | str x =>
    cases e
    obtain ⟨t, rfl⟩ := rx
    cases ha : x.cps.all (· < 128)
    · exact wpAny_pyIter_wide ha (pi_one (tk := s1.toks) I1 _ (turn_str _ x t "str_iterator" (.inr rfl)) ⟨_, Heap.get?_push_size _ rfl, rfl, rfl⟩ (k _ (walk_str x)))
    · exact wpAny_pyIter_ascii ha (pi_one (tk := s1.toks) I1 _ (turn_str _ x t "str_ascii_iterator" (.inl rfl)) ⟨_, Heap.get?_push_size _ rfl, rfl, rfl⟩ (k _ (walk_str x)))
  | _ => cases e
theorem i_val (ha : PE X e (tP X.K cm b f)) : PI X tg e (tI X.K cm b (dIt f)) := by
  refine ⟨fun pins s σ H Rk I ⟨W, F, ρ, ps, ρ', r, e, k⟩ => ?_⟩
  simp only [dIt, Option.bind_eq_some_iff, Option.map_eq_some_iff] at e
  obtain ⟨⟨p1, ρ1⟩, e1, ys, e2, e3⟩ := e
  cases e3
  refine thn (ha.run pins s σ H (fun v H' => ∃ F', R X.K cm W σ H' F' ρ1 ∧ Same F F' ∧ Pu b ρ ρ1 H H' ∧ DP X.K F' v p1) I ⟨W, F, ρ, p1, ρ1, r, e1, fun v H1 F1 r1 s1 u1 d1 => ⟨F1, r1, s1, u1, d1⟩⟩) fun v s1 ⟨x, H1, I1, rx, F1, r1, ss1, u1, d1⟩ => ?_
  exact iter_val I1 rfl rx r1.fh d1 e2 fun J w => k J H1 F1 r1 ss1 u1 w
/-- range -/
def rng1P : List P → Option (List P)
  | [.int j] => @ite _ (-(2 ^ 62) ≤ j ∧ j < 2 ^ 62) (Classical.propDecidable _) (some (rngL 0 j.toNat)) none
  | _ => none
def rng2P : List P → Option (List P)
  | [.int i, .int j] => @ite _ (-(2 ^ 62) ≤ i ∧ i < 2 ^ 62 ∧ -(2 ^ 62) ≤ j ∧ j < 2 ^ 62) (Classical.propDecidable _) (some (rngL i (j - i).toNat)) none
  | _ => none
def dItA (g : List P → Option (List P)) (f : EL) : EL := fun ρ => (f ρ).bind fun x => (g x.1).map fun y => (y, x.2)
theorem i_range1 {p : Pos} {f : EL} (hm : MgN X "range") (ha : PA X [a] (tA X.K cm b f)) (hg : Gl X "range" := by rfl) (hs : starEach [a] X.env = [(false, eval a X.env)] := by rfl) : PI X tg (.Call (.Name "range" p) [a] [] pos) (tI X.K cm b (dItA rng1P f)) :=
  HW.PI.imp (pi_range1 hg hm ha hs) fun σ H Rk ⟨W, F, ρ, ps, ρ', r, e, k⟩ => by
    simp only [dItA, Option.bind_eq_some_iff, Option.map_eq_some_iff] at e
    obtain ⟨⟨p1, ρ1⟩, e1, ys, e2, e3⟩ := e
    cases e3
    refine ⟨W, F, ρ, p1, ρ1, r, e1, fun vs H1 F1 r1 s1 u1 d1 => ?_⟩
    have e2' : rng1P p1 = some _ := e2
    unfold rng1P at e2'
    split at e2'
    · rename_i j
      split at e2'
      · rename_i hj
        cases e2'
        cases d1 with | cons x t => cases t; cases x; exact ⟨j, rfl, hj.1, hj.2, k _ H1 F1 r1 s1 u1 (walk_rng _ _)⟩
      · cases e2'
    · cases e2'
theorem i_range2 {p : Pos} {f : EL} (hm : MgN X "range") (ha : PA X [a, c] (tA X.K cm b f)) (hg : Gl X "range" := by rfl) (hs : starEach [a, c] X.env = [(false, eval a X.env), (false, eval c X.env)] := by rfl) (hs2 : starEach [c] X.env = [(false, eval c X.env)] := by rfl) : PI X tg (.Call (.Name "range" p) [a, c] [] pos) (tI X.K cm b (dItA rng2P f)) :=
  HW.PI.imp (pi_range2 hg hm ha hs hs2) fun σ H Rk ⟨W, F, ρ, ps, ρ', r, e, k⟩ => by
    simp only [dItA, Option.bind_eq_some_iff, Option.map_eq_some_iff] at e
    obtain ⟨⟨p1, ρ1⟩, e1, ys, e2, e3⟩ := e
    cases e3
    refine ⟨W, F, ρ, p1, ρ1, r, e1, fun vs H1 F1 r1 s1 u1 d1 => ?_⟩
    have e2' : rng2P p1 = some _ := e2
    unfold rng2P at e2'
    split at e2'
    · rename_i i j
      split at e2'
      · rename_i hj
        cases e2'
        cases d1 with | cons x t => cases t with | cons y t => cases t; cases x; cases y; exact ⟨i, j, rfl, hj, k _ H1 F1 r1 s1 u1 (walk_rng _ _)⟩
      · cases e2'
    · cases e2'
def rng3P : List P → Option (List P)
  | [.int i, .int j, .int c] =>
    @ite _ (-(2 ^ 62) ≤ i ∧ i < 2 ^ 62 ∧ -(2 ^ 62) ≤ j ∧ j < 2 ^ 62) (Classical.propDecidable _)
      (if c = -1 then some (rngC i (-1) (i - j).toNat)
      else @ite _ (c ≠ 0 ∧ c.natAbs < 1073741824 ∧ Builtin.Range.small i j c = true ∧ 0 ≤ Builtin.Range.rangeSize i j c) (Classical.propDecidable _) (some (rngC i c (Builtin.Range.rangeSize i j c).toNat)) none)
    none
  | _ => none
/-- range with a step -/
theorem rng3_some {ps zs : List P} (h : rng3P ps = some zs) : ∃ (i j c : Int) (n : Nat), ps = [.int i, .int j, .int c] ∧ RgC i j c n ∧ zs = rngC i c n := by
  unfold rng3P at h
  split at h
  · rename_i i j c
    split at h
    · rename_i hb
      split at h
      · rename_i hc
        cases h
        subst hc
        exact ⟨i, j, -1, _, rfl, RgC.neg hb.1 hb.2.1 hb.2.2.1 hb.2.2.2, rfl⟩
      · split at h
        · rename_i hc
          cases h
          exact ⟨i, j, c, _, rfl, ⟨hc.1, hc.2.1, hc.2.2.1, by have := hc.2.2.2; omega⟩, rfl⟩
        · cases h
    · cases h
  · cases h
theorem i_range3 {d : Expr} {p : Pos} {f : EL} (hm : MgN X "range") (ha : PA X [a, c, d] (tA X.K cm b f)) (hg : Gl X "range" := by rfl) (hs : starEach [a, c, d] X.env = (false, eval a X.env) :: starEach [c, d] X.env := by rfl) (hpl : (backTo pos (starEach [c, d] X.env)).any (·.1) = false := by rfl) : PI X tg (.Call (.Name "range" p) [a, c, d] [] pos) (tI X.K cm b (dItA rng3P f)) :=
  HW.PI.imp (pi_range3 hg hm ha hs hpl) fun σ H Rk ⟨W, F, ρ, ps, ρ', r, e, k⟩ => by
    simp only [dItA, Option.bind_eq_some_iff, Option.map_eq_some_iff] at e
    obtain ⟨⟨p1, ρ1⟩, e1, ys, e2, e3⟩ := e
    cases e3
    refine ⟨W, F, ρ, p1, ρ1, r, e1, fun vs H1 F1 r1 s1 u1 d1 => ?_⟩
    obtain ⟨i, j, c, n, h1, h2, h3⟩ := rng3_some e2
    have h1' : p1 = [.int i, .int j, .int c] := h1
    subst h1'
    subst h3
    cases d1 with | cons x t => cases t with | cons y t => cases t with | cons z t => cases t; cases x; cases y; cases z; exact ⟨i, j, c, n, rfl, h2, k _ H1 F1 r1 s1 u1 (walk_rngC _ _ _)⟩
/-- enumerate(list) -/
def enumL : Nat → List P → List P
  | _, [] => []
  | n, p :: ps => .tuple [.int n, p] :: enumL (n + 1) ps
theorem enumL_get : ∀ {ps : List P} {n i : Nat} {q : P}, (enumL n ps)[i]? = some q → ∃ p, ps[i]? = some p ∧ q = .tuple [.int ((n + i : Nat) : Int), p]
  | [], _, _, _, h => by simp [enumL] at h
  | p :: ps, n, 0, q, h => by
    simp [enumL] at h
    exact ⟨p, rfl, h.symm⟩
  | p :: ps, n, i + 1, q, h => by
    obtain ⟨r, h1, h2⟩ := enumL_get (ps := ps) (n := n + 1) (i := i) (by simpa [enumL] using h)
    exact ⟨r, by simpa using h1, by rw [h2, show n + 1 + i = n + (i + 1) by omega]⟩
theorem enumL_len : ∀ (ps : List P) (n : Nat), (enumL n ps).length = ps.length
  | [], _ => rfl
  | _ :: ps, n => by simp [enumL, enumL_len ps]
theorem walk_enum {K : PySem.W.Frag} {F : Hp} {ad : Addr} {vs : List V} {ps : List P} (h : LK K F ad vs) (d : DPs K F vs ps) : WalkD K F (Ite K ad) (enumL 0 ps) := fun i F1 H s1 s2 => by
  have hq : SqL K H ad vs := ((h.mono s1).mono s2).seq
  refine ⟨fun p hp => ?_, fun hl => ⟨vs, hq, by rw [DPs.length d]; rw [enumL_len] at hl; exact hl⟩⟩
  obtain ⟨p0, h0, rfl⟩ := enumL_get hp
  obtain ⟨v, hv, dv⟩ := DPs.get d h0
  refine ⟨⟨vs, v, hq, hv⟩, fun x H' y => ?_⟩
  obtain ⟨T, x0, rfl, hT, rfl, y⟩ := y
  have e : x0 = v := Option.some.inj ((y vs hq).symm.trans hv)
  subst e
  refine ⟨upd F1 T (.tup [.int (i : Nat), x0]), Stp.laid s2 hT, ?_⟩
  rw [Nat.zero_add]
  exact laid_tup (σ := []) (H := H) (ρ := []) (.cons (.int _) (.cons (DP.mono dv s1) .nil)) (s2.free hT)
def enumP : List P → Option (List P)
  | [.list xs] => some (enumL 0 xs)
  | _ => none
theorem i_enum {p tpos : Pos} {elts : List Expr} {kk : Nat} {f : EL} (hm : MgN X "enumerate") (ha : PA X [a] (tA X.K cm b f)) (hg : Gl X "enumerate" := by rfl) (hs : starEach [a] X.env = [(false, eval a X.env)] := by rfl) : PI X (.Tuple elts kk tpos) (.Call (.Name "enumerate" p) [a] [] pos) (tI X.K cm b (dItA enumP f)) :=
  HW.PI.imp (pi_enum hg hm ha hs) fun σ H Rk ⟨W, F, ρ, ps, ρ', r, e, k⟩ => by
    simp only [dItA, Option.bind_eq_some_iff, Option.map_eq_some_iff] at e
    obtain ⟨⟨p1, ρ1⟩, e1, ys, e2, e3⟩ := e
    cases e3
    refine ⟨W, F, ρ, p1, ρ1, r, e1, fun vs H1 F1 r1 s1 u1 d1 => ?_⟩
    have e2' : enumP p1 = some _ := e2
    unfold enumP at e2'
    split at e2'
    · cases e2'
      obtain ⟨ad, us, rfl, h1, h2⟩ := one_lst d1
      exact ⟨ad, us, rfl, (LK.mono h1 r1.fh).seq, k _ H1 F1 r1 s1 u1 (walk_enum h1 h2)⟩
    · cases e2'
/-- zip(list, list) -/
def zipL : List P → List P → List P
  | p :: ps, q :: qs => .tuple [p, q] :: zipL ps qs
  | _, _ => []
theorem zipL_get : ∀ {ps qs : List P} {i : Nat} {z : P}, (zipL ps qs)[i]? = some z → ∃ p q, ps[i]? = some p ∧ qs[i]? = some q ∧ z = .tuple [p, q]
  | [], _, _, _, h => by simp [zipL] at h
  | _ :: _, [], _, _, h => by simp [zipL] at h
  | p :: ps, q :: qs, 0, z, h => by
    simp [zipL] at h
    exact ⟨p, q, rfl, rfl, h.symm⟩
  | p :: ps, q :: qs, i + 1, z, h => by simpa using zipL_get (ps := ps) (qs := qs) (i := i) (by simpa [zipL] using h)
theorem zipL_len : ∀ (ps qs : List P), (zipL ps qs).length = min ps.length qs.length
  | [], _ => by simp [zipL]
  | _ :: _, [] => by simp [zipL]
  | _ :: ps, _ :: qs => by simp [zipL, zipL_len ps qs]
theorem walk_zip {K : PySem.W.Frag} {F : Hp} {ad bd : Addr} {vs us : List V} {ps qs : List P} (h : LK K F ad vs) (d : DPs K F vs ps) (h' : LK K F bd us) (d' : DPs K F us qs) : WalkD K F (Itz K ad bd) (zipL ps qs) := fun i F1 H s1 s2 => by
  have hq : SqL K H ad vs := ((h.mono s1).mono s2).seq
  have hq' : SqL K H bd us := ((h'.mono s1).mono s2).seq
  refine ⟨fun p hp => ?_, fun hl => ⟨vs, us, hq, hq', by rw [DPs.length d, DPs.length d']; rw [zipL_len] at hl; omega⟩⟩
  obtain ⟨p0, q0, h0, h1, rfl⟩ := zipL_get hp
  obtain ⟨v, hv, dv⟩ := DPs.get d h0
  obtain ⟨u, hu, du⟩ := DPs.get d' h1
  refine ⟨⟨vs, us, v, u, hq, hq', hv, hu⟩, fun x H' y => ?_⟩
  obtain ⟨T, x0, y0, rfl, hT, rfl, y1, y2⟩ := y
  have e : x0 = v := Option.some.inj ((y1 vs hq).symm.trans hv)
  subst e
  have e : y0 = u := Option.some.inj ((y2 us hq').symm.trans hu)
  subst e
  exact ⟨upd F1 T (.tup [x0, y0]), Stp.laid s2 hT, laid_tup (σ := []) (H := H) (ρ := []) (.cons (DP.mono dv s1) (.cons (DP.mono du s1) .nil)) (s2.free hT)⟩
def zipP : List P → Option (List P)
  | [.list xs, .list ys] => some (zipL xs ys)
  | _ => none
theorem i_zip {p tpos : Pos} {elts : List Expr} {kk : Nat} {f : EL} (hm : MgN X "zip") (ha : PA X [a, c] (tA X.K cm b f)) (hg : Gl X "zip" := by rfl) (hs : starEach [a, c] X.env = (false, eval a X.env) :: starEach [c] X.env := by rfl) (hpl : (backTo pos (starEach [c] X.env)).any (·.1) = false := by rfl) : PI X (.Tuple elts kk tpos) (.Call (.Name "zip" p) [a, c] [] pos) (tI X.K cm b (dItA zipP f)) :=
  HW.PI.imp (pi_zip hg hm ha hs hpl) fun σ H Rk ⟨W, F, ρ, ps, ρ', r, e, k⟩ => by
    simp only [dItA, Option.bind_eq_some_iff, Option.map_eq_some_iff] at e
    obtain ⟨⟨p1, ρ1⟩, e1, ys, e2, e3⟩ := e
    cases e3
    refine ⟨W, F, ρ, p1, ρ1, r, e1, fun vs H1 F1 r1 s1 u1 d1 => ?_⟩
    have e2' : zipP p1 = some _ := e2
    unfold zipP at e2'
    split at e2'
    · cases e2'
      cases d1 with | cons x t =>
        obtain ⟨bd, us', rfl, h3, h4⟩ := one_lst t
        cases x with | lst h1 h2 =>
          exact ⟨_, _, _, _, rfl, (LK.mono h1 r1.fh).seq, (LK.mono h3 r1.fh).seq, k _ H1 F1 r1 s1 u1 (walk_zip h1 h2 h3 h4)⟩
    · cases e2'

/-! ### targets -/
inductive Tg where
  | nm (i : Nat)
  | tnil
  | tcons (a : Tg) (r : Tg)
def bindT : Tg → P → Sl → Option Sl
  | .nm i, p, ρ => some (ρ.set i (.pd p))
  | .tnil, .tuple [], ρ => some ρ
  | .tcons a r, .tuple (p :: ps), ρ => (bindT a p ρ).bind fun ρ1 => bindT r (.tuple ps) ρ1
  | _, _, _ => none
def Tg.len : Tg → Nat
  | .tcons _ r => r.len + 1
  | _ => 0
/-- outside of some slots nothing changes -/
def Out (as : Nat → Bool) (σ σ' : L2.St) : Prop := ∀ i, as i = false → σ'[i]? = σ[i]?
theorem Out.refl {as : Nat → Bool} {σ : L2.St} : Out as σ σ := fun _ _ => rfl
theorem Out.trans {as : Nat → Bool} {σ σ1 σ2 : L2.St} (x : Out as σ σ1) (y : Out as σ1 σ2) : Out as σ σ2 := fun i h => (y i h).trans (x i h)
theorem Out.set {as : Nat → Bool} {σ : L2.St} {i : Nat} {v : Option V} (h : as i = true) : Out as σ (σ.set i v) := fun j hj => by
  rw [List.getElem?_set_ne]
  intro e
  subst e
  rw [h] at hj
  cases hj
def tTg (K : PySem.W.Frag) (cm : Str → Addr → Prop) (as : Nat → Bool) (tg : Tg) : TG := fun v σ H Q => ∃ W F ρ p ρ', R K cm W σ H F ρ ∧ DP K F v p ∧ bindT tg p ρ = some ρ' ∧ ∀ σ', R K cm W σ' H F ρ' → Out as σ σ' → Q σ' H
def tTgs (K : PySem.W.Frag) (cm : Str → Addr → Prop) (as : Nat → Bool) (tg : Tg) : TGs := fun vs σ H Q => ∃ W F ρ ps ρ', R K cm W σ H F ρ ∧ DPs K F vs ps ∧ bindT tg (.tuple ps) ρ = some ρ' ∧ ∀ σ', R K cm W σ' H F ρ' → Out as σ σ' → Q σ' H
theorem PG.imp {e : Expr} {t t' : TG} (h : PG X e t) (m : ∀ v σ H Q, t' v σ H Q → t v σ H Q) : PG X e t' := ⟨fun pins s σ H x u Q I r q => h.run pins s σ H x u Q I r (m _ _ _ _ q)⟩
theorem PGs.imp {e : List Expr} {t t' : TGs} (h : PGs X e t) (m : ∀ v σ H Q, t' v σ H Q → t v σ H Q) : PGs X e t' := ⟨fun pins s σ H x u Q I r q => h.run pins s σ H x u Q I r (m _ _ _ _ q)⟩
theorem R.setPd' {K : PySem.W.Frag} {σ : L2.St} {H F : Hp} {ρ : Sl} (r : R K cm W σ H F ρ) {v : V} {q : P} (h : DP K F v q) {i : Nat} : R K cm W (σ.set i (some v)) H F (ρ.set i (.pd q)) := by
  by_cases hi : i < σ.length
  · exact r.setPd h hi
  · have h2 : ρ.length ≤ i := by rw [← r.length]; omega
    rw [List.set_eq_of_length_le (by omega), List.set_eq_of_length_le h2]
    exact r
theorem g_nm (i : Nat) {as : Nat → Bool} {x : Str} {p : Pos} (hN : X.N.Nodup) (hi : X.N[i]? = some x := by rfl) (hx : Loc X.env.scope x := by first | exact .inl rfl | exact .inr rfl) (hf : X.fn x = true ∨ X.env.scope.names.lookup x = some .local := by first | exact .inl rfl | exact .inr rfl | assumption) (ha : as i = true := by rfl) : PG X (.Name x p) (tTg X.K cm as (.nm i)) :=
  HW.PG.imp (pg_name hN hi hx hf) fun v σ H Q ⟨W, F, ρ, p, ρ', r, d, e, k⟩ => by
    cases e
    exact k _ (r.setPd' d) (Out.set ha)
theorem gs_nil {as : Nat → Bool} : PGs X [] (tTgs X.K cm as .tnil) :=
  HW.PGs.imp pgs_nil fun vs σ H Q ⟨W, F, ρ, ps, ρ', r, d, e, k⟩ => by
    cases d with
    | nil => cases e; exact ⟨rfl, k _ r Out.refl⟩
    | cons _ _ => cases e
theorem gs_cons {as : Nat → Bool} {t r : Tg} (h1 : PG X e (tTg X.K cm as t)) (h2 : PGs X es (tTgs X.K cm as r))
    (hs : (assignEach (e :: es) X.env).map (·.2) = assign e X.env :: (assignEach es X.env).map (·.2) := by rfl) : PGs X (e :: es) (tTgs X.K cm as (.tcons t r)) :=
  HW.PGs.imp (pgs_cons h1 h2 hs) fun vs σ H Q ⟨W, F, ρ, ps, ρ', r', d, e, k⟩ => by
    cases d with
    | nil => cases e
    | cons a t =>
      simp only [bindT, Option.bind_eq_some_iff] at e
      obtain ⟨ρ1, e1, e2⟩ := e
      refine ⟨_, _, rfl, W, F, ρ, _, ρ1, r', a, e1, fun σ1 r1 o1 => ⟨W, F, ρ1, _, ρ', r1, t, e2, fun σ2 r2 o2 => k σ2 r2 ?_⟩⟩
      exact o1.trans o2
def Tg.isTup : Tg → Bool
  | .nm _ => false
  | .tnil => true
  | .tcons _ r => r.isTup
theorem Tg.tup_len : ∀ (t : Tg), t.isTup = true → ∀ p ρ ρ', bindT t p ρ = some ρ' → ∃ ps, p = .tuple ps ∧ ps.length = t.len
  | .nm _, h => by cases h
  | .tnil, _ => fun p ρ ρ' e => by
    unfold bindT at e
    split at e <;> first | (cases e; done) | skip
    all_goals (first | (rename_i h; cases h; done) | exact ⟨[], rfl, rfl⟩)
  | .tcons a r, h => fun p ρ ρ' e => by
    cases p with
    | tuple ps =>
      cases ps with
      | nil => cases e
      | cons p ps =>
        simp only [bindT, Option.bind_eq_some_iff] at e
        obtain ⟨ρ1, e1, e2⟩ := e
        obtain ⟨qs, h1, h2⟩ := Tg.tup_len r h _ _ _ e2
        cases h1
        exact ⟨_, rfl, by simp [Tg.len, h2]⟩
    | _ => cases e
theorem g_tup {as : Nat → Bool} {k : Nat} {t : Tg} (hc : X.calm = true) (h : PGs X es (tTgs X.K cm as t)) (hn : (assignEach es X.env).length = t.len := by rfl) (hst : (assignEach es X.env).findIdx? (·.1) = none := by rfl)
    (hl : ∀ p ρ ρ', bindT t p ρ = some ρ' → ∃ ps, p = .tuple ps ∧ ps.length = t.len := by exact Tg.tup_len _ rfl) : PG X (.Tuple es k pos) (tTg X.K cm as t) :=
  HW.PG.imp (pg_tup hc h hn hst) fun v σ H Q ⟨W, F, ρ, p, ρ', r', d, e, k⟩ => by
    obtain ⟨ps, rfl, e1⟩ := hl _ _ _ e
    cases d with
    | tup h1 h2 => exact ⟨_, _, rfl, SqT.mono h1 r'.fh, by rw [DPs.length h2]; exact e1, W, F, ρ, ps, ρ', r', h2, e, k⟩
end
end
end HW

namespace HW
open PySem PySem.Spec PyProof.Rows L2
noncomputable section

/-! ### frames -/
section
variable {K : PySem.W.Frag} {cm : Str → Addr → Prop} {W W' F F' H H' : Hp} {σ : L2.St} {ρ : Sl} {L : Addr} {o o' : HO}
theorem R.weakW (s : Same W W') (r : R K cm W' σ H F ρ) : R K cm W σ H F ρ := by
  obtain ⟨fp, h, n, m⟩ := r.ex
  refine ⟨r.fh, fun a o q => r.wh a o (s a o q), fun a o q => r.wf a o (s a o q), fp, h, n, fun a ha => ⟨(m a ha).1, ?_⟩⟩
  cases e : W a with
  | none => rfl
  | some u =>
    have q := s a u e
    rw [(m a ha).2] at q
    cases q
theorem R.framed (r : R K cm W σ H F ρ) (hD : H L = none) : R K cm (upd W L o) σ (upd H L o) F ρ := by
  obtain ⟨fp, h, n, m⟩ := r.ex
  have fD : F L = none := r.fh.free hD
  have ne : ∀ a ∈ fp, a ≠ L := fun a ha e => by
    subst e
    obtain ⟨u, hu⟩ := h.there a ha
    rw [hD] at hu
    cases hu
  refine ⟨fun a u q => ?_, fun a u q => ?_, fun a u q => ?_, fp, h.mono (Same.refl F) (fun a _ u q => same_upd hD a u q), n, fun a ha => ⟨(m a ha).1, by rw [upd_ne (ne a ha)]; exact (m a ha).2⟩⟩
  · exact same_upd hD _ _ (r.fh a u q)
  · by_cases e : a = L
    · subst e; rw [upd_same] at q ⊢; exact q
    · rw [upd_ne e] at q ⊢; exact r.wh a u q
  · by_cases e : a = L
    · subst e; exact fD
    · rw [upd_ne e] at q; exact r.wf a u q
theorem R.bump (r : R K cm (upd W L o) σ H F ρ) : R K cm (upd W L o') σ (upd H L o') F ρ := by
  obtain ⟨fp, h, n, m⟩ := r.ex
  have fD : F L = none := r.wf L o upd_same
  have ne : ∀ a ∈ fp, a ≠ L := fun a ha e => by
    subst e
    have q := (m a ha).2
    rw [upd_same] at q
    cases q
  refine ⟨fun a u q => ?_, fun a u q => ?_, fun a u q => ?_, fp, h.mono (Same.refl F) (fun a ha u q => by rw [upd_ne (ne a ha)]; exact q), n, fun a ha => ⟨(m a ha).1, ?_⟩⟩
  · rw [upd_ne (ne_of_none q fD)]; exact r.fh a u q
  · by_cases e : a = L
    · subst e; rw [upd_same] at q ⊢; exact q
    · rw [upd_ne e] at q ⊢; exact r.wh a u (by rw [upd_ne e]; exact q)
  · by_cases e : a = L
    · subst e; exact fD
    · rw [upd_ne e] at q; exact r.wf a u (by rw [upd_ne e]; exact q)
  · have q := (m a ha).2
    rw [upd_ne (ne a ha)] at q ⊢
    exact q
def del (H : Hp) (L : Addr) : Hp := fun a => if a = L then none else H a
theorem del_same : del H L L = none := if_pos rfl
theorem del_ne {a : Addr} (h : a ≠ L) : del H L a = H a := if_neg h
theorem upd_del (h : H L = some o) : upd (del H L) L o = H := by
  funext a
  by_cases e : a = L
  · subst e; rw [upd_same, h]
  · rw [upd_ne e, del_ne e]
theorem R.unframe (r : R K cm (upd W L o) σ H F ρ) (hW : W L = none) : R K cm W σ (del H L) F ρ := by
  obtain ⟨fp, h, n, m⟩ := r.ex
  have fD : F L = none := r.wf L o upd_same
  have ne : ∀ a ∈ fp, a ≠ L := fun a ha e => by
    subst e
    have q := (m a ha).2
    rw [upd_same] at q
    cases q
  refine ⟨fun a u q => ?_, fun a u q => ?_, fun a u q => ?_, fp, h.mono (Same.refl F) (fun a ha u q => by rw [del_ne (ne a ha)]; exact q), n, fun a ha => ⟨(m a ha).1, ?_⟩⟩
  · rw [del_ne (ne_of_none q fD)]; exact r.fh a u q
  · have e := ne_of_none q hW
    rw [del_ne e]; exact r.wh a u (by rw [upd_ne e]; exact q)
  · have e := ne_of_none q hW
    exact r.wf a u (by rw [upd_ne e]; exact q)
  · have q := (m a ha).2
    rw [upd_ne (ne a ha)] at q
    exact q

/-! ### a comprehension's own slots -/
def wipeR (ρ : Sl) : List Nat → Sl
  | [] => ρ
  | v :: vs => (wipeR ρ vs).set v .hole
def fillR (ρ1 : Sl) (ρ : Sl) : List Nat → Sl
  | [] => ρ
  | v :: vs => (fillR ρ1 ρ vs).set v ((ρ1[v]?).getD .hole)
def isPd : D → Bool
  | .pd _ => true
  | .hole => true
  | _ => false
def ownOk (ρ : Sl) (vs : List Nat) : Bool := vs.all fun v => isPd ((ρ[v]?).getD .hole)
theorem RE.setNo {fp : List Addr} (h : RE K cm F H σ ρ fp) : ∀ (i : Nat), ∃ g, RE K cm F H (σ.set i none) (ρ.set i .hole) g ∧ Sub g fp := by
  induction h with
  | nil => intro i; exact ⟨[], by simpa using .nil, Sub.refl _⟩
  | @no x0 σ0 ρ0 g0 r ih =>
    intro i
    cases i with
    | zero => exact ⟨g0, .no r, Sub.refl _⟩
    | succ i => obtain ⟨g, h1, h2⟩ := ih i; exact ⟨g, .no h1, h2⟩
  | @yes v0 d0 σ0 ρ0 f0 g0 x r ih =>
    intro i
    cases i with
    | zero => exact ⟨g0, .no r, Sub.right f0 g0⟩
    | succ i => obtain ⟨g, h1, h2⟩ := ih i; exact ⟨f0 ++ g, .yes x h1, (Sub.refl f0).app h2⟩
theorem RE.unset : ∀ {i : Nat} {τ : L2.St} {ρ : Sl} {fp : List Addr}, RE K cm F H (τ.set i none) ρ fp → RE K cm F H τ ρ fp
  | _, [], _, _, h => by simpa using h
  | 0, x :: τ, _, _, h => by
    rw [List.set_cons_zero] at h
    cases h with
    | no r => exact .no r
  | i + 1, x :: τ, _, _, h => by
    rw [List.set_cons_succ] at h
    cases h with
    | no r => exact .no (RE.unset r)
    | yes a r => exact .yes a (RE.unset r)
theorem R.setNo (r : R K cm W σ H F ρ) (i : Nat) : R K cm W (σ.set i none) H F (ρ.set i .hole) := by
  obtain ⟨fp, e, nd, m⟩ := r.ex
  obtain ⟨g, h1, h2⟩ := e.setNo i
  exact .ofRE r.fh r.wh r.wf nd m h1 h2
theorem R.unset {i : Nat} (r : R K cm W (σ.set i none) H F ρ) : R K cm W σ H F ρ := by
  obtain ⟨fp, e, nd, m⟩ := r.ex
  exact ⟨r.fh, r.wh, r.wf, fp, e.unset, nd, m⟩
theorem R.wipe (r : R K cm W σ H F ρ) : ∀ vs : List Nat, R K cm W (L2.wipe σ vs) H F (wipeR ρ vs)
  | [] => r
  | v :: vs => (R.wipe r vs).setNo v
theorem R.unwipe : ∀ {vs : List Nat}, R K cm W (L2.wipe σ vs) H F ρ → R K cm W σ H F ρ
  | [], r => r
  | v :: vs, r => R.unwipe (vs := vs) (R.unset r)
theorem R.fill {H1 F1 : Hp} {ρ1 : Sl} {W1 : Hp} (r1 : R K cm W1 σ H1 F1 ρ1) (s : Same F1 F) : ∀ {vs : List Nat}, ownOk ρ1 vs = true → R K cm W σ H F ρ → R K cm W σ H F (fillR ρ1 ρ vs)
  | [], _, r => r
  | v :: vs, h, r => by
    unfold ownOk at h
    rw [List.all_cons, Bool.and_eq_true] at h
    have q := R.fill r1 s (vs := vs) h.2 r
    show R K cm W σ H F ((fillR ρ1 ρ vs).set v ((ρ1[v]?).getD .hole))
    cases e : ρ1[v]? with
    | none => exact q.drop v
    | some d =>
      rw [e] at h
      cases d with
      | hole => exact q.drop v
      | pd p =>
        obtain ⟨x, h1, h2⟩ := r1.get e
        exact (q.pd (DP.mono h2 s)).back h1
      | _ => exact absurd h.1 (by simp [isPd])
theorem wipeR_len (ρ : Sl) : ∀ vs : List Nat, (wipeR ρ vs).length = ρ.length
  | [] => rfl
  | v :: vs => by simp [wipeR, wipeR_len ρ vs]
theorem fillR_len (ρ1 ρ : Sl) : ∀ vs : List Nat, (fillR ρ1 ρ vs).length = ρ.length
  | [] => rfl
  | v :: vs => by simp [fillR, fillR_len ρ1 ρ vs]
theorem fill_wipe (ρ : Sl) : ∀ vs ws : List Nat, (∀ v ∈ ws, v ∈ vs) → fillR ρ (wipeR ρ ws) vs = ρ := by
  intro vs ws hs
  have w : ∀ (ws : List Nat) i, i ∉ ws → (wipeR ρ ws)[i]? = ρ[i]? := by
    intro ws
    induction ws with
    | nil => intro i _; rfl
    | cons v vs ih =>
      intro i hi
      simp only [List.mem_cons, not_or] at hi
      show ((wipeR ρ vs).set v .hole)[i]? = _
      rw [List.getElem?_set_ne (Ne.symm hi.1), ih i hi.2]
  have f : ∀ (vs : List Nat) i, (fillR ρ (wipeR ρ ws) vs)[i]? = if i ∈ vs then ρ[i]? else (wipeR ρ ws)[i]? := by
    intro vs
    induction vs with
    | nil => intro i; simp [fillR]
    | cons v vs ih =>
      intro i
      show ((fillR ρ (wipeR ρ ws) vs).set v ((ρ[v]?).getD .hole))[i]? = _
      by_cases e : v = i
      · subst e
        rw [if_pos (by simp)]
        by_cases hv : v < ρ.length
        · rw [List.getElem?_set_self (by rw [fillR_len, wipeR_len]; exact hv), List.getElem?_eq_getElem hv]
          rfl
        · rw [List.getElem?_eq_none (by rw [List.length_set, fillR_len, wipeR_len]; omega), List.getElem?_eq_none (by omega)]
      · rw [List.getElem?_set_ne e, ih]
        have : (i ∈ v :: vs) ↔ i ∈ vs := by simp [Ne.symm e]
        simp only [this]
  apply List.ext_getElem?
  intro i
  rw [f]
  split
  · rfl
  · rename_i h
    exact w ws i fun q => h (hs i q)
theorem wipeR_get (ρ : Sl) : ∀ {vs : List Nat} {i : Nat}, (wipeR ρ vs)[i]? = if i ∈ vs then (if i < ρ.length then some .hole else none) else ρ[i]?
  | [], i => by simp [wipeR]
  | v :: vs, i => by
    show ((wipeR ρ vs).set v .hole)[i]? = _
    by_cases e : v = i
    · subst e
      rw [if_pos (by simp), List.getElem?_set_self']
      by_cases hv : v < ρ.length
      · rw [if_pos hv, List.getElem?_eq_getElem (by rw [wipeR_len]; exact hv)]
        rfl
      · rw [if_neg hv, List.getElem?_eq_none (by rw [wipeR_len]; omega)]
        rfl
    · rw [List.getElem?_set_ne e, wipeR_get]
      have : (i ∈ v :: vs) ↔ i ∈ vs := by simp [Ne.symm e]
      simp only [this]
theorem wipeR_twice (ρ : Sl) (vs : List Nat) : wipeR (wipeR ρ vs) vs = wipeR ρ vs := by
  apply List.ext_getElem?
  intro i
  rw [wipeR_get, wipeR_get, wipeR_len]
  split <;> rfl
theorem bindT_len : ∀ {t : Tg} {p : P} {ρ ρ' : Sl}, bindT t p ρ = some ρ' → ρ'.length = ρ.length
  | .nm _, _, _, _, h => by cases h; simp
  | .tnil, p, ρ, ρ', h => by
    cases p with
    | tuple ps => cases ps with
      | nil => cases h; rfl
      | cons _ _ => cases h
    | _ => cases h
  | .tcons a r, p, ρ, ρ', h => by
    cases p with
    | tuple ps => cases ps with
      | nil => cases h
      | cons _ _ =>
        simp only [bindT, Option.bind_eq_some_iff] at h
        obtain ⟨ρ1, e1, e2⟩ := h
        rw [bindT_len e2, bindT_len e1]
    | _ => cases h
theorem wipe_get {σ : L2.St} : ∀ {vs : List Nat} {i : Nat}, (wipe σ vs)[i]? = if i ∈ vs then (if i < σ.length then some none else none) else σ[i]?
  | [], i => by simp [L2.wipe]
  | v :: vs, i => by
    show ((L2.wipe σ vs).set v none)[i]? = _
    by_cases e : v = i
    · subst e
      rw [if_pos (by simp), List.getElem?_set_self']
      by_cases hv : v < σ.length
      · rw [if_pos hv, List.getElem?_eq_getElem (by rw [wipe_length]; exact hv)]
        rfl
      · rw [if_neg hv, List.getElem?_eq_none (by rw [wipe_length]; omega)]
        rfl
    · rw [List.getElem?_set_ne e, wipe_get]
      have : (i ∈ v :: vs) ↔ i ∈ vs := by simp [Ne.symm e]
      simp only [this]
theorem wipe_out {σ σ2 : L2.St} {vs : List Nat} (hl : σ2.length = σ.length) (o : Out (fun i => vs.contains i) (L2.wipe σ vs) σ2) : L2.wipe σ2 vs = L2.wipe σ vs := by
  apply List.ext_getElem?
  intro i
  rw [wipe_get, wipe_get, hl]
  split
  · rfl
  · rename_i h
    have q := o i (by simpa using h)
    rw [q, wipe_get, if_neg h]
end

/-! ### comprehensions -/
def compL (vs : List Nat) (tg : Tg) (cnd : EB) (elt : EF) : List P → Sl → Option (List P × Sl)
  | [], ρ => some ([], ρ)
  | p :: ps, ρ => (bindT tg p ρ).bind fun ρ1 => (cnd ρ1).bind fun c =>
    if c.1 then (elt c.2).bind fun q => (compL vs tg cnd elt ps (wipeR q.2 vs)).map fun r => (q.1 :: r.1, r.2) else compL vs tg cnd elt ps (wipeR c.2 vs)
def dComp (it : EL) (vs : List Nat) (tg : Tg) (cnd : EB) (elt : EF) : EL := fun ρ => (it ρ).bind fun x =>
  if x.1.length ≤ 16777216 ∧ ownOk x.2 vs = true then (compL vs tg cnd elt x.1 (wipeR x.2 vs)).map fun y => (y.1, fillR x.2 y.2 vs) else none
def dYes : EB := fun ρ => some (true, ρ)
theorem PTs.imp {X : Cx} {e : List Expr} {t t' : TT} (h : PTs X e t) (m : ∀ σ H Q, t' σ H Q → t σ H Q) : PTs X e t' := ⟨fun pins s σ H Q I q => h.run pins s σ H Q I (m _ _ _ q)⟩
section
variable {X : Cx} {cm : Str → Addr → Prop} {pos : Pos} {b b1 b2 b3 : Bool}
theorem c_yes : PTs X [] (tT X.K cm true dYes) := HW.PTs.imp pts_nil fun σ H Q ⟨W, F, ρ, p, ρ', r, e, k⟩ => by
  cases e
  exact k H F r (Same.refl F) Pu.refl
theorem c_one {c : Expr} {f : EB} (h : PT X c (tT X.K cm b f)) : PTs X [c] (tT X.K cm b f) := pts_one h
theorem compL_len {vs : List Nat} {tg : Tg} {cnd : EB} {elt : EF} : ∀ {ps : List P} {ρ ρ' : Sl} {qs : List P}, compL vs tg cnd elt ps ρ = some (qs, ρ') → qs.length ≤ ps.length
  | [], _, _, _, h => by cases h; simp
  | p :: ps, ρ, ρ', qs, h => by
    simp only [compL, Option.bind_eq_some_iff] at h
    obtain ⟨ρ1, e1, ⟨c, ρ2⟩, e2, e3⟩ := h
    split at e3
    · simp only [Option.bind_eq_some_iff, Option.map_eq_some_iff] at e3
      obtain ⟨⟨q, ρ3⟩, e4, ⟨rs, ρ4⟩, e5, e6⟩ := e3
      cases e6
      have := compL_len e5
      simp; omega
    · have := compL_len e3
      simp; omega
def tgIn (vs : List Nat) : Tg → Bool
  | .nm i => vs.contains i
  | .tnil => true
  | .tcons a r => tgIn vs a && tgIn vs r
theorem wipe_set {ρ : Sl} {d : D} {vs : List Nat} {i : Nat} (h : i ∈ vs) : wipeR (ρ.set i d) vs = wipeR ρ vs := by
  apply List.ext_getElem?
  intro j
  rw [wipeR_get, wipeR_get, List.length_set]
  split
  · rfl
  · rename_i hj
    rw [List.getElem?_set_ne (fun z : i = j => hj (by rw [← z]; exact h))]
theorem bindT_wipe {vs : List Nat} : ∀ {t : Tg} {p : P} {ρ ρ' : Sl}, tgIn vs t = true → bindT t p ρ = some ρ' → wipeR ρ' vs = wipeR ρ vs
  | .nm i, p, ρ, ρ', h, e => by
    cases e
    exact wipe_set (by simpa [tgIn] using h)
  | .tnil, p, ρ, ρ', h, e => by
    cases p with
    | tuple ps => cases ps with
      | nil => cases e; rfl
      | cons _ _ => cases e
    | _ => cases e
  | .tcons a r, p, ρ, ρ', h, e => by
    unfold tgIn at h
    rw [Bool.and_eq_true] at h
    cases p with
    | tuple ps => cases ps with
      | nil => cases e
      | cons _ _ =>
        simp only [bindT, Option.bind_eq_some_iff] at e
        obtain ⟨ρ1, e1, e2⟩ := e
        rw [bindT_wipe h.2 e2, bindT_wipe h.1 e1]
    | _ => cases e
/-- the loop of a comprehension -/
theorem lc_imp {K : PySem.W.Frag} {vs : List Nat} {it : EL} {t : Tg} {cnd : EB} {el : EF} (htg : tgIn vs t = true) : ∀ σ H Q, tL K cm (b1 && (b2 && b3)) (dComp it vs t cnd el) σ H Q →
    tLc (tI K cm b1 it) (tTg K cm (fun i => vs.contains i) t) (tT K cm b2 cnd) (tP K cm b3 el) vs σ H Q :=
  fun σ H Q ⟨W, F, ρ, qs, ρ', r, e, k⟩ => by
    simp only [dComp, Option.bind_eq_some_iff] at e
    obtain ⟨⟨ps, ρ1⟩, e1, e2⟩ := e
    split at e2
    · rename_i hlen
      have hl : ps.length ≤ 16777216 := hlen.1
      obtain ⟨⟨qs', ρf⟩, e3, e4⟩ := Option.map_eq_some_iff.mp e2
      cases e4
      refine ⟨W, F, ρ, ps, ρ1, r, e1, fun J H1 F1 r1 s1 u1 w => fun D hD => ?_⟩
      have WD : W D = none := r1.wh.free hD
      refine ⟨fun i m H2 => m = ps.length - i ∧ i ≤ ps.length ∧ ∃ acc accP F2 ρ2 rest, R K cm (upd W D (.lst acc)) (L2.wipe σ vs) H2 F2 ρ2 ∧ Same F1 F2 ∧ DPs K F2 acc accP ∧ acc.length ≤ i ∧
        compL vs t cnd el (ps.drop i) ρ2 = some (rest, ρf) ∧ accP ++ rest = qs' ∧ ((b2 && b3) = true → ρ2 = wipeR ρ1 vs ∧ Same H1 H2), ⟨ps.length, by simp, Nat.zero_le _, [], [], F1, wipeR ρ1 vs, qs', ?_, Same.refl _, .nil, Nat.le_refl _, (by rw [List.drop_zero]; exact e3), rfl, fun _ => ⟨rfl, same_upd hD⟩⟩, ?_⟩
      · exact (r1.wipe _).framed hD
      · rintro i m H2 ⟨rfl, hi2, acc, accP, F2, ρ2, rest, r2, s2, d2, l2, e5, e6, pu⟩
        obtain ⟨wa, wb⟩ := w i F2 H2 s2 r2.fh
        by_cases hlt : i < ps.length
        · right
          obtain ⟨go, yl⟩ := wa ps[i] (List.getElem?_eq_getElem hlt)
          refine ⟨go, fun H' => ∃ acc accP F2 ρ2 rest, R K cm (upd W D (.lst acc)) (L2.wipe σ vs) H' F2 ρ2 ∧ Same F1 F2 ∧ DPs K F2 acc accP ∧ acc.length ≤ i + 1 ∧
            compL vs t cnd el (ps.drop (i + 1)) ρ2 = some (rest, ρf) ∧ accP ++ rest = qs' ∧ ((b2 && b3) = true → ρ2 = wipeR ρ1 vs ∧ Same H1 H'), fun H' h' => ⟨ps.length - (i + 1), by omega, rfl, hlt, h'⟩, fun x H' y => ?_⟩
          obtain ⟨F3, ⟨st1, st2, st3⟩, dx⟩ := yl x H' y
          rw [List.drop_eq_getElem_cons hlt] at e5
          simp only [compL, Option.bind_eq_some_iff] at e5
          obtain ⟨ρ3, e7, ⟨c, ρ4⟩, e8, e9⟩ := e5
          have r3 := st3 _ _ _ _ r2
          refine ⟨_, F3, ρ2, ps[i], ρ3, r3, dx, e7, fun σ2 r4 o2 => ⟨wipe_out (by rw [r4.length, ← wipe_length σ, r3.length]; exact bindT_len e7) o2, _, F3, ρ3, c, ρ4, r4, e8, fun H4 F4 r5 s5 u5 => ?_⟩⟩
          have hw2 : L2.wipe σ2 vs = L2.wipe σ vs := wipe_out (by rw [r4.length, ← wipe_length σ, r3.length]; exact bindT_len e7) o2
          cases c with
          | false =>
            rw [if_neg Bool.false_ne_true] at e9
            have r6 := r5.wipe vs
            rw [hw2] at r6
            refine iteF ⟨acc, accP, F4, _, rest, r6, (s2.trans st1).trans s5, DPs.mono d2 (st1.trans s5), Nat.le_succ_of_le l2, e9, e6, fun h => ?_⟩
            obtain ⟨p1, p2⟩ := pu h
            obtain ⟨p3, p4⟩ := u5 (by rw [Bool.and_eq_true] at h; exact h.1)
            exact ⟨by rw [p3, bindT_wipe htg e7, p1, wipeR_twice], (p2.trans st2).trans p4⟩
          | true =>
            rw [if_pos rfl] at e9
            simp only [Option.bind_eq_some_iff, Option.map_eq_some_iff] at e9
            obtain ⟨⟨q, ρ5⟩, e10, ⟨rs, ρ6⟩, e11, e12⟩ := e9
            cases e12
            refine iteT ⟨_, F4, ρ4, q, ρ5, r5, e10, fun v H5 F5 r7 s7 u7 d7 => ⟨acc, r7.wh D _ upd_same, ?_, acc ++ [v], accP ++ [q], F5, _, rs, ?_, ((s2.trans st1).trans s5).trans s7, (DPs.mono d2 ((st1.trans s5).trans s7)).append (.cons d7 .nil), by simp; omega, e11, by rw [List.append_assoc]; exact e6, fun h => ?_⟩⟩
            · rw [sizeLine_eq]; omega
            · have r8 := (r7.wipe vs).bump (o' := .lst (acc ++ [v]))
              rw [hw2] at r8
              exact r8
            · obtain ⟨p1, p2⟩ := pu h
              rw [Bool.and_eq_true] at h
              obtain ⟨p3, p4⟩ := u5 h.1
              obtain ⟨p5, p6⟩ := u7 h.2
              refine ⟨by rw [p5, p3, bindT_wipe htg e7, p1, wipeR_twice], fun a o q => ?_⟩
              rw [upd_ne (ne_of_none q hD)]
              exact p6 a o (p4 a o (st2 a o (p2 a o q)))
        · have hi3 : i = ps.length := by omega
          subst hi3
          left
          refine ⟨wb (Nat.le_refl _), ?_⟩
          rw [List.drop_length] at e5
          cases e5
          rw [List.append_nil] at e6
          subst e6
          refine k D acc (del H2 D) H2 F2 ?_ (s1.trans s2) (fun h => ?_) d2 del_same (upd_del (r2.wh D _ upd_same)).symm
          · exact R.fill r1 s2 hlen.2 (R.unwipe (r2.unframe WD))
          · simp only [Bool.and_eq_true] at h
            obtain ⟨p1, p2⟩ := pu (by rw [Bool.and_eq_true]; exact h.2)
            obtain ⟨p3, p4⟩ := u1 h.1
            refine ⟨by rw [p1, fill_wipe _ _ _ (fun v h => h), p3], fun a o q => ?_⟩
            have q2 := p4 a o q
            rw [del_ne (ne_of_none q2 hD)]
            exact p2 a o q2
    · cases e2
theorem l_comp {elt tg iter : Expr} {ifs : List Expr} {scope : Scope} {own : List (Str × Nat)} {it : EL} {t : Tg} {cnd : EB} {el : EF} (hc : X.calm = true) (hN : X.N.Nodup) (ok : BlkOk X.N X.env.scope scope own) (hi : PI X tg iter (tI X.K cm b1 it))
    (hg : ∀ (s : Shared) (H : Hp) (C : Addr) (cl : List (Str × Addr)) (fp : List Addr), PG (X.blk s H scope (compEnvC scope cl C X.env) fp) tg (tTg X.K cm (fun i => (own.map (·.2)).contains i) t))
    (ht : ∀ (s : Shared) (H : Hp) (C : Addr) (cl : List (Str × Addr)) (fp : List Addr), PTs (X.blk s H scope (compEnvC scope cl C X.env) fp) ifs (tT X.K cm b2 cnd))
    (he : ∀ (s : Shared) (H : Hp) (C : Addr) (cl : List (Str × Addr)) (fp : List Addr), PE (X.blk s H scope (compEnvC scope cl C X.env) fp) elt (tP X.K cm b3 el))
    (htg : tgIn (own.map (·.2)) t = true := by rfl)
    (hs : ∀ x, foldedSetIterable iter X.env x = pure x := by intro _; rfl) :
    PE X (.ListComp elt [⟨tg, iter, ifs, 0⟩] scope pos) (tL X.K cm (b1 && (b2 && b3)) (dComp it (own.map (·.2)) t cnd el)) :=
  PE.imp (pe_lc hc hN hi ok hg ht he hs) (lc_imp htg)
end
end
end HW

namespace HW
open PySem PySem.Spec PyProof.Rows L2
noncomputable section

/-! ### statements -/
inductive Fl where
  | nx
  | bk
  | ct
  | rt (d : D)
abbrev SF := Sl → Option (Fl × Sl)
def Fi (K : PySem.W.Frag) (cm : Str → Addr → Prop) (as : Nat → Bool) (W : Hp) (σ : L2.St) (F : Hp) (Dn : Ends) (fl : Fl) (ρ' : Sl) : Prop :=
  match fl with
  | .nx => ∀ σ' H' F', R K cm W σ' H' F' ρ' → Same F F' → Out as σ σ' → Dn.nx σ' H'
  | .bk => ∀ σ' H' F', R K cm W σ' H' F' ρ' → Same F F' → Out as σ σ' → Dn.bk σ' H'
  | .ct => ∀ σ' H' F', R K cm W σ' H' F' ρ' → Same F F' → Out as σ σ' → Dn.ct σ' H'
  | .rt d => ∀ v σ' H' F', R K cm W (some v :: σ') H' F' (d :: ρ') → Same F F' → Out as σ σ' → Dn.rt v H'
theorem Fi.from {K : PySem.W.Frag} {cm : Str → Addr → Prop} {as : Nat → Bool} {W : Hp} {σ σ1 : L2.St} {F F1 : Hp} {Dn : Ends} {fl : Fl} {ρ' : Sl} (h : Fi K cm as W σ F Dn fl ρ') (s : Same F F1) (o : Out as σ σ1) : Fi K cm as W σ1 F1 Dn fl ρ' := by
  cases fl with
  | nx => exact fun σ' H' F' r s' o' => h σ' H' F' r (s.trans s') (o.trans o')
  | bk => exact fun σ' H' F' r s' o' => h σ' H' F' r (s.trans s') (o.trans o')
  | ct => exact fun σ' H' F' r s' o' => h σ' H' F' r (s.trans s') (o.trans o')
  | rt d => exact fun v σ' H' F' r s' o' => h v σ' H' F' r (s.trans s') (o.trans o')
def tS (K : PySem.W.Frag) (cm : Str → Addr → Prop) (as : Nat → Bool) (f : SF) : TS := fun Dn σ H => ∃ W F ρ fl ρ', R K cm W σ H F ρ ∧ f ρ = some (fl, ρ') ∧ Fi K cm as W σ F Dn fl ρ'

def dNx : SF := fun ρ => some (.nx, ρ)
def dSeq (f g : SF) : SF := fun ρ => (f ρ).bind fun x => match x.1 with
  | .nx => g x.2
  | fl => some (fl, x.2)
def dIfS (c : EB) (f g : SF) : SF := fun ρ => (c ρ).bind fun x => if x.1 then f x.2 else g x.2
def dRet (f : ED) : SF := fun ρ => (f ρ).map fun x => (.rt x.1, x.2)
def dSet (i : Nat) (f : ED) : SF := fun ρ => (f ρ).map fun x => (.nx, x.2.set i x.1)
def dTgt (t : Tg) (f : EF) : SF := fun ρ => (f ρ).bind fun x => (bindT t x.1 x.2).map fun y => (.nx, y)
def forL (t : Tg) (body : SF) : List P → Sl → Option (Fl × Sl)
  | [], ρ => some (.nx, ρ)
  | p :: ps, ρ => (bindT t p ρ).bind fun ρ1 => (body ρ1).bind fun x => match x.1 with
    | .nx => forL t body ps x.2
    | .ct => forL t body ps x.2
    | .bk => some (.nx, x.2)
    | .rt d => some (.rt d, x.2)
def dFor (it : EL) (t : Tg) (body : SF) : SF := fun ρ => (it ρ).bind fun x => forL t body x.1 x.2
def whileL (c : EB) (body : SF) : Nat → Sl → Option (Fl × Sl)
  | 0, _ => none
  | n + 1, ρ => (c ρ).bind fun x => if x.1 then (body x.2).bind fun y => match y.1 with
      | .nx => whileL c body n y.2
      | .ct => whileL c body n y.2
      | .bk => some (.nx, y.2)
      | .rt d => some (.rt d, y.2)
    else some (.nx, x.2)
def FU : Nat := 1099511627776
def dWhile (c : EB) (body : SF) : SF := fun ρ => whileL c body FU ρ
def dMove (i : Nat) : ED := fun ρ => match ρ[i]? with
  | some .hole => none
  | some d => some (d, ρ.set i .hole)
  | none => none

section
variable {X : Cx} {cm : Str → Addr → Prop} {as : Nat → Bool} {pos : Pos} {b b1 b2 : Bool} {st : Stmt} {sts : List Stmt} {f g : SF}
theorem ss_nil : PSs X [] (tS X.K cm as dNx) := HW.PSs.imp pss_nil fun Dn σ H ⟨W, F, ρ, fl, ρ', r, e, k⟩ => by
  cases e
  exact k σ H F r (Same.refl F) Out.refl
theorem seq_imp : ∀ Dn σ H, tS X.K cm as (dSeq f g) Dn σ H → tSeq (tS X.K cm as f) (tS X.K cm as g) Dn σ H := by
  rintro Dn σ H ⟨W, F, ρ, fl, ρ', r, e, k⟩
  simp only [dSeq, Option.bind_eq_some_iff] at e
  obtain ⟨⟨fl1, ρ1⟩, e1, e2⟩ := e
  refine ⟨W, F, ρ, fl1, ρ1, r, e1, ?_⟩
  cases fl1 with
  | nx => exact fun σ' H' F' r' s o => ⟨W, F', ρ1, fl, ρ', r', e2, k.from s o⟩
  | bk => cases e2; exact k
  | ct => cases e2; exact k
  | rt d => cases e2; exact k
theorem ss_cons (h1 : PS X st (tS X.K cm as f)) (h2 : PSs X sts (tS X.K cm as g)) : PSs X (st :: sts) (tS X.K cm as (dSeq f g)) := HW.PSs.imp (pss_cons h1 h2) seq_imp
theorem ss_one (h1 : PS X st (tS X.K cm as f)) : PSs X [st] (tS X.K cm as f) := pss_one h1
theorem s_if {c : Expr} {x y : List Stmt} {q : EB} (hc : PT X c (tT X.K cm b q)) (ha : PSs X x (tS X.K cm as f)) (hb : PSs X y (tS X.K cm as g)) : PS X (.If c x y pos) (tS X.K cm as (dIfS q f g)) :=
  HW.PS.imp (ps_if hc ha hb) fun Dn σ H ⟨W, F, ρ, fl, ρ', r, e, k⟩ => by
    simp only [dIfS, Option.bind_eq_some_iff] at e
    obtain ⟨⟨c1, ρ1⟩, e1, e2⟩ := e
    refine ⟨W, F, ρ, c1, ρ1, r, e1, fun H1 F1 r1 s1 u1 => ?_⟩
    cases c1 with
    | true => rw [if_pos rfl] at e2; exact iteT ⟨W, F1, ρ1, fl, ρ', r1, e2, k.from s1 Out.refl⟩
    | false => rw [if_neg Bool.false_ne_true] at e2; exact iteF ⟨W, F1, ρ1, fl, ρ', r1, e2, k.from s1 Out.refl⟩
theorem s_pass : PS X (.Pass pos) (tS X.K cm as dNx) := HW.PS.imp ps_pass fun Dn σ H ⟨W, F, ρ, fl, ρ', r, e, k⟩ => by
  cases e
  exact k σ H F r (Same.refl F) Out.refl
def dBk : SF := fun ρ => some (.bk, ρ)
theorem s_break : PS X (.Break pos) (tS X.K cm as dBk) := HW.PS.imp ps_break fun Dn σ H ⟨W, F, ρ, fl, ρ', r, e, k⟩ => by
  cases e
  exact k σ H F r (Same.refl F) Out.refl
/-- a statement that is never come to (a raise) -/
def dNever : SF := fun _ => none
theorem s_never : PS X st (tS X.K cm as dNever) := HW.PS.imp ps_never fun Dn σ H ⟨W, F, ρ, fl, ρ', r, e, k⟩ => by cases e
theorem s_doc {x j} {p : Pos} : PS X (.Expr (.Constant (.str x) j p) pos) (tS X.K cm as dNx) := HW.PS.imp ps_doc fun Dn σ H ⟨W, F, ρ, fl, ρ', r, e, k⟩ => by
  cases e
  exact k σ H F r (Same.refl F) Out.refl
theorem s_ret {e : Expr} {q : ED} (h : PE X e (tD X.K cm b q)) : PS X (.Return (some e) pos) (tS X.K cm as (dRet q)) :=
  HW.PS.imp (ps_ret h) fun Dn σ H ⟨W, F, ρ, fl, ρ', r, e, k⟩ => by
    obtain ⟨⟨d, ρ1⟩, e1, e2⟩ := Option.map_eq_some_iff.mp e
    cases e2
    exact ⟨W, F, ρ, d, ρ1, r, e1, fun v H1 F1 r1 s1 u1 => k v σ H1 F1 r1 s1 Out.refl⟩
theorem R.put' {K : PySem.W.Frag} {W : Hp} {σ : L2.St} {H F : Hp} {ρ : Sl} {v : V} {d : D} {i : Nat} (r : R K cm W (some v :: σ) H F (d :: ρ)) : R K cm W (σ.set i (some v)) H F (ρ.set i d) := by
  by_cases hi : i < σ.length
  · exact r.put hi
  · have h2 := r.tail
    have h3 := h2.length
    rw [List.set_eq_of_length_le (by omega), List.set_eq_of_length_le (by omega)]
    exact h2
/-- the value is moved out of a slot -/
theorem d_mv (i : Nat) {x : Str} {p : Pos} (hN : X.N[i]? = some x := by rfl) (hv : Vis X.env.scope x := by first | exact Or.inl rfl | exact Or.inr (Or.inl rfl) | exact Or.inr (Or.inr rfl)) (hd : (x == ("__debug__" : Str)) = false := by decide)
    (hcd : (x == ("__classdict__" : Str)) = false := by decide) : PE X (.Name x p) (tD X.K cm false (dMove i)) :=
  PE.imp (pe_var hN hv hd hcd) fun σ H Q ⟨W, F, ρ, d, ρ', r, e, k⟩ => by
    unfold dMove at e
    cases hd : ρ[i]? with
    | none => rw [hd] at e; cases e
    | some d' =>
      rw [hd] at e
      have ne : d' ≠ .hole := fun z => by subst z; cases e
      have e' : some (d', ρ.set i .hole) = some (d, ρ') := by
        cases d' <;> first | exact e | exact absurd rfl ne
      cases e'
      obtain ⟨v, h1, h2⟩ := r.take hd ne
      exact ⟨v, h1, k v H F h2 (Same.refl F) fun h => by cases h⟩
/-- name = value -/
theorem s_set {e : Expr} {q : ED} (i : Nat) {x : Str} {p : Pos} (h : PE X e (tD X.K cm b q)) (hN : X.N.Nodup) (hi : X.N[i]? = some x := by rfl) (hx : Loc X.env.scope x := by first | exact .inl rfl | exact .inr rfl) (ha : as i = true := by rfl)
    (hs : swapsWith e (some (.Name x p)) pos.line X.env = pure false := by rfl) (hf : X.fn x = true ∨ X.env.scope.names.lookup x = some .local := by first | exact .inl rfl | exact .inr rfl | assumption) : PS X (.Assign [.Name x p] e pos) (tS X.K cm as (dSet i q)) :=
  HW.PS.imp (ps_set hN hi hx h hs hf) fun Dn σ H ⟨W, F, ρ, fl, ρ', r, e, k⟩ => by
    obtain ⟨⟨d, ρ1⟩, e1, e2⟩ := Option.map_eq_some_iff.mp e
    cases e2
    exact ⟨W, F, ρ, d, ρ1, r, e1, fun v H1 F1 r1 s1 u1 => k _ H1 F1 (R.put' r1) s1 (Out.set ha)⟩
/-- targets = value -/
theorem s_tgt {e tg : Expr} {q : EF} {t : Tg} (h : PE X e (tP X.K cm b q)) (hg : PG X tg (tTg X.K cm as t)) (hs : swapsWithSole [tg] e pos.line X.env = pure false := by rfl) (hw : swappedStores [tg] e X.env = pure none := by rfl)
    (h1 : (assignEach [tg] X.env).map (·.2) = [assign tg X.env] := by rfl) : PS X (.Assign [tg] e pos) (tS X.K cm as (dTgt t q)) :=
  HW.PS.imp (ps_asg h hg hs hw h1) fun Dn σ H ⟨W, F, ρ, fl, ρ', r, e, k⟩ => by
    simp only [dTgt, Option.bind_eq_some_iff, Option.map_eq_some_iff] at e
    obtain ⟨⟨p, ρ1⟩, e1, ρ2, e2, e3⟩ := e
    cases e3
    exact ⟨W, F, ρ, p, ρ1, r, e1, fun v H1 F1 r1 s1 u1 d1 => ⟨W, F1, ρ1, p, _, r1, d1, e2, fun σ' r2 o => k σ' H1 F1 r2 s1 o⟩⟩
/-- a, b = x, y -/
def dPar (i j : Nat) (f : EL) : SF := fun ρ => (f ρ).bind fun x => match x.1 with
  | [p, q] => some (.nx, (x.2.set i (.pd p)).set j (.pd q))
  | _ => none
theorem s_par {x y : Str} {e1 e2 : Expr} {q : EL} {px py pt : Pos} {kt k2 pt2} (i j : Nat) (hc : X.calm = true) (hN : X.N.Nodup) (ha : PA X [e1, e2] (tA X.K cm b q)) (hi : X.N[i]? = some x := by rfl) (hj : X.N[j]? = some y := by rfl) (hij : i ≠ j := by decide)
    (hx : X.env.scope.names.lookup x = some .local := by rfl) (hy : X.env.scope.names.lookup y = some .local := by rfl) (ai : as i = true := by rfl) (aj : as j = true := by rfl)
    (hw : swappedStores [.Tuple [.Name x px, .Name y py] kt pt] (.Tuple [e1, e2] k2 pt2) X.env = pure (some [x, y]) := by rfl)
    (hs : swapsWithSole [.Tuple [.Name x px, .Name y py] kt pt] (.Tuple [e1, e2] k2 pt2) pos.line X.env = pure false := by rfl) :
    PS X (.Assign [.Tuple [.Name x px, .Name y py] kt pt] (.Tuple [e1, e2] k2 pt2) pos) (tS X.K cm as (dPar i j q)) :=
  HW.PS.imp (ps_par hc hN hi hj hij hx hy ha hw hs) fun Dn σ H ⟨W, F, ρ, fl, ρ', r, e, k⟩ => by
    simp only [dPar, Option.bind_eq_some_iff] at e
    obtain ⟨⟨ps, ρ1⟩, e3, e4⟩ := e
    refine ⟨W, F, ρ, ps, ρ1, r, e3, fun vs H1 F1 r1 s1 u1 d1 => ?_⟩
    cases d1 with
    | nil => cases e4
    | cons a t => cases t with
      | nil => cases e4
      | cons c t => cases t with
        | cons _ _ => cases e4
        | nil =>
          cases e4
          exact ⟨_, _, rfl, k _ H1 F1 ((r1.setPd' a).setPd' c) s1 ((Out.set ai).trans (Out.set aj))⟩
def dPar3 (i j l : Nat) (f : EL) : SF := fun ρ => (f ρ).bind fun x => match x.1 with
  | [p, q, s] => some (.nx, ((x.2.set i (.pd p)).set j (.pd q)).set l (.pd s))
  | _ => none
theorem s_par3 {x y z : Str} {e1 e2 e3 : Expr} {q : EL} {px py pz pt : Pos} {kt k2 pt2} (i j l : Nat) (hc : X.calm = true) (hN : X.N.Nodup) (ha : PA X [e1, e2, e3] (tA X.K cm b q)) (hi : X.N[i]? = some x := by rfl) (hj : X.N[j]? = some y := by rfl) (hl : X.N[l]? = some z := by rfl) (hij : i ≠ j := by decide) (hil : i ≠ l := by decide) (hjl : j ≠ l := by decide)
    (hx : X.env.scope.names.lookup x = some .local := by rfl) (hy : X.env.scope.names.lookup y = some .local := by rfl) (hz : X.env.scope.names.lookup z = some .local := by rfl) (ai : as i = true := by rfl) (aj : as j = true := by rfl) (al : as l = true := by rfl)
    (hw : swappedStores [.Tuple [.Name x px, .Name y py, .Name z pz] kt pt] (.Tuple [e1, e2, e3] k2 pt2) X.env = pure (some [x, y, z]) := by rfl)
    (hs : swapsWithSole [.Tuple [.Name x px, .Name y py, .Name z pz] kt pt] (.Tuple [e1, e2, e3] k2 pt2) pos.line X.env = pure false := by rfl) :
    PS X (.Assign [.Tuple [.Name x px, .Name y py, .Name z pz] kt pt] (.Tuple [e1, e2, e3] k2 pt2) pos) (tS X.K cm as (dPar3 i j l q)) :=
  HW.PS.imp (ps_par3 hc hN hi hj hl hij hil hjl hx hy hz ha hw hs) fun Dn σ H ⟨W, F, ρ, fl, ρ', r, e, k⟩ => by
    simp only [dPar3, Option.bind_eq_some_iff] at e
    obtain ⟨⟨ps, ρ1⟩, e3, e4⟩ := e
    refine ⟨W, F, ρ, ps, ρ1, r, e3, fun vs H1 F1 r1 s1 u1 d1 => ?_⟩
    cases d1 with
    | nil => cases e4
    | cons a t => cases t with
      | nil => cases e4
      | cons c t => cases t with
        | nil => cases e4
        | cons d t => cases t with
          | cons _ _ => cases e4
          | nil =>
            cases e4
            exact ⟨_, _, _, rfl, k _ H1 F1 (((r1.setPd' a).setPd' c).setPd' d) s1 (((Out.set ai).trans (Out.set aj)).trans (Out.set al))⟩

/-! ### loops -/
theorem s_for {tg iter : Expr} {body : List Stmt} {it : EL} {t : Tg} (hc : X.calm = true) (hi : PI X tg iter (tI X.K cm b it)) (hg : PG X tg (tTg X.K cm as t)) (hb : PSs X body (tS X.K cm as f))
    (hp : PassesOwn (model X.prog X.w) X.A X.env X.xe := by exact PassesOwn.never) (hs : ∀ x, foldedSetIterable iter X.env x = pure x := by intro _; rfl) : PS X (.For tg iter body [] pos) (tS X.K cm as (dFor it t f)) :=
  HW.PS.imp (ps_for hp hc hi hg hb hs) fun Dn σ H ⟨W, F, ρ, fl, ρ', r, e, k⟩ => by
    simp only [dFor, Option.bind_eq_some_iff] at e
    obtain ⟨⟨ps, ρ1⟩, e1, e2⟩ := e
    refine ⟨W, F, ρ, ps, ρ1, r, e1, fun J H1 F1 r1 s1 u1 w => ?_⟩
    refine ⟨fun i m σ2 H2 => m = ps.length - i ∧ i ≤ ps.length ∧ ∃ F2 ρ2, R X.K cm W σ2 H2 F2 ρ2 ∧ Same F1 F2 ∧ Out as σ σ2 ∧ forL t f (ps.drop i) ρ2 = some (fl, ρ'), ⟨ps.length, by simp, Nat.zero_le _, F1, ρ1, r1, Same.refl _, Out.refl, by rw [List.drop_zero]; exact e2⟩, ?_⟩
    rintro i m σ2 H2 ⟨rfl, hi2, F2, ρ2, r2, s2, o2, e3⟩
    obtain ⟨wa, wb⟩ := w i F2 H2 s2 r2.fh
    by_cases hlt : i < ps.length
    · right
      obtain ⟨go, yl⟩ := wa ps[i] (List.getElem?_eq_getElem hlt)
      refine ⟨go, fun σ3 H3 => ∃ F2 ρ2, R X.K cm W σ3 H3 F2 ρ2 ∧ Same F1 F2 ∧ Out as σ σ3 ∧ forL t f (ps.drop (i + 1)) ρ2 = some (fl, ρ'), fun σ3 H3 h3 => ⟨ps.length - (i + 1), by omega, rfl, hlt, h3⟩, fun x H3 y => ?_⟩
      obtain ⟨F3, ⟨st1, st2, st3⟩, dx⟩ := yl x H3 y
      rw [List.drop_eq_getElem_cons hlt] at e3
      simp only [forL, Option.bind_eq_some_iff] at e3
      obtain ⟨ρ3, e7, ⟨fl1, ρ4⟩, e8, e9⟩ := e3
      refine ⟨W, F3, ρ2, ps[i], ρ3, st3 _ _ _ _ r2, dx, e7, fun σ4 r4 o4 => ⟨W, F3, ρ3, fl1, ρ4, r4, e8, ?_⟩⟩
      cases fl1 with
      | nx => exact fun σ5 H5 F5 r5 s5 o5 => ⟨F5, ρ4, r5, (s2.trans st1).trans s5, (o2.trans o4).trans o5, e9⟩
      | ct => exact fun σ5 H5 F5 r5 s5 o5 => ⟨F5, ρ4, r5, (s2.trans st1).trans s5, (o2.trans o4).trans o5, e9⟩
      | bk => cases e9; exact fun σ5 H5 F5 r5 s5 o5 => k σ5 H5 F5 r5 (((s1.trans s2).trans st1).trans s5) ((o2.trans o4).trans o5)
      | rt d => cases e9; exact fun v σ5 H5 F5 r5 s5 o5 => k v σ5 H5 F5 r5 (((s1.trans s2).trans st1).trans s5) ((o2.trans o4).trans o5)
    · have hi3 : i = ps.length := by omega
      subst hi3
      left
      refine ⟨wb (Nat.le_refl _), ?_⟩
      rw [List.drop_length] at e3
      cases e3
      exact k σ2 H2 F2 r2 (s1.trans s2) o2
theorem s_while {c : Expr} {body : List Stmt} {q : EB} (hc : PT X c (tT X.K cm b q)) (hb : PSs X body (tS X.K cm as f)) (hp : PassesOwn (model X.prog X.w) X.A X.env X.xe := by exact PassesOwn.never) : PS X (.While c body [] pos) (tS X.K cm as (dWhile q f)) :=
  HW.PS.imp (ps_while hp hc hb) fun Dn σ H ⟨W, F, ρ, fl, ρ', r, e, k⟩ => by
    refine ⟨fun m σ2 H2 => ∃ F2 ρ2, R X.K cm W σ2 H2 F2 ρ2 ∧ Same F F2 ∧ Out as σ σ2 ∧ whileL q f m ρ2 = some (fl, ρ'), ⟨FU, F, ρ, r, Same.refl _, Out.refl, e⟩, ?_⟩
    rintro m σ2 H2 ⟨F2, ρ2, r2, s2, o2, e3⟩
    cases m with
    | zero => cases e3
    | succ m =>
      simp only [whileL, Option.bind_eq_some_iff] at e3
      obtain ⟨⟨c1, ρ3⟩, e4, e5⟩ := e3
      refine ⟨W, F2, ρ2, c1, ρ3, r2, e4, fun H3 F3 r3 s3 u3 => ?_⟩
      cases c1 with
      | false =>
        rw [if_neg Bool.false_ne_true] at e5
        cases e5
        exact iteF (k σ2 H3 F3 r3 (s2.trans s3) o2)
      | true =>
        rw [if_pos rfl] at e5
        simp only [Option.bind_eq_some_iff] at e5
        obtain ⟨⟨fl1, ρ4⟩, e8, e9⟩ := e5
        refine iteT ⟨fun σ3 H3 => ∃ F2 ρ2, R X.K cm W σ3 H3 F2 ρ2 ∧ Same F F2 ∧ Out as σ σ3 ∧ whileL q f m ρ2 = some (fl, ρ'), fun σ3 H3 h3 => ⟨m, Nat.lt_succ_self m, h3⟩, W, F3, ρ3, fl1, ρ4, r3, e8, ?_⟩
        cases fl1 with
        | nx => exact fun σ5 H5 F5 r5 s5 o5 => ⟨F5, ρ4, r5, (s2.trans s3).trans s5, o2.trans o5, e9⟩
        | ct => exact fun σ5 H5 F5 r5 s5 o5 => ⟨F5, ρ4, r5, (s2.trans s3).trans s5, o2.trans o5, e9⟩
        | bk => cases e9; exact fun σ5 H5 F5 r5 s5 o5 => k σ5 H5 F5 r5 ((s2.trans s3).trans s5) (o2.trans o5)
        | rt d => cases e9; exact fun v σ5 H5 F5 r5 s5 o5 => k v σ5 H5 F5 r5 ((s2.trans s3).trans s5) (o2.trans o5)
end
end
end HW

namespace HW
open PySem PySem.Spec PyProof.Rows L2
noncomputable section

/-! ### lists that change -/
section
variable {K : PySem.W.Frag} {cm : Str → Addr → Prop} {W F H : Hp} {σ : L2.St} {ρ : Sl} {u : V} {e : D}
theorem RDs.append {vs us : List V} {ds es : List D} {f g : List Addr} (h : RDs K cm F H vs ds f) (t : RDs K cm F H us es g) : RDs K cm F H (vs ++ us) (ds ++ es) (f ++ g) := by
  induction vs generalizing ds f with
  | nil => cases h; exact t
  | cons v vs ih => cases h with | cons a b => rw [List.cons_append, List.cons_append, List.append_assoc]; exact .cons a (ih b)
theorem RDs.ofDPs {vs : List V} {ps : List P} (h : DPs K F vs ps) : RDs K cm F H vs (ps.map .pd) [] := by
  induction vs generalizing ps with
  | nil => cases h; exact .nil
  | cons v vs ih => cases h with | cons a b => exact .cons (f := []) (g := []) (.pd a) (ih b)
theorem RDs.setAt {vs : List V} {ds : List D} {f g : List Addr} (h : RDs K cm F H vs ds f) (t : RD K cm F H u e g) : ∀ (k : Nat), ∃ fp, RDs K cm F H (vs.set k u) (ds.set k e) fp ∧ Sub fp (f ++ g) := by
  induction vs generalizing ds f with
  | nil => cases h; exact fun k => ⟨[], .nil, ⟨g, by simp⟩⟩
  | cons v vs ih =>
    cases h with
    | @cons _ _ d ds f1 f2 a b =>
      intro k
      cases k with
      | zero => exact ⟨g ++ f2, .cons t b, ⟨f1, by
          refine (List.perm_append_comm (l₁ := f1 ++ f2) (l₂ := g)).trans ?_
          rw [List.append_assoc]
          exact List.Perm.append_left g List.perm_append_comm⟩⟩
      | succ k =>
        obtain ⟨fp, h1, h2⟩ := ih b k
        exact ⟨f1 ++ fp, .cons a h1, by rw [List.append_assoc]; exact (Sub.refl f1).app h2⟩
theorem RDs.dropLast {vs : List V} {ds : List D} {f : List Addr} (h : RDs K cm F H vs ds f) : ∃ fp, RDs K cm F H vs.dropLast ds.dropLast fp ∧ Sub fp f := by
  induction vs generalizing ds f with
  | nil => cases h; exact ⟨[], .nil, Sub.refl _⟩
  | cons v vs ih =>
    cases h with
    | @cons _ _ d ds f1 f2 a b =>
      cases vs with
      | nil => cases b; exact ⟨[], .nil, ⟨f1 ++ [], by simp⟩⟩
      | cons v2 vs =>
        obtain ⟨fp, h1, h2⟩ := ih b
        cases b with
        | cons a2 b2 => exact ⟨f1 ++ fp, .cons a h1, (Sub.refl f1).app h2⟩
theorem RDs.eraseAt {vs : List V} {ds : List D} {f : List Addr} (h : RDs K cm F H vs ds f) : ∀ k, ∃ fp, RDs K cm F H (vs.eraseIdx k) (ds.eraseIdx k) fp ∧ Sub fp f := by
  induction vs generalizing ds f with
  | nil => cases h; exact fun k => ⟨[], .nil, Sub.refl _⟩
  | cons v vs ih =>
    cases h with
    | @cons _ _ d ds f1 f2 a b =>
      intro k
      cases k with
      | zero => exact ⟨f2, b, Sub.right _ _⟩
      | succ k =>
        obtain ⟨fp, h1, h2⟩ := ih b k
        exact ⟨f1 ++ fp, .cons a h1, (Sub.refl f1).app h2⟩
theorem RDs.get {vs : List V} {ds : List D} {f : List Addr} (h : RDs K cm F H vs ds f) {k : Nat} {d : D} (e : ds[k]? = some d) : ∃ v g, vs[k]? = some v ∧ RD K cm F H v d g ∧ Sub g f := by
  induction vs generalizing ds f k with
  | nil => cases h; simp at e
  | cons v vs ih =>
    cases h with
    | @cons _ _ d0 ds f1 f2 a b =>
      cases k with
      | zero => simp at e; subst e; exact ⟨v, f1, rfl, a, Sub.left _ _⟩
      | succ k =>
        obtain ⟨w, g, h1, h2, h3⟩ := ih b (by simpa using e)
        exact ⟨w, g, by simpa using h1, h2, h3.trans (Sub.right _ _)⟩
/-- an owned list of a slot is looked at -/
theorem R.seeL (r : R K cm W σ H F ρ) {i : Nat} {ds : List D} (h : ρ[i]? = some (.ol ds)) : ∃ a vs fp, σ[i]? = some (some (.ref a)) ∧ H a = some (.lst vs) ∧ RDs K cm F H vs ds fp := by
  obtain ⟨fp, e, nd, m⟩ := r.ex
  obtain ⟨v, f, g, h1, h2, h3, h4⟩ := e.take h (by simp)
  cases h2 with
  | ol h5 h6 => exact ⟨_, _, _, h1, h5, h6⟩
theorem set_twice {α : Type} (xs : List α) (i : Nat) (a b : α) : (xs.set i a).set i b = xs.set i b := by simp
/-- the owned list of a slot changes; an extra value may go into it -/
theorem R.modL {x : Option V} (r : R K cm W (x :: σ) H F (e :: ρ)) {i : Nat} {ds : List D} (h : ρ[i]? = some (.ol ds)) : ∃ a vs, σ[i]? = some (some (.ref a)) ∧ H a = some (.lst vs) ∧ vs.length = ds.length ∧
    ∀ vs' ds', (∀ fp fe, RDs K cm F H vs ds fp → (∀ u, x = some u → RD K cm F H u e fe) → ∃ fp', RDs K cm F H vs' ds' fp' ∧ Sub fp' (fp ++ fe)) → R K cm W σ (upd H a (.lst vs')) F (ρ.set i (.ol ds')) := by
  obtain ⟨fa, e0, nd, m⟩ := r.ex
  have E : ∃ fe g, (∀ u, x = some u → RD K cm F H u e fe) ∧ RE K cm F H σ ρ g ∧ Sub (g ++ fe) fa := by
    cases e0 with
    | no r1 => exact ⟨[], fa, fun u _ => .hole, r1, by simpa using Sub.refl fa⟩
    | @yes _ _ _ _ f g a r1 => exact ⟨f, g, fun u q => by cases q; exact a, r1, .of_perm List.perm_append_comm⟩
  obtain ⟨fe, g, hu, re, sg⟩ := E
  obtain ⟨v, f, g', h1, h2, h3, h4⟩ := re.take h (by simp)
  cases h2 with
  | @ol a vs _ fp h5 h6 =>
    refine ⟨a, vs, h1, h5, h6.length, fun vs' ds' k => ?_⟩
    obtain ⟨fp', k1, k2⟩ := k fp fe h6 hu
    have S : Sub (a :: fp ++ g' ++ fe) fa := ((h4.app (Sub.refl fe))).trans sg
    have nd2 := S.nodup nd
    rw [List.cons_append, List.cons_append, List.nodup_cons] at nd2
    have na := nd2.1
    simp only [List.mem_append, not_or] at na
    have ha : F a = none ∧ W a = none := m a (S.mem (by simp))
    have np : a ∉ fp' := fun z => by
      have := k2.mem z
      simp only [List.mem_append] at this
      rcases this with q | q
      · exact na.1.1 q
      · exact na.2 q
    have mv : ∀ {l : List Addr}, a ∉ l → ∀ b ∈ l, ∀ o, H b = some o → upd H a (.lst vs') b = some o := fun hl b hb o q => by
      rw [upd_ne (fun z => by subst z; exact hl hb)]; exact q
    have r2 : RD K cm F (upd H a (.lst vs')) (.ref a) (.ol ds') (a :: fp') := .ol upd_same (k1.mono (Same.refl F) (mv np))
    have r3 : RE K cm F (upd H a (.lst vs')) σ (ρ.set i .hole) g' := h3.mono (Same.refl F) (mv na.1.2)
    have hi : i < σ.length := (List.getElem?_eq_some_iff.mp h1).1
    obtain ⟨gg, k3, k4⟩ := r3.put hi r2
    have e3 : σ.set i (some (.ref a)) = σ := by
      obtain ⟨hi, q⟩ := List.getElem?_eq_some_iff.mp h1
      rw [← q]; exact List.set_getElem_self hi
    rw [e3, set_twice] at k3
    refine .ofRE (fun b o q => ?_) (fun b o q => ?_) r.wf nd m k3 (k4.trans (Sub.trans ?_ S))
    · rw [upd_ne (ne_of_none q ha.1)]; exact r.fh b o q
    · rw [upd_ne (ne_of_none q ha.2)]; exact r.wh b o q
    · show Sub (a :: fp' ++ g') (a :: fp ++ g' ++ fe)
      obtain ⟨y, py⟩ := k2
      refine ⟨y, ?_⟩
      rw [List.cons_append, List.cons_append, List.cons_append, List.cons_append]
      refine List.Perm.cons a ?_
      have q1 : (fp ++ g' ++ fe).Perm (fp ++ fe ++ g') := by
        rw [List.append_assoc, List.append_assoc]
        exact List.Perm.append_left fp List.perm_append_comm
      refine q1.trans ((py.append_right g').trans ?_)
      rw [List.append_assoc, List.append_assoc]
      exact List.Perm.append_left fp' List.perm_append_comm
end

section
variable {X : Cx} {cm : Str → Addr → Prop} {as : Nat → Bool} {pos : Pos} {b b1 b2 : Bool}
def someL (ρ : Sl) (i : Nat) : Bool := match ρ[i]? with
  | some (.ol _) => true
  | _ => false
theorem someL_is {ρ : Sl} {i : Nat} (h : someL ρ i = true) : ∃ ds, ρ[i]? = some (.ol ds) := by
  unfold someL at h
  split at h
  · exact ⟨_, by assumption⟩
  · cases h
/-- x.append(value) -/
def dApp (i : Nat) (f : ED) : SF := fun ρ => if someL ρ i = true then (f ρ).bind fun x => match x.2[i]? with
    | some (.ol ds) => if ds.length < 16777216 then some (.nx, x.2.set i (.ol (ds ++ [x.1]))) else none
    | _ => none
  else none
theorem s_app {x : Str} {e : Expr} {p ap cp : Pos} {q : ED} (i : Nat) (he : PE X e (tD X.K cm b q)) (hN : X.N[i]? = some x := by rfl) (hv : Vis X.env.scope x := by first | exact Or.inl rfl | exact Or.inr (Or.inl rfl) | exact Or.inr (Or.inr rfl)) (hd : (x == ("__debug__" : Str)) = false := by decide)
    (hcd : (x == ("__classdict__" : Str)) = false := by decide) (hbase : attributeBase (.Name x p) "append" X.env (eval (.Name x p) X.env) = eval (.Name x p) X.env := by rfl)
    (hfew : ((backTo cp (starEach [e] X.env)).all (fun x => !x.1) && (backToKw cp (keywordEach [] X.env)).all (fun x => x.1.isSome)
      && decide ([e].length + ([] : List Keyword).length + (if ([] : List Keyword).isEmpty then 0 else 1) < 30)) = true := by rfl)
    (hline : (ap.endLine == cp.line) = true := by rfl) (hs : starEach [e] X.env = (false, eval e X.env) :: starEach [] X.env := by rfl) (hplain : (backTo cp (starEach [] X.env)).any (·.1) = false := by rfl)
    (hsw : swapsWith (.Call (.Attribute (.Name x p) "append" ap) [e] [] cp) none pos.line X.env = pure false := by rfl) :
    PS X (.Expr (.Call (.Attribute (.Name x p) "append" ap) [e] [] cp) pos) (tS X.K cm as (dApp i q)) :=
  HW.PS.imp (ps_expr (pe_bm PySem.F.plainAttrs_list PySem.F.slot_list_append PySem.F.type_list_append mt_append (pe_var hN hv hd hcd) (pa_cons he pa_nil hs) hbase hfew hline hs hplain) hsw) fun Dn σ H ⟨W, F, ρ, fl, ρ', r, e0, k⟩ => by
    unfold dApp at e0
    split at e0
    · rename_i h0
      obtain ⟨ds0, h0⟩ := someL_is h0
      simp only [Option.bind_eq_some_iff] at e0
      obtain ⟨⟨d, ρ1⟩, e1, e2⟩ := e0
      obtain ⟨a0, vs0, fp0, h1, h2, h3⟩ := r.seeL h0
      refine ⟨_, h1, .inl ⟨rfl, vs0, .inl (.inl h2)⟩, W, F, ρ, d, ρ1, r, e1, fun v H1 F1 r1 s1 u1 => ?_⟩
      split at e2
      · rename_i ds h4
        split at e2
        · rename_i hl
          cases e2
          obtain ⟨a, vs, h5, h6, h7, h8⟩ := r1.modL h4
          rw [h1] at h5
          cases h5
          refine ⟨_, vs, v, rfl, rfl, h6, by rw [sizeLine_eq, h7]; omega, k σ _ F1 (h8 _ _ fun fp fe m1 m2 => ⟨fp ++ (fe ++ []), m1.append (.cons (m2 v rfl) .nil), by simpa using Sub.refl _⟩) s1 Out.refl⟩
        · cases e2
      · cases e2
    · cases e0
/-- x.extend(a new list) -/
def dExt (i : Nat) (f : EL) : SF := fun ρ => if someL ρ i = true then (f ρ).bind fun x => match x.2[i]? with
    | some (.ol ds) => if ds.length + x.1.length ≤ 16777216 then some (.nx, x.2.set i (.ol (ds ++ x.1.map .pd))) else none
    | _ => none
  else none
theorem s_ext {x : Str} {e : Expr} {p ap cp : Pos} {q : EL} (i : Nat) (he : PE X e (tL X.K cm b q)) (hN : X.N[i]? = some x := by rfl) (hv : Vis X.env.scope x := by first | exact Or.inl rfl | exact Or.inr (Or.inl rfl) | exact Or.inr (Or.inr rfl)) (hd : (x == ("__debug__" : Str)) = false := by decide)
    (hcd : (x == ("__classdict__" : Str)) = false := by decide) (hbase : attributeBase (.Name x p) "extend" X.env (eval (.Name x p) X.env) = eval (.Name x p) X.env := by rfl)
    (hfew : ((backTo cp (starEach [e] X.env)).all (fun x => !x.1) && (backToKw cp (keywordEach [] X.env)).all (fun x => x.1.isSome)
      && decide ([e].length + ([] : List Keyword).length + (if ([] : List Keyword).isEmpty then 0 else 1) < 30)) = true := by rfl)
    (hline : (ap.endLine == cp.line) = true := by rfl) (hs : starEach [e] X.env = (false, eval e X.env) :: starEach [] X.env := by rfl) (hplain : (backTo cp (starEach [] X.env)).any (·.1) = false := by rfl)
    (hsw : swapsWith (.Call (.Attribute (.Name x p) "extend" ap) [e] [] cp) none pos.line X.env = pure false := by rfl) :
    PS X (.Expr (.Call (.Attribute (.Name x p) "extend" ap) [e] [] cp) pos) (tS X.K cm as (dExt i q)) :=
  HW.PS.imp (ps_expr (pe_bm PySem.F.plainAttrs_list PySem.F.slot_list_extend PySem.F.type_list_extend mt_extend (pe_var hN hv hd hcd) (pa_cons he pa_nil hs) hbase hfew hline hs hplain) hsw) fun Dn σ H ⟨W, F, ρ, fl, ρ', r, e0, k⟩ => by
    unfold dExt at e0
    split at e0
    · rename_i h0
      obtain ⟨ds0, h0⟩ := someL_is h0
      simp only [Option.bind_eq_some_iff] at e0
      obtain ⟨⟨ps, ρ1⟩, e1, e2⟩ := e0
      obtain ⟨a0, vs0, fp0, h1, h2, h3⟩ := r.seeL h0
      refine ⟨_, h1, .inl ⟨rfl, vs0, .inl (.inl h2)⟩, W, F, ρ, ps, ρ1, r, e1, fun q vs1 H0 H1 F1 r1 s1 u1 d1 hq hH => ?_⟩
      subst hH
      split at e2
      · rename_i ds h4
        split at e2
        · rename_i hl
          cases e2
          have r2 := r1.same (same_upd (o := .lst vs1) hq)
          obtain ⟨a, vs, h5, h6, h7, h8⟩ := (r2.pd (v := .non) .non).modL h4
          rw [h1] at h5
          cases h5
          refine ⟨_, q, vs, vs1, rfl, rfl, h6, upd_same, by rw [sizeLine_eq, h7, d1.length]; omega, k σ _ F1 (h8 _ _ fun fp fe m1 m2 => ⟨fp ++ [], m1.append (RDs.ofDPs d1), by rw [List.append_nil]; exact Sub.left fp fe⟩) s1 Out.refl⟩
        · cases e2
      · cases e2
    · cases e0
/-- x.pop() as a statement -/
def dPop (i : Nat) : SF := fun ρ => match ρ[i]? with
  | some (.ol (d :: ds)) => some (.nx, ρ.set i (.ol (d :: ds).dropLast))
  | _ => none
theorem s_pop {x : Str} {p ap cp : Pos} (i : Nat) (hN : X.N[i]? = some x := by rfl) (hv : Vis X.env.scope x := by first | exact Or.inl rfl | exact Or.inr (Or.inl rfl) | exact Or.inr (Or.inr rfl)) (hd : (x == ("__debug__" : Str)) = false := by decide)
    (hcd : (x == ("__classdict__" : Str)) = false := by decide) (hbase : attributeBase (.Name x p) "pop" X.env (eval (.Name x p) X.env) = eval (.Name x p) X.env := by rfl)
    (hline : (ap.endLine == cp.line) = true := by rfl) (hsw : swapsWith (.Call (.Attribute (.Name x p) "pop" ap) [] [] cp) none pos.line X.env = pure false := by rfl) :
    PS X (.Expr (.Call (.Attribute (.Name x p) "pop" ap) [] [] cp) pos) (tS X.K cm as (dPop i)) :=
  HW.PS.imp (ps_expr (pe_bm0 PySem.F.plainAttrs_list PySem.F.slot_list_pop PySem.F.type_list_pop mt_pop (pe_var hN hv hd hcd) hbase hline) hsw) fun Dn σ H ⟨W, F, ρ, fl, ρ', r, e0, k⟩ => by
    unfold dPop at e0
    split at e0
    · rename_i d ds h0
      cases e0
      obtain ⟨a, vs, h5, h6, h7, h8⟩ := (r.pd (v := .non) .non).modL h0
      have hn : vs.length - 1 < vs.length := by rw [h7]; simp
      exact ⟨_, h5, .inl ⟨rfl, vs, .inl (.inl h6)⟩, a, vs, vs[vs.length - 1], rfl, rfl, h6, List.getElem?_eq_getElem hn, k σ _ F (h8 _ _ fun fp fe m1 m2 => by
        obtain ⟨g, m3, m4⟩ := m1.dropLast
        exact ⟨g, m3, m4.trans (Sub.left _ _)⟩) (Same.refl F) Out.refl⟩
    · cases e0
/-- x.pop(0) as a statement -/
def dPop0 (i : Nat) : SF := fun ρ => match ρ[i]? with
  | some (.ol (d :: ds)) => some (.nx, ρ.set i (.ol ds))
  | _ => none
theorem s_pop0 {x : Str} {p ap cp ep : Pos} {j} (i : Nat) (hN : X.N[i]? = some x := by rfl) (hv : Vis X.env.scope x := by first | exact Or.inl rfl | exact Or.inr (Or.inl rfl) | exact Or.inr (Or.inr rfl)) (hd : (x == ("__debug__" : Str)) = false := by decide)
    (hcd : (x == ("__classdict__" : Str)) = false := by decide) (hbase : attributeBase (.Name x p) "pop" X.env (eval (.Name x p) X.env) = eval (.Name x p) X.env := by rfl)
    (hfew : ((backTo cp (starEach [.Constant (.int 0) j ep] X.env)).all (fun x => !x.1) && (backToKw cp (keywordEach [] X.env)).all (fun x => x.1.isSome)
      && decide ([Expr.Constant (.int 0) j ep].length + ([] : List Keyword).length + (if ([] : List Keyword).isEmpty then 0 else 1) < 30)) = true := by rfl)
    (hline : (ap.endLine == cp.line) = true := by rfl) (hs : starEach [.Constant (.int 0) j ep] X.env = (false, eval (.Constant (.int 0) j ep) X.env) :: starEach [] X.env := by rfl) (hplain : (backTo cp (starEach [] X.env)).any (·.1) = false := by rfl)
    (hsw : swapsWith (.Call (.Attribute (.Name x p) "pop" ap) [.Constant (.int 0) j ep] [] cp) none pos.line X.env = pure false := by rfl) :
    PS X (.Expr (.Call (.Attribute (.Name x p) "pop" ap) [.Constant (.int 0) j ep] [] cp) pos) (tS X.K cm as (dPop0 i)) :=
  HW.PS.imp (ps_expr (pe_bm PySem.F.plainAttrs_list PySem.F.slot_list_pop PySem.F.type_list_pop mt_popAt (pe_var hN hv hd hcd) (pa_cons pe_int pa_nil hs) hbase hfew hline hs hplain) hsw) fun Dn σ H ⟨W, F, ρ, fl, ρ', r, e0, k⟩ => by
    unfold dPop0 at e0
    split at e0
    · rename_i d ds h0
      cases e0
      obtain ⟨a, vs, h5, h6, h7, h8⟩ := (r.pd (v := .non) .non).modL h0
      have hn : 0 < vs.length := by rw [h7]; simp
      refine ⟨_, h5, .inl ⟨rfl, vs, .inl (.inl h6)⟩, a, vs, 0, 0, vs[0], rfl, rfl, h6, by decide, by decide, ?_, List.getElem?_eq_getElem hn, k σ _ F (h8 _ _ fun fp fe m1 m2 => by
        obtain ⟨g, m3, m4⟩ := m1.eraseAt 0
        exact ⟨g, m3, m4.trans (Sub.left _ _)⟩) (Same.refl F) Out.refl⟩
      unfold seqIndex?
      simp [h7]
    · cases e0
/-- x[k] = value -/
def dSetI (i : Nat) (f : EF) (g : EF) : SF := fun ρ => (f ρ).bind fun x => if someL x.2 i = true then (g x.2).bind fun y => match y.1, y.2[i]? with
    | .int k, some (.ol ds) => (ixN ds.length k).map fun j => (.nx, y.2.set i (.ol (ds.set j (.pd x.1))))
    | _, _ => none
  else none
theorem s_setI {x : Str} {e ix : Expr} {p tp : Pos} {q g : EF} (i : Nat) (he : PE X e (tP X.K cm b1 q)) (hi : PE X ix (tP X.K cm b2 g)) (hN : X.N[i]? = some x := by rfl) (hv : Vis X.env.scope x := by first | exact Or.inl rfl | exact Or.inr (Or.inl rfl) | exact Or.inr (Or.inr rfl)) (hd : (x == ("__debug__" : Str)) = false := by decide)
    (hcd : (x == ("__classdict__" : Str)) = false := by decide)
    (ha : ∀ v, assign (.Subscript (.Name x p) ix tp) X.env v = (do
      let ov ← holding [v] (eval (.Name x p) X.env)
      let iv ← holding [v, ov] (eval ix X.env)
      standAt tp
      holding [v, ov, iv] (setItem ov iv v)
      release [v, ov, iv] []) := by intro _; rfl)
    (hs : swapsWithSole [.Subscript (.Name x p) ix tp] e pos.line X.env = pure false := by rfl) (hw : swappedStores [.Subscript (.Name x p) ix tp] e X.env = pure none := by rfl)
    (h1 : (assignEach [.Subscript (.Name x p) ix tp] X.env).map (·.2) = [assign (.Subscript (.Name x p) ix tp) X.env] := by rfl) :
    PS X (.Assign [.Subscript (.Name x p) ix tp] e pos) (tS X.K cm as (dSetI i q g)) :=
  HW.PS.imp (ps_asg he (pg_sub (pe_var hN hv hd hcd) hi set_list ha) hs hw h1) fun Dn σ H ⟨W, F, ρ, fl, ρ', r, e0, k⟩ => by
    simp only [dSetI, Option.bind_eq_some_iff] at e0
    obtain ⟨⟨pv, ρ1⟩, e1, e2⟩ := e0
    refine ⟨W, F, ρ, pv, ρ1, r, e1, fun v H1 F1 r1 s1 u1 d1 => ?_⟩
    split at e2
    · rename_i h0
      obtain ⟨ds0, h0⟩ := someL_is h0
      obtain ⟨a0, vs0, fp0, h1, h2, h3⟩ := r1.seeL h0
      simp only [Option.bind_eq_some_iff] at e2
      obtain ⟨⟨pk, ρ2⟩, e3, e4⟩ := e2
      refine ⟨_, h1, W, F1, ρ1, pk, ρ2, r1, e3, fun kv H2 F2 r2 s2 u2 d2 => ?_⟩
      split at e4
      · rename_i k' ds e5 h4
        dsimp only at e5
        subst e5
        obtain ⟨j, e6, e7⟩ := Option.map_eq_some_iff.mp e4
        cases e7
        cases d2
        obtain ⟨a, vs, h5, h6, h7, h8⟩ := (r2.pd (DP.mono d1 s2)).modL h4
        rw [h1] at h5
        cases h5
        exact ⟨_, vs, k', j, rfl, rfl, h6, by rw [h7]; exact e6, k σ _ F2 (h8 _ _ fun fp fe m1 m2 => m1.setAt (m2 v rfl) j) (s1.trans s2) Out.refl⟩
      · cases e4
    · cases e2
end

/-! ### freezing -/
mutual
def frz : D → Option P
  | .pd p => some p
  | .ol ds => (frzs ds).map .list
  | _ => none
def frzs : List D → Option (List P)
  | [] => some []
  | d :: ds => (frz d).bind fun p => (frzs ds).map (p :: ·)
end
def ovr (F H : Hp) (fp : List Addr) : Hp := fun a => if a ∈ fp then H a else F a
section
variable {K : PySem.W.Frag} {cm : Str → Addr → Prop} {W F F2 H : Hp} {σ : L2.St} {ρ : Sl}
mutual
theorem RD.frz : ∀ {v : V} {d : D} {fp : List Addr} {p : P}, RD K cm F H v d fp → HW.frz d = some p → Same F F2 → (∀ a ∈ fp, ∀ o, H a = some o → F2 a = some o) → DP K F2 v p
  | _, _, _, _, .hole, e, _, _ => by simp [HW.frz] at e
  | _, _, _, _, .pd h, e, s, _ => by simp [HW.frz] at e; subst e; exact DP.mono h s
  | _, _, _, _, .ol h r, e, s, k => by
    simp only [HW.frz, Option.map_eq_some_iff] at e
    obtain ⟨ps, e1, rfl⟩ := e
    exact .lst (.inl (.inl (k _ (by simp) _ h))) (RDs.frz r e1 s fun a m => k a (by simp [m]))
  | _, _, _, _, .odK _ _ _ _, e, _, _ => by simp [HW.frz] at e
  | _, _, _, _, .odT _ _ _ _, e, _, _ => by simp [HW.frz] at e
  | _, _, _, _, .ob _ _ _ _ _, e, _, _ => by simp [HW.frz] at e
  | _, _, _, _, .kv, e, _, _ => by simp [HW.frz] at e
theorem RDs.frz : ∀ {vs : List V} {ds : List D} {fp : List Addr} {ps : List P}, RDs K cm F H vs ds fp → frzs ds = some ps → Same F F2 → (∀ a ∈ fp, ∀ o, H a = some o → F2 a = some o) → DPs K F2 vs ps
  | _, _, _, _, .nil, e, _, _ => by simp [frzs] at e; subst e; exact .nil
  | _, _, _, _, .cons a b, e, s, k => by
    simp only [frzs, Option.bind_eq_some_iff, Option.map_eq_some_iff] at e
    obtain ⟨p, e1, ps, e2, rfl⟩ := e
    exact .cons (RD.frz a e1 s fun x m => k x (by simp [m])) (RDs.frz b e2 s fun x m => k x (by simp [m]))
end
/-- a held thing freezes -/
theorem R.freeze {v : V} {d : D} {p : P} (r : R K cm W (some v :: σ) H F (d :: ρ)) (e : frz d = some p) : ∃ F', Same F F' ∧ DP K F' v p ∧ R K cm W (some v :: σ) H F' (.pd p :: ρ) := by
  obtain ⟨fa, e0, nd, m⟩ := r.ex
  cases e0 with
  | no _ => simp [HW.frz] at e
  | @yes _ _ _ _ f g a r1 =>
    have s : Same F (ovr F H f) := fun x o q => by
      unfold ovr
      rw [if_neg (fun z => by rw [(m x (by simp [z])).1] at q; cases q)]
      exact q
    have d2 : DP K (ovr F H f) v p := RD.frz a e s fun x hx o q => by unfold ovr; rw [if_pos hx]; exact q
    have nn := List.nodup_append.mp nd
    refine ⟨ovr F H f, s, d2, fun x o q => ?_, r.wh, fun x o q => ?_, [] ++ g, .yes (.pd d2) (r1.mono s fun _ _ _ q => q), by simpa using nn.2.1, fun x hx => ?_⟩
    · unfold ovr at q
      split at q
      · exact q
      · exact r.fh x o q
    · unfold ovr
      rw [if_neg (fun z => by have q2 := (m x (by simp [z])).2; rw [q2] at q; cases q)]
      exact r.wf x o q
    · have hx : x ∈ g := by simpa using hx
      refine ⟨?_, (m x (by simp [hx])).2⟩
      unfold ovr
      rw [if_neg (fun z => nn.2.2 x z x hx rfl)]
      exact (m x (by simp [hx])).1
/-- a slot freezes in its place -/
def frzAt (ρ : Sl) (i : Nat) : Option Sl := match ρ[i]? with
  | some d => (frz d).map fun p => ρ.set i (.pd p)
  | none => none
theorem R.frzAt (r : R K cm W σ H F ρ) {i : Nat} {ρ1 : Sl} (h : HW.frzAt ρ i = some ρ1) : ∃ F', Same F F' ∧ R K cm W σ H F' ρ1 := by
  unfold HW.frzAt at h
  split at h
  · rename_i d h0
    obtain ⟨p, e1, rfl⟩ := Option.map_eq_some_iff.mp h
    have ne : d ≠ .hole := fun z => by subst z; simp [HW.frz] at e1
    obtain ⟨v, h1, h2⟩ := r.take h0 ne
    obtain ⟨F', s, d', r'⟩ := h2.freeze e1
    refine ⟨F', s, ?_⟩
    have := r'.back h1
    rw [set_twice] at this
    exact this
  · cases h
end
section
variable {X : Cx} {cm : Str → Addr → Prop} {as : Nat → Bool} {pos : Pos} {b b1 b2 : Bool}
/-- before a statement: slot i freezes -/
def dFz (i : Nat) (f : SF) : SF := fun ρ => (frzAt ρ i).bind f
theorem fz_imp {f : SF} {i : Nat} {K : PySem.W.Frag} : ∀ Dn σ H, tS K cm as (dFz i f) Dn σ H → tS K cm as f Dn σ H := by
  rintro Dn σ H ⟨W, F, ρ, fl, ρ', r, e, k⟩
  simp only [dFz, Option.bind_eq_some_iff] at e
  obtain ⟨ρ1, e1, e2⟩ := e
  obtain ⟨F', s, r'⟩ := r.frzAt e1
  exact ⟨W, F', ρ1, fl, ρ', r', e2, k.from s Out.refl⟩
theorem s_fz (i : Nat) {st : Stmt} {f : SF} (h : PS X st (tS X.K cm as f)) : PS X st (tS X.K cm as (dFz i f)) := HW.PS.imp h fz_imp
theorem ss_fz (i : Nat) {st : List Stmt} {f : SF} (h : PSs X st (tS X.K cm as f)) : PSs X st (tS X.K cm as (dFz i f)) := HW.PSs.imp h fz_imp
theorem flat_dp {K : PySem.W.Frag} {F F' : Hp} {v : V} {p : P} (h : flatP p = true) (d : DP K F v p) : DP K F' v p := by
  cases d with
  | non => exact .non
  | bl b => exact .bl b
  | int i => exact .int i
  | str x => exact .str x
  | _ => cases h
/-- a pure expression that reckons something flat looks at slot i as if it were frozen -/
def dPk (i : Nat) (f : EF) : EF := fun ρ => (frzAt ρ i).bind fun ρ1 => (f ρ1).bind fun x => if flatP x.1 = true then some (x.1, ρ) else none
theorem x_pk (i : Nat) {e : Expr} {f : EF} (h : PE X e (tP X.K cm true f)) : PE X e (tP X.K cm true (dPk i f)) :=
  HW.PE.imp h fun σ H Q ⟨W, F, ρ, p, ρ', r, e, k⟩ => by
    simp only [dPk, Option.bind_eq_some_iff] at e
    obtain ⟨ρ1, e1, ⟨q, ρ2⟩, e2, e3⟩ := e
    split at e3
    · rename_i hf
      cases e3
      obtain ⟨F', s, r'⟩ := r.frzAt e1
      refine ⟨W, F', ρ1, _, ρ2, r', e2, fun v H1 F1 r1 s1 u1 d1 => ?_⟩
      obtain ⟨_, s2⟩ := u1 rfl
      exact k v H1 F (r.same s2) (Same.refl F) (Pu.same s2) (flat_dp hf d1)
    · cases e3
def dPkT (i : Nat) (f : EB) : EB := fun ρ => (frzAt ρ i).bind fun ρ1 => (f ρ1).map fun x => (x.1, ρ)
theorem pkT_imp {K : PySem.W.Frag} (i : Nat) {f : EB} : ∀ σ H Q, tT K cm true (dPkT i f) σ H Q → tT K cm true f σ H Q := by
  rintro σ H Q ⟨W, F, ρ, p, ρ', r, e, k⟩
  simp only [dPkT, Option.bind_eq_some_iff, Option.map_eq_some_iff] at e
  obtain ⟨ρ1, e1, ⟨q, ρ2⟩, e2, e3⟩ := e
  cases e3
  obtain ⟨F', s, r'⟩ := r.frzAt e1
  refine ⟨W, F', ρ1, _, ρ2, r', e2, fun H1 F1 r1 s1 u1 => ?_⟩
  obtain ⟨_, s2⟩ := u1 rfl
  exact k H1 F (r.same s2) (Same.refl F) (Pu.same s2)
theorem t_pk (i : Nat) {e : Expr} {f : EB} (h : PT X e (tT X.K cm true f)) : PT X e (tT X.K cm true (dPkT i f)) := PT.imp h (pkT_imp i)
theorem w_pk (i : Nat) {e : Expr} {f : EB} (h : PW X e (tT X.K cm true f)) : PW X e (tT X.K cm true (dPkT i f)) := PW.imp h (pkT_imp i)
/-- for statements in general: slot i freezes for good before the expression is reckoned -/
def dFzE (i : Nat) {α : Type} (f : Sl → Option (α × Sl)) : Sl → Option (α × Sl) := fun ρ => (frzAt ρ i).bind f
theorem x_fz (i : Nat) {e : Expr} {f : EF} (h : PE X e (tP X.K cm b f)) : PE X e (tP X.K cm false (dFzE i f)) :=
  HW.PE.imp h fun σ H Q ⟨W, F, ρ, p, ρ', r, e, k⟩ => by
    simp only [dFzE, Option.bind_eq_some_iff] at e
    obtain ⟨ρ1, e1, e2⟩ := e
    obtain ⟨F', s, r'⟩ := r.frzAt e1
    exact ⟨W, F', ρ1, p, ρ', r', e2, fun v H1 F1 r1 s1 u1 d1 => k v H1 F1 r1 (s.trans s1) (fun h => by cases h) d1⟩
/-- what an owned list of a slot holds, if it is frozen -/
def dGetO (i : Nat) (g : EF) : EF := fun ρ => (g ρ).bind fun y => match y.1, y.2[i]? with
    | .int k, some (.ol ds) => match atI ds k with
      | some (.pd p) => if someL ρ i = true then some (p, y.2) else none
      | _ => none
    | _, _ => none
theorem x_getO {x : Str} {ix : Expr} {p : Pos} {g : EF} (i : Nat) (hi : PE X ix (tP X.K cm b g)) (hN : X.N[i]? = some x := by rfl) (hv : Vis X.env.scope x := by first | exact Or.inl rfl | exact Or.inr (Or.inl rfl) | exact Or.inr (Or.inr rfl)) (hd : (x == ("__debug__" : Str)) = false := by decide)
    (hcd : (x == ("__classdict__" : Str)) = false := by decide) (hp : PlainIx ix := by exact fun _ _ => rfl) : PE X (.Subscript (.Name x p) ix pos) (tP X.K cm b (dGetO i g)) :=
  HW.PE.imp (pe_ix ix_list (pe_var hN hv hd hcd) hi hp) fun σ H Q ⟨W, F, ρ, q, ρ', r, e, k⟩ => by
    simp only [dGetO, Option.bind_eq_some_iff] at e
    obtain ⟨⟨pk, ρ1⟩, e1, e2⟩ := e
    split at e2
    · rename_i k' ds e3 h4
      dsimp only at e3
      subst e3
      split at e2
      · rename_i pp h5
        split at e2
        · rename_i h0
          cases e2
          obtain ⟨ds0, h0⟩ := someL_is h0
          obtain ⟨a0, vs0, fp0, h1, h2, h3⟩ := r.seeL h0
          refine ⟨_, h1, W, F, ρ, _, ρ1, r, e1, fun kv H1 F1 r1 s1 u1 d1 => ?_⟩
          cases d1
          obtain ⟨a, vs, fp, h6, h7, h8⟩ := r1.seeL h4
          rw [h1] at h6
          cases h6
          unfold atI at h5
          obtain ⟨j, h9, h10⟩ := Option.bind_eq_some_iff.mp h5
          obtain ⟨v, g', h11, h12, _⟩ := h8.get h10
          refine ⟨_, vs, k', v, rfl, rfl, .inl (.inl h7), ?_, k v H1 F1 r1 s1 u1 (by cases h12 with | pd d => exact d)⟩
          unfold atI
          rw [h8.length, h9]
          exact h11
        · cases e2
      · cases e2
    · cases e2
end
end
end HW

namespace HW
open PySem PySem.Spec PyProof.Rows L2
noncomputable section

/-! ### calls -/
def rest (F H : Hp) : Hp := fun a => match F a with
  | none => H a
  | some _ => none
def spP (K : PySem.W.Frag) (cm : Str → Addr → Prop) (n : Nat) (fd : List P → Option D) : Sp := fun vs H Q _ => vs.length = n ∧ ∃ F ps d, Same F H ∧ DPs K F vs ps ∧ fd ps = some d ∧
  ∀ v H' F', R K cm (rest F H) [some v] H' F' [d] → Same F F' → Q v H'
def spM (K : PySem.W.Frag) (cm : Str → Addr → Prop) (n : Nat) (fd : D → List P → Option (D × D)) : Sp := fun vs H Q _ => vs.length = n + 1 ∧ ∃ u us W F ps d0 d1 d2, vs = u :: us ∧ R K cm W [some u] H F [d0] ∧ DPs K F us ps ∧ fd d0 ps = some (d1, d2) ∧
  ∀ v H' F', R K cm W [some v, some u] H' F' [d2, d1] → Same F F' → Q v H'
section
variable {K : PySem.W.Frag} {cm : Str → Addr → Prop} {W F F' H H' : Hp} {σ : L2.St} {ρ : Sl} {v u : V} {d d0 d1 d2 : D}
theorem rest_some {a : Addr} {o : HO} (h : rest F H a = some o) : F a = none ∧ H a = some o := by
  unfold rest at h
  split at h
  · exact ⟨by assumption, h⟩
  · cases h
theorem rest_of {a : Addr} (h : F a = none) : rest F H a = H a := by unfold rest; rw [h]
theorem rest_same (s : Same F H) (w : Same (rest F H) H') (s2 : Same F H') : Same H H' := fun a o q => by
  cases e : F a with
  | none => exact w a o (by rw [rest_of e]; exact q)
  | some o' =>
    have q2 := s a o' e
    rw [q] at q2
    cases q2
    exact s2 a _ e
theorem RE.one {x : Option V} {fp : List Addr} (h : RE K cm F H [x] [d] fp) : ∃ g, Sub g fp ∧ (∀ {F' H' : Hp} {σ : L2.St} {ρ : Sl} {g' : List Addr}, Same F F' → (∀ a ∈ fp, ∀ o, H a = some o → H' a = some o) → RE K cm F' H' σ ρ g' → RE K cm F' H' (x :: σ) (d :: ρ) (g ++ g')) := by
  cases h with
  | no r => exact ⟨[], ⟨fp, by simp⟩, fun _ _ t => .no t⟩
  | @yes _ _ _ _ f g a r => exact ⟨f, Sub.left _ _, fun s k t => .yes (a.mono s fun x hx => k x (by simp [hx])) t⟩
theorem R.call (r : R K cm W σ H F ρ) (r' : R K cm (rest F H) [some v] H' F' [d]) (s : Same F F') : R K cm W (some v :: σ) H' F' (d :: ρ) ∧ Same H H' := by
  have sH : Same H H' := rest_same r.fh r'.wh fun a o q => r'.fh a o (s a o q)
  refine ⟨?_, sH⟩
  obtain ⟨fp, e, nd, m⟩ := r.ex
  obtain ⟨gp, e', nd', m'⟩ := r'.ex
  obtain ⟨g, sg, k⟩ := e'.one
  have ng := sg.nodup nd'
  refine ⟨r'.fh, fun a o q => sH a o (r.wh a o q), fun a o q => ?_, g ++ fp, k (Same.refl _) (fun _ _ _ q => q) (e.mono s fun a _ o q => sH a o q), ?_, fun a ha => ?_⟩
  · exact r'.wf a o (by rw [rest_of (r.wf a o q)]; exact r.wh a o q)
  · refine List.nodup_append.mpr ⟨ng, nd, fun a ha b hb e2 => ?_⟩
    subst e2
    obtain ⟨o, ho⟩ := e.there a hb
    have := (m' a (sg.mem ha)).2
    rw [rest_of (m a hb).1, ho] at this
    cases this
  · rcases List.mem_append.mp ha with ha | ha
    · have q := m' a (sg.mem ha)
      refine ⟨q.1, ?_⟩
      cases e2 : W a with
      | none => rfl
      | some o =>
        have q2 := q.2
        rw [rest_of (r.wf a o e2), r.wh a o e2] at q2
        cases q2
    · obtain ⟨o, ho⟩ := e.there a ha
      exact ⟨r'.wf a o (by rw [rest_of (m a ha).1]; exact ho), (m a ha).2⟩
def restM (F H : Hp) (f : List Addr) : Hp := fun a => if a ∈ f then none else rest F H a
theorem restM_some {f : List Addr} {a : Addr} {o : HO} (h : restM F H f a = some o) : a ∉ f ∧ F a = none ∧ H a = some o := by
  unfold restM at h
  split at h
  · cases h
  · exact ⟨by assumption, rest_some h⟩
theorem restM_of {f : List Addr} {a : Addr} (h : a ∉ f) (h2 : F a = none) : restM F H f a = H a := by
  unfold restM; rw [if_neg h, rest_of h2]
theorem R.callM (r : R K cm W σ H F ρ) {i : Nat} (h : ρ[i]? = some d0) (ne : d0 ≠ .hole) : ∃ u W0, σ[i]? = some (some u) ∧ R K cm W0 [some u] H F [d0] ∧
    ∀ v H' F' d1 d2, R K cm W0 [some v, some u] H' F' [d2, d1] → Same F F' → R K cm W (some v :: σ) H' F' (d2 :: ρ.set i d1) := by
  obtain ⟨fp, e, nd, m⟩ := r.ex
  obtain ⟨u, f, g, h1, h2, h3, h4⟩ := e.take h ne
  have nd4 := h4.nodup nd
  have nn := List.nodup_append.mp nd4
  have mm : ∀ a ∈ f ++ g, F a = none ∧ W a = none := fun a ha => m a (h4.mem ha)
  refine ⟨u, restM F H f, h1, ⟨r.fh, fun a o q => (restM_some q).2.2, fun a o q => (restM_some q).2.1, f ++ [], .yes h2 .nil, by simpa using nn.1, fun a ha => ?_⟩, fun v H' F' d1 d2 r' s => ?_⟩
  · have ha : a ∈ f := by simpa using ha
    exact ⟨(mm a (by simp [ha])).1, by unfold restM; rw [if_pos ha]⟩
  · obtain ⟨gp, e', nd', m'⟩ := r'.ex
    -- the rest of the slots stands
    have keep : ∀ a ∈ g, ∀ o, H a = some o → H' a = some o ∧ F' a = none ∧ a ∉ gp := fun a ha o q => by
      have na : a ∉ f := fun z => nn.2.2 a z a ha rfl
      have q2 : restM F H f a = some o := by rw [restM_of na (mm a (by simp [ha])).1]; exact q
      exact ⟨r'.wh a o q2, r'.wf a o q2, fun z => by have := (m' a z).2; rw [q2] at this; cases this⟩
    have re : RE K cm F' H' σ (ρ.set i .hole) g := h3.mono s fun a ha o q => (keep a ha o q).1
    have hi : i < σ.length := (List.getElem?_eq_some_iff.mp h1).1
    have e3 : σ.set i (some u) = σ := by
      obtain ⟨hi, q⟩ := List.getElem?_eq_some_iff.mp h1
      rw [← q]; exact List.set_getElem_self hi
    have E : ∃ fa fb, (∃ gg, RE K cm F' H' σ (ρ.set i d1) gg ∧ Sub gg (fb ++ g)) ∧ (∀ {ρ' : Sl} {gg : List Addr}, RE K cm F' H' σ ρ' gg → RE K cm F' H' (some v :: σ) (d2 :: ρ') (fa ++ gg)) ∧ Sub (fa ++ fb) gp := by
      have put : ∀ {fb : List Addr}, RD K cm F' H' u d1 fb → ∃ gg, RE K cm F' H' σ (ρ.set i d1) gg ∧ Sub gg (fb ++ g) := fun {fb} q => by
        obtain ⟨gg, k3, k4⟩ := re.put hi q
        rw [e3, set_twice] at k3
        exact ⟨gg, k3, k4⟩
      cases e' with
      | no t =>
        cases t with
        | no t => exact ⟨[], [], put .hole, fun q => .no q, ⟨gp, by simp⟩⟩
        | @yes _ _ _ _ fb gb b t => exact ⟨[], fb, put b, fun q => .no q, Sub.left _ _⟩
      | @yes _ _ _ _ fa ga a t =>
        cases t with
        | no t => exact ⟨fa, [], put .hole, fun q => .yes a q, by simpa using Sub.left fa ga⟩
        | @yes _ _ _ _ fb gb b t => exact ⟨fa, fb, put b, fun q => .yes a q, by rw [← List.append_assoc]; exact Sub.left _ _⟩
    obtain ⟨fa, fb, ⟨gg, k1, k2⟩, k3, k4⟩ := E
    have S : Sub (fa ++ gg) (gp ++ g) := by
      refine ((Sub.refl fa).app k2).trans ?_
      rw [← List.append_assoc]
      exact k4.app (Sub.refl g)
    have N : (gp ++ g).Nodup := List.nodup_append.mpr ⟨nd', nn.2.1, fun a ha b hb e2 => by
      subst e2
      obtain ⟨o, ho⟩ := h3.there a hb
      exact (keep a hb o ho).2.2 ha⟩
    refine .ofRE r'.fh (fun a o q => ?_) (fun a o q => ?_) N (fun a ha => ?_) (k3 k1) S
    · have wa := r.wh a o q
      have fa' := r.wf a o q
      have na : a ∉ f := fun z => by have := (mm a (by simp [z])).2; rw [q] at this; cases this
      exact r'.wh a o (by rw [restM_of na fa']; exact wa)
    · have wa := r.wh a o q
      have fa' := r.wf a o q
      have na : a ∉ f := fun z => by have := (mm a (by simp [z])).2; rw [q] at this; cases this
      exact r'.wf a o (by rw [restM_of na fa']; exact wa)
    · rcases List.mem_append.mp ha with ha | ha
      · have q := m' a ha
        refine ⟨q.1, ?_⟩
        cases e2 : W a with
        | none => rfl
        | some o =>
          have na : a ∉ f := fun z => by have := (mm a (by simp [z])).2; rw [e2] at this; cases this
          have q2 := q.2
          rw [restM_of na (r.wf a o e2), r.wh a o e2] at q2
          cases q2
      · obtain ⟨o, ho⟩ := h3.there a ha
        exact ⟨(keep a ha o ho).2.1, (mm a (by simp [ha])).2⟩
end

/-! ### a def of the module -/
structure HasFn (P : Program) (w : World) (K : PySem.W.Frag) (mg : Str → Option Value) (base : Heap) (k : Nat) (x : Str) (ps : List Str) (sp : Sp) : Prop where
  ex : ∃ f fd, FnOk P w K mg base CX0 k f fd ps sp ∧ mg x = some (.ref f) ∧ PySem.W.keepIn K (.ref f) = true ∧ Binds K fd ps []
section
variable {X : Cx} {cm : Str → Addr → Prop} {b : Bool} {k : Nat} {x : Str} {ps : List Str} {p pos : Pos} {e : Expr} {es : List Expr} {f : EL} {n : Nat}
def dFn (fd : List P → Option D) (f : EL) : ED := fun ρ => (f ρ).bind fun x => if x.1.length = x.1.length then (fd x.1).map fun d => (d, x.2) else none
def dFnN (n : Nat) (fd : List P → Option D) (f : EL) : ED := fun ρ => (f ρ).bind fun x => if x.1.length = n then (fd x.1).map fun d => (d, x.2) else none
/-- the result is frozen -/
def dFr (f : ED) : EF := fun ρ => (f ρ).bind fun x => (frz x.1).map fun p => (p, x.2)
theorem x_fr (h : PE X e (tD X.K cm b g)) : PE X e (tP X.K cm b (dFr g)) := HW.PE.imp h fun σ H Q ⟨W, F, ρ, p, ρ', r, e, k⟩ => by
  simp only [dFr, Option.bind_eq_some_iff, Option.map_eq_some_iff] at e
  obtain ⟨⟨d, ρ1⟩, e1, q, e2, e3⟩ := e
  cases e3
  refine ⟨W, F, ρ, d, _, r, e1, fun v H1 F1 r1 s1 u1 => ?_⟩
  obtain ⟨F2, s2, d2, r2⟩ := r1.freeze e2
  exact k v H1 F2 r2.tail (s1.trans s2) u1 d2
theorem x_call {fd : List P → Option D} (h : HasFn X.prog X.w X.K X.mg X.base k x ps (spP X.K cm n fd)) (hr : Room k X.A) (ha : PA X (e :: es) (tA X.K cm b f)) (hg : Gl X x := by rfl) (hdb : (x == ("__debug__" : Str)) = false := by decide)
    (he : starEach (e :: es) X.env = (false, eval e X.env) :: starEach es X.env := by rfl) (hpl : (backTo pos (starEach es X.env)).any (·.1) = false := by rfl) :
    PE X (.Call (.Name x p) (e :: es) [] pos) (tD X.K cm b (dFnN n fd f)) := by
  obtain ⟨fa, fdd, ok, hm, hk, hb⟩ := h.ex
  refine HW.PE.imp (pe_call ok hr hg hm hk hb .nil (E := E0) pass0 ha hdb he hpl) fun σ H Q ⟨W, F, ρ, d, ρ', r, e, k⟩ => ?_
  simp only [dFnN, Option.bind_eq_some_iff] at e
  obtain ⟨⟨ps', ρ1⟩, e1, e2⟩ := e
  split at e2
  · rename_i hn
    obtain ⟨d', e3, e4⟩ := Option.map_eq_some_iff.mp e2
    cases e4
    refine ⟨W, F, ρ, ps', _, r, e1, fun vs H1 F1 r1 s1 u1 d1 => ⟨by rw [List.append_nil, d1.length]; exact hn, F1, ps', d, r1.fh, by rw [List.append_nil]; exact d1, e3, fun v H' F' r' s' => ?_⟩⟩
    obtain ⟨r2, s2⟩ := r1.call r' s'
    exact k v H' F' r2 (s1.trans s') (u1.then s2)
  · cases e2
/-- no arguments -/
theorem x_call0 {fd : List P → Option D} (h : HasFn X.prog X.w X.K X.mg X.base k x ps (spP X.K cm 0 fd)) (hr : Room k X.A) (hg : Gl X x := by rfl) (hdb : (x == ("__debug__" : Str)) = false := by decide) :
    PE X (.Call (.Name x p) [] [] pos) (tD X.K cm true (dFnN 0 fd fun ρ => some ([], ρ))) := by
  obtain ⟨fa, fdd, ok, hm, hk, hb⟩ := h.ex
  refine HW.PE.imp (pe_call0 ok hr hg hm hk hb .nil (E := E0) pass0 hdb) fun σ H Q ⟨W, F, ρ, d, ρ', r, e, k⟩ => ?_
  simp only [dFnN, Option.bind_eq_some_iff] at e
  obtain ⟨⟨ps', ρ1⟩, e1, e2⟩ := e
  cases e1
  dsimp only at e2
  rw [if_pos (show ([] : List P).length = 0 from rfl)] at e2
  obtain ⟨d', e3, e4⟩ := Option.map_eq_some_iff.mp e2
  cases e4
  refine ⟨rfl, F, [], d, r.fh, .nil, e3, fun v H' F' r' s' => ?_⟩
  obtain ⟨r2, s2⟩ := r.call r' s'
  exact k v H' F' r2 s' (Pu.same s2)
/-- the first argument is a slot's own thing, that the callee may change -/
def dFnM (n : Nat) (i : Nat) (fd : D → List P → Option (D × D)) (f : EL) : ED := fun ρ => match ρ[i]? with
  | some .hole => none
  | none => none
  | some _ => (f ρ).bind fun x => if x.1.length = n then match x.2[i]? with
    | some .hole => none
    | none => none
    | some d0 => (fd d0 x.1).map fun y => (y.2, x.2.set i y.1)
    else none
theorem x_callM {fd : D → List P → Option (D × D)} {y : Str} {py : Pos} (i : Nat) (h : HasFn X.prog X.w X.K X.mg X.base k x ps (spM X.K cm n fd)) (hr : Room k X.A) (ha : PA X es (tA X.K cm b f)) (hN : X.N[i]? = some y := by rfl) (hv : Vis X.env.scope y := by first | exact Or.inl rfl | exact Or.inr (Or.inl rfl) | exact Or.inr (Or.inr rfl)) (hd : (y == ("__debug__" : Str)) = false := by decide)
    (hcd : (y == ("__classdict__" : Str)) = false := by decide) (hg : Gl X x := by rfl) (hdb : (x == ("__debug__" : Str)) = false := by decide)
    (he : starEach (.Name y py :: es) X.env = (false, eval (.Name y py) X.env) :: starEach es X.env := by rfl) (hpl : (backTo pos (starEach es X.env)).any (·.1) = false := by rfl) :
    PE X (.Call (.Name x p) (.Name y py :: es) [] pos) (tD X.K cm false (dFnM n i fd f)) := by
  obtain ⟨fa, fdd, ok, hm, hk, hb⟩ := h.ex
  refine HW.PE.imp (pe_call ok hr hg hm hk hb .nil (E := E0) pass0 (pa_cons (pe_var hN hv hd hcd) ha he) hdb he hpl) fun σ H Q ⟨W, F, ρ, d, ρ', r, e, k⟩ => ?_
  unfold dFnM at e
  split at e
  · cases e
  · cases e
  · rename_i dz n0 hz
    have ne0 : dz ≠ .hole := fun z => by subst z; exact n0 rfl
    obtain ⟨u0, h0, _⟩ := r.take hz ne0
    simp only [Option.bind_eq_some_iff] at e
    obtain ⟨⟨ps', ρ1⟩, e1, e2⟩ := e
    split at e2
    · rename_i hn
      split at e2
      · cases e2
      · cases e2
      · rename_i d0 n1 h1
        have ne1 : d0 ≠ .hole := fun z => by subst z; exact n1 rfl
        obtain ⟨⟨d1, d2⟩, e3, e4⟩ := Option.map_eq_some_iff.mp e2
        cases e4
        refine ⟨u0, h0, W, F, ρ, ps', ρ1, r, e1, fun vs H1 F1 r1 s1 u1 dd => ?_⟩
        obtain ⟨u, W0, h2, r2, k2⟩ := r1.callM h1 ne1
        rw [h0] at h2
        cases h2
        refine ⟨by rw [List.append_nil, List.length_cons, dd.length]; exact congrArg (· + 1) hn, _, vs, W0, F1, ps', d0, d1, _, by rw [List.append_nil], r2, dd, e3, fun v H' F' r' s' => ?_⟩
        exact k v H' F' (k2 v H' F' d1 _ r' s') (s1.trans s') fun h => by cases h
    · cases e2
end

/-! ### a def by its body -/
def asAll : Nat → Bool := fun _ => true
def asNo0 : Nat → Bool := fun i => !(i == 0)
def runP (n : Nat) (f : SF) (ps : List P) : Option D := match f (ps.map .pd ++ List.replicate (n - ps.length) .hole) with
  | some (.rt d, _) => some d
  | some (.nx, _) => some (.pd .none)
  | _ => none
def runM (n : Nat) (f : SF) (d0 : D) (ps : List P) : Option (D × D) := match f (d0 :: (ps.map .pd ++ List.replicate (n - (ps.length + 1)) .hole)) with
  | some (.rt d, d1 :: _) => some (d1, d)
  | some (.nx, d1 :: _) => some (d1, .pd .none)
  | _ => none
section
variable {K : PySem.W.Frag} {cm : Str → Addr → Prop} {W F H : Hp} {σ : L2.St} {ρ : Sl} {v u : V} {d d1 : D}
theorem RE.holes : ∀ n : Nat, RE K cm F H (List.replicate n none) (List.replicate n .hole) []
  | 0 => .nil
  | n + 1 => .no (RE.holes n)
theorem RE.pds {vs : List V} {ps : List P} {σ : L2.St} {ρ : Sl} {g : List Addr} (h : DPs K F vs ps) (t : RE K cm F H σ ρ g) : RE K cm F H (vs.map some ++ σ) (ps.map .pd ++ ρ) g := by
  induction vs generalizing ps with
  | nil => cases h; exact t
  | cons v vs ih => cases h with | cons a b => exact .yes (f := []) (.pd a) (ih b)
theorem R.start {N : List Str} {vs : List V} {ps : List P} (fh : Same F H) (wh : Same W H) (wf : ∀ a o, W a = some o → F a = none) (h : DPs K F vs ps) : R K cm W (L2.start N vs) H F (ps.map .pd ++ List.replicate (N.length - ps.length) .hole) := by
  refine ⟨fh, wh, wf, [], ?_, by simp, by simp⟩
  unfold L2.start
  rw [h.length]
  exact RE.pds h (RE.holes _)
theorem R.startM {N : List Str} {vs : List V} {ps : List P} (r : R K cm W [some u] H F [d]) (h : DPs K F vs ps) : R K cm W (L2.start N (u :: vs)) H F (d :: (ps.map .pd ++ List.replicate (N.length - (ps.length + 1)) .hole)) := by
  obtain ⟨fp, e, nd, m⟩ := r.ex
  obtain ⟨g, sg, k⟩ := e.one
  have q := k (Same.refl F) (fun _ _ _ q => q) (RE.pds (cm := cm) (H := H) h (RE.holes (N.length - (ps.length + 1))))
  refine ⟨r.fh, r.wh, r.wf, g ++ [], ?_, by simpa using sg.nodup nd, fun a ha => m a (sg.mem (by simpa using ha))⟩
  unfold L2.start
  rw [List.length_cons, h.length, List.map_cons, List.cons_append]
  exact q
theorem R.head {x : Option V} (r : R K cm W (x :: σ) H F (d :: ρ)) : R K cm W [x] H F [d] := by
  obtain ⟨fp, e, nd, m⟩ := r.ex
  cases e with
  | no t => exact .ofRE r.fh r.wh r.wf nd m (.no .nil) ⟨fp, by simp⟩
  | yes a t => exact .ofRE r.fh r.wh r.wf nd m (.yes a .nil) (by simpa using Sub.left _ _)
theorem R.two {x y : Option V} (r : R K cm W (x :: y :: σ) H F (d :: d1 :: ρ)) : R K cm W [x, y] H F [d, d1] := by
  obtain ⟨fp, e, nd, m⟩ := r.ex
  cases e with
  | no t =>
    cases t with
    | no t => exact .ofRE r.fh r.wh r.wf nd m (.no (.no .nil)) ⟨fp, by simp⟩
    | yes b t => exact .ofRE r.fh r.wh r.wf nd m (.no (.yes b .nil)) (by simpa using Sub.left _ _)
  | yes a t =>
    cases t with
    | no t => exact .ofRE r.fh r.wh r.wf nd m (.yes a (.no .nil)) (by simpa using Sub.left _ _)
    | yes b t => exact .ofRE r.fh r.wh r.wf nd m (.yes a (.yes b .nil)) (by simpa using (Sub.refl _).app (Sub.left _ _))
end
section
variable {P : Program} {w : World} {K : PySem.W.Frag} {mg : Str → Option Value} {base : Heap} {cm : Str → Addr → Prop} {k : Nat} {x qual : Str} {st : Stmt} {fa : Addr} {fd : FuncData} {N ps : List Str} {f : SF}
theorem fn_P (G : L2.Fun K x qual st fa fd) (S : FnScope N ps (defScope st))
    (hb : ∀ (cdv : Value) (A : Around) (outer : List Env) (s : Shared) (H : Hp) (E : XK), Room k (A.deeper (envOfC qual (defScope st) s.heap.objs.size fa cdv)) →
      PSs (cxOf CX0 P w K mg base N qual (defScope st) fa cdv A outer s H E).nox (defBody st) (tS K cm asAll f)) : FnOk P w K mg base CX0 (k + 1) fa fd ps (spP K cm ps.length (runP N.length f)) :=
  G.ok S (fun vs H Q E h => h.1) fun cdv A outer s H vs Q E hr h => by
    obtain ⟨hl, F, qs, d, fh, dd, e, k⟩ := h
    refine ⟨_, hb cdv A outer s H E hr, ?_⟩
    unfold runP at e
    have r0 : R K cm (rest F H) (L2.start N vs) H F _ := R.start fh (fun a o q => (rest_some q).2) (fun a o q => (rest_some q).1) dd
    split at e
    · rename_i d' ρ' e1
      cases e
      exact ⟨_, F, _, _, ρ', r0, e1, fun v σ' H' F' r' s' o' => k v H' F' r'.head s'⟩
    · rename_i ρ' e1
      cases e
      exact ⟨_, F, _, _, ρ', r0, e1, fun σ' H' F' r' s' o' => k .non H' F' (r'.pd .non).head s'⟩
    · cases e
theorem fn_M {n : Nat} (G : L2.Fun K x qual st fa fd) (S : FnScope N ps (defScope st)) (hn : ps.length = n + 1)
    (hb : ∀ (cdv : Value) (A : Around) (outer : List Env) (s : Shared) (H : Hp) (E : XK), Room k (A.deeper (envOfC qual (defScope st) s.heap.objs.size fa cdv)) →
      PSs (cxOf CX0 P w K mg base N qual (defScope st) fa cdv A outer s H E).nox (defBody st) (tS K cm asNo0 f)) : FnOk P w K mg base CX0 (k + 1) fa fd ps (spM K cm n (runM N.length f)) :=
  G.ok S (fun vs H Q E h => h.1.trans hn.symm) fun cdv A outer s H vs Q E hr h => by
    obtain ⟨hl, u, us, W, F, qs, d0, d1, d2, rfl, r, dd, e, k⟩ := h
    refine ⟨_, hb cdv A outer s H E hr, ?_⟩
    unfold runM at e
    have r0 : R K cm W (L2.start N (u :: us)) H F _ := r.startM dd
    have h0 : (L2.start N (u :: us))[0]? = some (some u) := rfl
    split at e
    · rename_i d' d1' ρ' e1
      cases e
      refine ⟨_, F, _, _, _, r0, e1, fun v σ' H' F' r' s' o' => ?_⟩
      have q := o' 0 rfl
      rw [h0] at q
      cases σ' with
      | nil => cases q
      | cons z σ' => cases q; exact k v H' F' r'.two s'
    · rename_i d1' ρ' e1
      cases e
      refine ⟨_, F, _, _, _, r0, e1, fun σ' H' F' r' s' o' => ?_⟩
      have q := o' 0 rfl
      rw [h0] at q
      cases σ' with
      | nil => cases q
      | cons z σ' => cases q; exact k .non H' F' (r'.pd .non).two s'
    · cases e
end
end
end HW

namespace HW
open PySem PySem.Spec PyProof.Rows L2
noncomputable section

/-! ### builtins over data -/
section
variable {X : Cx} {cm : Str → Addr → Prop}
/-- a call by data: the answer is one of the frozen things -/
def rFro (K : PySem.W.Frag) (g : List P → Option P) : List V → Hp → VK → Prop := fun vs H Q => ∃ F ps z, Same F H ∧ DPs K F vs ps ∧ g ps = some z ∧ ∀ w, DP K F w z → Q w H
theorem vc_fro {K : PySem.W.Frag} {g : List P → Option P} : VCall K cm (rFro K g) g := by
  intro W σ H F ρ vs ps z Q r d e k
  exact ⟨F, ps, z, r.fh, d, e, fun w d => k w H F r (Same.refl F) (Same.refl H) d⟩
/-- a call by data: a new list of frozen things -/
def rFroL (K : PySem.W.Frag) (g : List P → Option (List P)) : List V → Hp → VK → Prop := fun vs H Q => ∃ F ps zs, Same F H ∧ DPs K F vs ps ∧ g ps = some zs ∧ ∀ ws p, DPs K F ws zs → H p = none → Q (.ref p) (upd H p (.lst ws))
theorem vc_froL {K : PySem.W.Frag} {g : List P → Option (List P)} : VCallL K cm (rFroL K g) g := by
  intro W σ H F ρ vs ps z Q r d e k
  exact ⟨F, ps, z, r.fh, d, e, fun ws p d hp => k p ws d hp⟩

theorem DPs.readsAll {pins : List (Addr × Obj)} {σ : L2.St} {H F : Hp} {s : Shared} {vs : List V} {ps : List P} {us : List Value} (I : Inv X pins σ H s) (fh : Same F H) (d : DPs X.K F vs ps) (r : Vals vs us) : ∃ as, ReadsAll s.heap us ps as :=
  Dp.readsAll I ps vs us (d.mono fh).dp r
theorem DPs.plain {K : PySem.W.Frag} {F : Hp} {vs : List V} {ps : List P} (d : DPs K F vs ps) : PyData.plainAll ps = true := dps_plain d.dp
theorem DP.plain {K : PySem.W.Frag} {F : Hp} {v : V} {p : P} (d : DP K F v p) : p.plain = true := dp_plain d.dp

/-- all alike, none None: what can be put in order -/
def alikeB (ds : List P) : Bool := ds.all fun x => notNon x && ds.all fun y => PySem.W.alike x y
def ordOk (ds : List P) : Bool := alikeB ds && Nat.ble (PyData.depthAll ds) 100
theorem ordOk_is {ds : List P} (h : ordOk ds = true) : PySem.W.AlikeAll ds ∧ PyData.depthAll ds ≤ 100 := by
  unfold ordOk alikeB at h
  simp only [Bool.and_eq_true, List.all_eq_true] at h
  exact ⟨⟨fun x hx y hy => (h.1 x hx).2 y hy, fun x hx e => by have := (h.1 x hx).1; rw [e] at this; cases this⟩, Nat.le_of_ble_eq_true h.2⟩
def minP : List P → Option P
  | [.list (x :: xs)] => if ordOk (x :: xs) then some (PySem.W.minD x xs) else none
  | [.tuple (x :: xs)] => if ordOk (x :: xs) then some (PySem.W.minD x xs) else none
  | _ => none
def maxP : List P → Option P
  | [.list (x :: xs)] => if ordOk (x :: xs) then some (PySem.W.maxD x xs) else none
  | [.tuple (x :: xs)] => if ordOk (x :: xs) then some (PySem.W.maxD x xs) else none
  | _ => none
theorem one_of {K : PySem.W.Frag} {F : Hp} {vs : List V} {p : P} (d : DPs K F vs [p]) : ∃ v, vs = [v] ∧ DP K F v p := by
  cases d with | cons a t => cases t; exact ⟨_, rfl, a⟩
/-- the item that is found again -/
theorem found_item {pins : List (Addr × Obj)} {σ : L2.St} {H F : Hp} {s : Shared} {xs : List V} {ps : List P} {its : List Value} {h' : Heap} {v : Value} {z : P} {bs : List Addr} {i : Nat} (I : Inv X pins σ H s) (fh : Same F H) (d : DPs X.K F xs ps) (rv : Vals xs its) (hi : its.toArray[i]? = some v) (r : Reads h' v z bs)
    (hk : ∀ b o, s.heap.get? b = some o → h'.get? b = some o) : ∃ w, DP X.K F w z ∧ RelV w v := by
  have hi' : its[i]? = some v := by simpa using hi
  obtain ⟨hlt, e⟩ := List.getElem?_eq_some_iff.mp hi'
  have hx : i < xs.length := by rw [rv.length]; exact hlt
  obtain ⟨u, hu, ru⟩ := rv.get (List.getElem?_eq_getElem hx)
  rw [hi'] at hu
  cases hu
  obtain ⟨p, hp, dp⟩ := DPs.getV d (List.getElem?_eq_getElem hx)
  obtain ⟨as, r1⟩ := Dp.reads I p _ _ (DP.mono dp fh).dp ru
  have r2 := PyProof.Rows.Reads.keeps hk r1
  have := SeqAt.plain_unique _ _ _ _ _ (DP.plain dp) r2 r
  subst this
  exact ⟨_, dp, ru⟩
theorem cr_minD (hc : X.calm = true) (hu : HU X) : CallR X (.builtin "min") (rFro X.K minP) := by
  intro pins s σ H vs us Q I r ⟨F, ps, z, fh, d, e, q⟩
  have hu' : X.A.units + 150 < cLine := hu
  unfold minP at e
  split at e
  · rename_i x xs
    split at e
    · rename_i ho
      cases e
      obtain ⟨h1, h2⟩ := ordOk_is ho
      obtain ⟨v, rfl, dv⟩ := one_of d
      cases dv with
      | lst hr hd =>
        obtain ⟨its, rv, hl, _⟩ := I.list ((LK.mono hr fh).seq)
        rw [Vals.ref1 r]
        obtain ⟨as, ra⟩ := DPs.readsAll I fh hd rv
        refine PySem.W.min_list_data (I.ok.hd hc) hl.isList (by simpa using ra) h1 (by omega) fun i v h' tk bs hi rd hk => ?_
        obtain ⟨w, dw, rw'⟩ := found_item I fh hd rv hi rd hk
        exact ⟨w, H, I.kept hk, rw', q w dw⟩
    · cases e
  · rename_i x xs
    split at e
    · rename_i ho
      cases e
      obtain ⟨h1, h2⟩ := ordOk_is ho
      obtain ⟨v, rfl, dv⟩ := one_of d
      cases dv with
      | tup hr hd =>
        obtain ⟨its, rv, hl, _⟩ := I.tuple (SqT.mono hr fh)
        rw [Vals.ref1 r]
        obtain ⟨as, ra⟩ := DPs.readsAll I fh hd rv
        refine PySem.W.min_tuple_data (I.ok.hd hc) (show s.heap.IsTuple _ its.toArray from hl) (by simpa using ra) h1 (by omega) fun i v h' tk bs hi rd hk => ?_
        obtain ⟨w, dw, rw'⟩ := found_item I fh hd rv hi rd hk
        exact ⟨w, H, I.kept hk, rw', q w dw⟩
    · cases e
  · cases e
theorem cr_maxD (hc : X.calm = true) (hu : HU X) : CallR X (.builtin "max") (rFro X.K maxP) := by
  intro pins s σ H vs us Q I r ⟨F, ps, z, fh, d, e, q⟩
  have hu' : X.A.units + 150 < cLine := hu
  unfold maxP at e
  split at e
  · rename_i x xs
    split at e
    · rename_i ho
      cases e
      obtain ⟨h1, h2⟩ := ordOk_is ho
      obtain ⟨v, rfl, dv⟩ := one_of d
      cases dv with
      | lst hr hd =>
        obtain ⟨its, rv, hl, _⟩ := I.list ((LK.mono hr fh).seq)
        rw [Vals.ref1 r]
        obtain ⟨as, ra⟩ := DPs.readsAll I fh hd rv
        refine PySem.W.max_list_data (I.ok.hd hc) hl.isList (by simpa using ra) h1 (by omega) fun i v h' tk bs hi rd hk => ?_
        obtain ⟨w, dw, rw'⟩ := found_item I fh hd rv hi rd hk
        exact ⟨w, H, I.kept hk, rw', q w dw⟩
    · cases e
  · rename_i x xs
    split at e
    · rename_i ho
      cases e
      obtain ⟨h1, h2⟩ := ordOk_is ho
      obtain ⟨v, rfl, dv⟩ := one_of d
      cases dv with
      | tup hr hd =>
        obtain ⟨its, rv, hl, _⟩ := I.tuple (SqT.mono hr fh)
        rw [Vals.ref1 r]
        obtain ⟨as, ra⟩ := DPs.readsAll I fh hd rv
        refine PySem.W.max_tuple_data (I.ok.hd hc) (show s.heap.IsTuple _ its.toArray from hl) (by simpa using ra) h1 (by omega) fun i v h' tk bs hi rd hk => ?_
        obtain ⟨w, dw, rw'⟩ := found_item I fh hd rv hi rd hk
        exact ⟨w, H, I.kept hk, rw', q w dw⟩
    · cases e
  · cases e
/-! sorted -/
def sortB (ds : List P) : Bool := (ds.all fun d => match d with | .tuple (_ :: _) => true | _ => false) || ds.all fun d => match d with | .none => false | .tuple _ => false | _ => true
def sortOk (ds : List P) : Bool := (sortB ds && ordOk ds) && Nat.ble ds.length 16777216
def sortL (ds : List P) : List P := ds.mergeSort (PySem.W.dataLe false id)
def sortedP : List P → Option (List P)
  | [.list ds] => if sortOk ds then some (sortL ds) else none
  | _ => none
theorem sortOk_is {ds : List P} (h : sortOk ds = true) : PySem.W.Sortable ds ∧ PySem.W.AlikeAll ds ∧ PyData.depthAll ds ≤ 100 ∧ ds.length ≤ 16777216 := by
  unfold sortOk sortB at h
  simp only [Bool.and_eq_true, Bool.or_eq_true, List.all_eq_true] at h
  obtain ⟨⟨h1, h2⟩, h3⟩ := h
  obtain ⟨a, b⟩ := ordOk_is h2
  refine ⟨?_, a, b, Nat.le_of_ble_eq_true h3⟩
  rcases h1 with h1 | h1
  · refine .inl fun d hd => ?_
    have := h1 d hd
    split at this
    · exact ⟨_, _, rfl⟩
    · cases this
  · refine .inr fun d hd => ?_
    have := h1 d hd
    constructor
    · intro z; subst z; cases this
    · intro xs z; subst z; cases this
theorem depth_mem : ∀ {ds : List P} {d : P}, d ∈ ds → d.depth ≤ PyData.depthAll ds
  | [], _, h => by cases h
  | x :: xs, d, h => by
    simp only [PyData.depthAll]
    rcases List.mem_cons.mp h with rfl | h
    · exact Nat.le_max_left _ _
    · exact Nat.le_trans (depth_mem h) (Nat.le_max_right _ _)
def RelD (X : Cx) (F : Hp) (v : Value) (p : P) : Prop := ∃ w, RelV w v ∧ DP X.K F w p
theorem each_of {F : Hp} : ∀ {xs : List V} {ps : List P} {its : List Value}, DPs X.K F xs ps → Vals xs its → PySem.W.EachIs (RelD X F) its ps
  | _, _, _, .nil, .nil => .nil
  | _, _, _, .cons a d, .cons r v => .cons ⟨_, r, a⟩ (each_of d v)
theorem of_each {F : Hp} : ∀ {ps : List P} {its : List Value}, PySem.W.EachIs (RelD X F) its ps → ∃ xs, DPs X.K F xs ps ∧ Vals xs its
  | _, _, .nil => ⟨[], .nil, .nil⟩
  | _, _, .cons ⟨w, r, a⟩ t => let ⟨xs, d, v⟩ := of_each t; ⟨w :: xs, .cons a d, .cons r v⟩
theorem cr_sortedD (hu : HU X) : CallR X (.builtin "sorted") (rFroL X.K sortedP) := by
  intro pins s σ H vs us Q I r ⟨F, ps, z, fh, d, e, q⟩
  have hu' : X.A.units + 150 < cLine := hu
  unfold sortedP at e
  split at e
  · rename_i ds
    split at e
    · rename_i ho
      cases e
      obtain ⟨h1, h2, h3, h4⟩ := sortOk_is ho
      obtain ⟨v, rfl, dv⟩ := one_of d
      cases dv with
      | lst hr hd =>
        obtain ⟨its, rv, hl, hz⟩ := I.list ((LK.mono hr fh).seq)
        rw [Vals.ref1 r]
        have e1 : PySem.W.EachIs (RelD X F) its ds := each_of hd rv
        have er : PySem.W.EachIs (fun v b => ∃ as, Reads s.heap v (id b) as) its ds := e1.mono fun v p ⟨w, rw', dp⟩ => Dp.reads I p w v (DP.mono dp fh).dp rw'
        refine PySem.W.sorted_data (enc := id) hl.isList e1 er (fun x hx y hy => ?_) (by simpa using h1) (by rw [sizeLine_eq]; exact h4) (fun b hb => ?_) fun out ho e2 => ?_
        · simp only [List.map_id] at hx hy
          exact h2.1 x hx y hy
        · have := depth_mem hb
          show X.A.units + 2 + b.depth < cLine
          omega
        · obtain ⟨ws, dw, rw'⟩ := of_each e2
          obtain ⟨ep, he'⟩ := PyProof.Rows.sortedAll_at s.heap its out.toArray
          have hlen : ws.length ≤ sizeLine := by rw [rw'.length, ho, sizeLine_eq]; exact h4
          exact ⟨.ref _, upd H (s.heap.objs.size + 1) (.lst ws), I.laid (t' := s.toks) (fun _ _ => PyProof.Rows.sortedAll_old) (Nat.le_succ _) ⟨hlen, out, ep, rw', he'⟩, rfl, q _ _ dw (I.hok.fresh (Nat.le_succ _))⟩
    · cases e
  · cases e
end
section
variable {X : Cx} {cm : Str → Addr → Prop} {b : Bool} {p pos : Pos} {e : Expr} {es : List Expr} {f : EL}
theorem x_min (hc : X.calm = true) (hu : HU X) (hm : MgN X "min") (ha : PA X (e :: es) (tA X.K cm b f)) (hg : Gl X "min" := by rfl)
    (he : starEach (e :: es) X.env = (false, eval e X.env) :: starEach es X.env := by rfl) (hpl : (backTo pos (starEach es X.env)).any (·.1) = false := by rfl) : PE X (.Call (.Name "min" p) (e :: es) [] pos) (tP X.K cm b (dCall minP f)) := x_callB (cr_minD hc hu) vc_fro hg hm (by decide +kernel) ha (by decide) (by decide) he hpl
theorem x_max (hc : X.calm = true) (hu : HU X) (hm : MgN X "max") (ha : PA X (e :: es) (tA X.K cm b f)) (hg : Gl X "max" := by rfl)
    (he : starEach (e :: es) X.env = (false, eval e X.env) :: starEach es X.env := by rfl) (hpl : (backTo pos (starEach es X.env)).any (·.1) = false := by rfl) : PE X (.Call (.Name "max" p) (e :: es) [] pos) (tP X.K cm b (dCall maxP f)) := x_callB (cr_maxD hc hu) vc_fro hg hm (by decide +kernel) ha (by decide) (by decide) he hpl
theorem l_sorted (hu : HU X) (hm : MgN X "sorted") (ha : PA X (e :: es) (tA X.K cm b f)) (hg : Gl X "sorted" := by rfl)
    (he : starEach (e :: es) X.env = (false, eval e X.env) :: starEach es X.env := by rfl) (hpl : (backTo pos (starEach es X.env)).any (·.1) = false := by rfl) : PE X (.Call (.Name "sorted" p) (e :: es) [] pos) (tL X.K cm b (dCallL sortedP f)) := l_callB (cr_sortedD hu) vc_froL hg hm (by decide +kernel) ha (by decide) (by decide) he hpl
end
end
end HW

/-! ### a set made of a list of ints (turned from the rule for tuples) -/
namespace HW
open PySem PySem.Spec PyProof.Rows L2
section
variable {P : Program} {w : World} {A : Around} {E : Value → Shared → Prop} {s : Shared}
set_option maxHeartbeats 4000000 in
theorem call_set_lstI {l : Addr} {items : Array Value} (ns : List Int) {Q : Value → Shared → Prop} (hh : A.handled = none) (hl : s.heap.IsList l items) (hit : IntsAre items.toList ns) (hb : ns.length + 1 < scanBound)
    (h : ∀ (zh' : Heap) (tk c : Nat), SetR w zh' s.heap.objs.size (fun j => decide (j ∈ ns)) c → c ≤ ns.length → (∀ b o, s.heap.get? b = some o → zh'.get? b = some o) → Q (.ref s.heap.objs.size) { s with heap := zh', toks := tk }) :
    wpAny (model P w) A (call
          (.type "set") [.ref l]) Q E s := by
  have zhisz : items.size = ns.length := by
    have q := IntsAre.length hit
    rw [Array.length_toList] at q
    exact q
  obtain ⟨c, tl, zhmro⟩ := F.called_set.mro
  have hmade := F.called_set.made; have hsub := F.called_set.sub
  refine wpAny_call (codeAny_of_tree ?_); show wpAny _ _ (callAny (.type "set") _) _ _ _
  refine wpAny_pure
        ⟨Code.quiet_builtin _ (by decide +kernel), codeAny_builtin F.entry_type_call ?_⟩
  rw [Around.under_plain (weight_type_call_type "set" [.ref l] []) rfl]; have h1 := F.called_set.notType
  have h2 := F.called_set.canCreate; have hct := F.typeCall_set_1 (.ref l)
  (repeat (any_goals (first | assumption | wp_step)))

  refine codeAny_mono (code_set_led1 (.ref l) (E := E) (Q₁ := fun obj s₁ => obj = .ref s.heap.objs.size ∧ s₁ = { s with heap := s.heap.push { cls := .type "set", dict := none, data := .set #[] 0 (.fresh 0 0 (!w.params.followText "set-order")) } }) ⟨rfl, rfl⟩) fun r s₁ zhr => ?_
  cases r with
  | error e => exact zhr
  | ok fl =>
    cases fl with
    | ret obj =>
      obtain ⟨rfl, rfl⟩ := zhr
      have zhS : (s.heap.push { cls := .type "set", dict := none, data := .set #[] 0 (.fresh 0 0 (!w.params.followText "set-order")) }).get? s.heap.objs.size = some { cls := .type "set", dict := none, data := .set #[] 0 (.fresh 0 0 (!w.params.followText "set-order")) } := Heap.get?_push_size _ rfl
      have zhT : Shared.TypeIs { s with heap := s.heap.push { cls := .type "set", dict := none, data := .set #[] 0 (.fresh 0 0 (!w.params.followText "set-order")) } } (.ref s.heap.objs.size) "set" := ⟨_, zhS, rfl⟩
      have hli := F.called_set.init.lookup; have hbi := F.called_set.init.bind (.ref s.heap.objs.size)
      (repeat (any_goals (first | assumption | wp_step)))

      refine codeAny_mono (codeAny_call_builtin (R := wants (fun r s₂ => r = .none ∧ ∃ zh' tk c, s₂ = { s with heap := zh', toks := tk } ∧ SetR w zh' s.heap.objs.size (fun j => decide (j ∈ ns)) c ∧ c ≤ ns.length ∧
          (∀ b o, s.heap.get? b = some o → zh'.get? b = some o)) E) F.called_set.init.plain F.entry_set_init (check_set_init_1 zhT ?_)) fun r₂ s₂ zhr₂ => ?_
      · obtain ⟨ol, zhol, zhcl, nl, zhdl⟩ := hl
        obtain ⟨ocls, odict, odata, oslots⟩ := ol; simp only at zhcl zhdl
        subst zhcl; subst zhdl
        have zhol' : (s.heap.push { cls := .type "set", dict := none, data := .set #[] 0 (.fresh 0 0 (!w.params.followText "set-order")) }).get? l = some { cls := .type "list", dict := odict, data := .seq items nl, slots := oslots } := Heap.get?_push_of_some _ zhol
        have hsls := F.sub_list_set
        have hslf := F.sub_list_frozenset; have zhne : (Value.type "list" == Value.type "dict") = false := by decide
        have zhl1 : (s.heap.push { cls := .type "set", dict := none, data := .set #[] 0 (.fresh 0 0 (!w.params.followText "set-order")) }).IsList l items := ⟨_, zhol', rfl, nl, rfl⟩
        unfold Builtin.«set.__init__» noKeywords Builtin.Frozenset.updateFrom; generalize hPI : pyIter = PI
        wp_walk
        subst hPI

        refine wpAny_pyIter_list zhl1 ?_
        refine wpAny_bind (wpAny_runValue ?_); have zhlS : l < s.heap.objs.size := Heap.lt_size zhol
        have zhh3 : A.in1.in1.in1.handled = none := by simp [hh]
        have zhz1 : (s.heap.push { cls := .type "set", dict := none, data := .set #[] 0 (.fresh 0 0 (!w.params.followText "set-order")) }).objs.size = s.heap.objs.size + 1 := Heap.size_push ..
        have zhneI : l ≠ (s.heap.push { cls := .type "set", dict := none, data := .set #[] 0 (.fresh 0 0 (!w.params.followText "set-order")) }).objs.size := by
          rw [Heap.size_push]; exact Nat.ne_of_lt (Nat.lt_succ_of_lt zhlS)
        have zhSf : s.heap.objs.size ∉ [(s.heap.push { cls := .type "set", dict := none, data := .set #[] 0 (.fresh 0 0 (!w.params.followText "set-order")) }).objs.size, l] := by
          rw [Heap.size_push]; simp only [List.mem_cons, List.mem_singleton, List.not_mem_nil, or_false, not_or]; exact ⟨Nat.ne_of_lt (Nat.lt_succ_self _), Nat.ne_of_gt zhlS⟩
        have zhval : ∀ (i : Nat) (v : Value), items[i]? = some v → ∃ k t, ns[i]? = some k ∧ v = .int k t := fun i v zhv => by
          have zhi : i < ns.length := by rw [← zhisz]; exact (Array.getElem?_eq_some_iff.mp zhv).1
          obtain ⟨t, e⟩ := PyProof.Rows.IntsAre.int_at hit i v (by rw [Array.getElem?_toList]; exact zhv)
          refine ⟨ns[i], t, List.getElem?_eq_getElem zhi, ?_⟩
          rw [e, List.getD_eq_getElem?_getD, List.getElem?_eq_getElem zhi] <;> rfl
        refine set_update_ints ((Walks.list zhh3 _ l zhneI items).toS) s.heap.objs.size
          zhSf ns zhisz hb zhval (items.size - 0) 0 _ (by omega) (Nat.zero_le _)
          ⟨⟨_, Heap.get?_push_size _ rfl, rfl, rfl⟩, (zhl1.push _)⟩ ?hS0 ?hR
        case hS0 =>
          have zhget : ((s.heap.push { cls := .type "set", dict := none, data := .set #[] 0 (.fresh 0 0 (!w.params.followText "set-order")) }).push { cls := .type "list_iterator", data := .fields #[.ref l, .int 0 0] }).get? s.heap.objs.size
              = some { cls := .type "set", dict := none, data := .set #[] 0 (.fresh 0 0 (!w.params.followText "set-order")) } := Heap.get?_push_of_some _ zhS
          exact ⟨0, Nat.le_refl 0, setR_new_at zhget⟩
        case hR =>
          intro s' c' hm zhc' zhS'
          obtain ⟨zh', g2, d', tk', os'⟩ := s'
          have eg : g2 = s.gens := hm.gens; have ed : d' = s.drawn := hm.drawn
          have eo : os' = s.os := hm.os
          subst eg; subst ed; subst eo
          show wpAny _ _ _ _ _ _
          refine wpAny_pure ?_
          show wpAny _ _ (ret Value.none) _ _ _; rw [zhisz] at zhc'
          refine wpAny_pure ⟨rfl, zh', tk', c', rfl, zhS', zhc', fun b o e => ?_⟩
          have zhb0 : b < s.heap.objs.size := Heap.lt_size e
          have zhb1 : b ≠ s.heap.objs.size := Nat.ne_of_lt zhb0
          have zhb2 : b ≠ (s.heap.push { cls := .type "set", dict := none, data := .set #[] 0 (.fresh 0 0 (!w.params.followText "set-order")) }).objs.size := by
            rw [Heap.size_push]; exact Nat.ne_of_lt (Nat.lt_succ_of_lt zhb0)
          exact hm.heap b o (by simp only [List.mem_cons, List.mem_singleton, List.not_mem_nil, or_false, not_or]; exact ⟨zhb1, zhb2⟩) (Heap.get?_push_of_some _ (Heap.get?_push_of_some _ e))

      · cases r₂ with
        | error e => exact zhr₂
        | ok fl₂ =>
          cases fl₂ with
          | ret r =>
            obtain ⟨rfl, zh', tk, c', rfl, zhS', zhc', zhk'⟩ := zhr₂
            (repeat (any_goals (first | assumption | wp_step))); exact h _ _ _ zhS' zhc' zhk'
          | _ => exact zhr₂.elim
    | _ => exact zhr.elim
end
end HW

namespace HW
open PySem PySem.Spec PyProof.Rows L2
noncomputable section
def rSetI (K : PySem.W.Frag) (w : World) : List V → Hp → VK → Prop := fun vs H Q => ∃ (a : Addr) (ns : List Int), vs = [V.ref a] ∧ SqL K H a (ns.map V.int) ∧ ns.length + 1 < scanBound ∧
  ∀ p c, H p = none → c ≤ ns.length → Q (.ref p) (upd H p (SetO w p (fun j => decide (j ∈ ns)) c))
section
variable {X : Cx} {cm : Str → Addr → Prop}
theorem cr_setI (hc : X.calm = true) : CallR X (.type "set") (rSetI X.K X.w) := by
  intro pins s σ H vs us Q I r ⟨a, ns, e, hs, hb, q⟩
  subst e
  obtain ⟨its, rv, hl, _⟩ := I.list hs
  rw [Vals.ref1 r]
  refine call_set_lstI ns (I.ok.hd hc) hl.isList (by simpa using rv.ints) hb fun h' tk c hS hc' hk => ?_
  exact ⟨.ref _, upd H s.heap.objs.size (SetO X.w s.heap.objs.size (fun j => decide (j ∈ ns)) c), I.laid (t' := tk) hk (Nat.le_refl _) (setO_new hS), rfl, q _ c (I.hok.fresh (Nat.le_refl _)) hc'⟩
/-- strictly rising, by insertion -/
def insI (k : Int) : List Int → List Int
  | [] => [k]
  | x :: r => if k < x then k :: x :: r else if k = x then x :: r else x :: insI k r
def ssetI (ns : List Int) : List Int := ns.foldr insI []
theorem insI_mem {k j : Int} : ∀ {r : List Int}, j ∈ insI k r ↔ j = k ∨ j ∈ r
  | [] => by simp [insI]
  | x :: r => by
    unfold insI
    split
    · simp
    · split
      · rename_i h; subst h; simp
      · simp only [List.mem_cons, insI_mem (r := r)]
        constructor
        · rintro (h | h | h) <;> simp [h]
        · rintro (h | h | h) <;> simp [h]
theorem insI_sorted {k : Int} : ∀ {r : List Int}, r.Pairwise (· < ·) → (insI k r).Pairwise (· < ·)
  | [], _ => by simp [insI]
  | x :: r, h => by
    have hx := List.pairwise_cons.mp h
    unfold insI
    split
    · rename_i hk
      exact List.pairwise_cons.mpr ⟨fun y hy => by
        rcases List.mem_cons.mp hy with rfl | hy
        · exact hk
        · exact Int.lt_trans hk (hx.1 y hy), h⟩
    · split
      · exact h
      · rename_i h1 h2
        refine List.pairwise_cons.mpr ⟨fun y hy => ?_, insI_sorted hx.2⟩
        rcases insI_mem.mp hy with rfl | hy
        · omega
        · exact hx.1 y hy
theorem ssetI_mem {ns : List Int} {j : Int} : j ∈ ssetI ns ↔ j ∈ ns := by
  unfold ssetI
  induction ns with
  | nil => simp
  | cons n ns ih => rw [List.foldr_cons, insI_mem, ih]; simp
theorem ssetI_sorted (ns : List Int) : (ssetI ns).Pairwise (· < ·) := by
  unfold ssetI
  induction ns with
  | nil => simp
  | cons n ns ih => exact insI_sorted ih
theorem strict_unique : ∀ {xs ys : List Int}, xs.Pairwise (· < ·) → ys.Pairwise (· < ·) → (∀ k, k ∈ xs ↔ k ∈ ys) → xs = ys
  | [], [], _, _, _ => rfl
  | [], y :: ys, _, _, h => by have := (h y).mpr (by simp); cases this
  | x :: xs, [], _, _, h => by have := (h x).mp (by simp); cases this
  | x :: xs, y :: ys, h1, h2, h => by
    obtain ⟨a1, a2⟩ := List.pairwise_cons.mp h1
    obtain ⟨b1, b2⟩ := List.pairwise_cons.mp h2
    have e : x = y := by
      rcases List.mem_cons.mp ((h x).mp (by simp)) with e | e
      · exact e
      · rcases List.mem_cons.mp ((h y).mpr (by simp)) with e' | e'
        · exact e'.symm
        · have := b1 x e; have := a1 y e'; omega
    subst e
    congr 1
    refine strict_unique a2 b2 fun k => ?_
    have q := h k
    simp only [List.mem_cons] at q
    constructor
    · intro hk
      rcases q.mp (.inr hk) with rfl | r
      · have := a1 k hk; omega
      · exact r
    · intro hk
      rcases q.mpr (.inr hk) with rfl | r
      · have := b1 k hk; omega
      · exact r
def ssetP : List P → Option (List P)
  | [.list xs] => (intsP xs).bind fun ns => if ns.length < 64 then some ((ssetI ns).map .int) else none
  | _ => none
theorem DPs.ints {K : PySem.W.Frag} {F : Hp} : ∀ ns : List Int, DPs K F (ns.map V.int) (ns.map .int)
  | [] => .nil
  | n :: ns => .cons (.int n) (DPs.ints ns)
/-- sorted(set(a list of ints)) -/
theorem l_sset {b : Bool} {p p2 q pos : Pos} {e : Expr} {f : EL} (hc : X.calm = true) (hm : MgN X "sorted") (hm2 : MgN X "set") (ha : PA X [e] (tA X.K cm b f)) (hg : Gl X "sorted" := by rfl) (hg2 : Gl X "set" := by rfl)
    (he2 : starEach [e] X.env = (false, eval e X.env) :: starEach [] X.env := by rfl) (hpl2 : (backTo q (starEach [] X.env)).any (·.1) = false := by rfl)
    (he : starEach [.Call (.Name "set" p2) [e] [] q] X.env = (false, eval (.Call (.Name "set" p2) [e] [] q) X.env) :: starEach [] X.env := by rfl) (hpl : (backTo pos (starEach [] X.env)).any (·.1) = false := by rfl) :
    PE X (.Call (.Name "sorted" p) [.Call (.Name "set" p2) [e] [] q] [] pos) (tL X.K cm b (dCallL ssetP f)) :=
  PE.imp (pe_callB (cr_sortedSet hc) hg hm (by decide +kernel) (pa_cons (pe_callTy (cr_setI hc) hg2 hm2 (by decide +kernel) ha (by decide) (by decide) he2 hpl2) pa_nil he) (by decide) (by decide) he hpl) fun σ H Q ⟨W, F, ρ, ps, ρ', r, e0, k⟩ => by
    simp only [dCallL, Option.bind_eq_some_iff, Option.map_eq_some_iff] at e0
    obtain ⟨⟨p1, ρ1⟩, e1, z, e3, e4⟩ := e0
    cases e4
    refine ⟨W, F, ρ, p1, ρ1, r, e1, fun vs H1 F1 r1 s1 u1 d1 => ?_⟩
    have e3 : ssetP p1 = some _ := e3
    unfold ssetP at e3
    split at e3
    · rename_i xs
      simp only [Option.bind_eq_some_iff] at e3
      obtain ⟨ns, e5, e6⟩ := e3
      split at e6
      · rename_i h64
        cases e6
        obtain ⟨a, us, rfl, h1, h2⟩ := one_lst d1
        have e7 := ints_vs h2 e5
        subst e7
        refine ⟨a, ns, rfl, (LK.mono h1 r1.fh).seq, by unfold scanBound; omega, fun p c hp hc' => ?_⟩
        have r2 : R X.K cm W σ (upd H1 p (SetO X.w p (fun j => decide (j ∈ ns)) c)) F1 ρ1 := r1.same (same_upd hp)
        refine ⟨p, _, c, rfl, upd_same, by omega, fun ns' l hs hmem hl hn => ?_⟩
        have : ns' = ssetI ns := strict_unique hs (ssetI_sorted ns) fun j => by rw [hmem, ssetI_mem]; simp
        subst this
        exact k l _ _ _ F1 r2 s1 (u1.then (same_upd hp)) (DPs.ints _) hn rfl
      · cases e6
    · cases e3
end
end
end HW

namespace HW
open PySem PySem.Spec PyProof.Rows L2
noncomputable section

/-! ### a comprehension straight into a local name -/
section
variable {X : Cx} {cm : Str → Addr → Prop} {as : Nat → Bool} {pos spos : Pos} {b b1 b2 b3 : Bool}
theorem ofL_imp {K : PySem.W.Frag} {f : EL} : ∀ σ H Q, tD K cm b (dOl f) σ H Q → tL K cm b f σ H Q := by
  rintro σ H Q ⟨W, F, ρ, p, ρ', r, e, k⟩
  obtain ⟨⟨ps, ρ1⟩, e1, e2⟩ := Option.map_eq_some_iff.mp e
  cases e2
  refine ⟨W, F, ρ, ps, ρ1, r, e1, fun q vs H0 H1 F1 r1 s1 u1 d1 hp e3 => ?_⟩
  subst e3
  exact k _ _ _ (R.newL r1 d1 hp) s1 (u1.then (same_upd hp))
theorem ofLP_imp {K : PySem.W.Frag} {f : EL} : ∀ σ H Q, tD K cm b (dPd (dLst f)) σ H Q → tL K cm b f σ H Q := by
  rintro σ H Q ⟨W, F, ρ, p, ρ', r, e, k⟩
  obtain ⟨⟨q, ρ1⟩, e1, e2⟩ := Option.map_eq_some_iff.mp e
  cases e2
  obtain ⟨⟨ps, ρ2⟩, e3, e4⟩ := Option.map_eq_some_iff.mp e1
  cases e4
  refine ⟨W, F, ρ, ps, _, r, e3, fun q vs H0 H1 F1 r1 s1 u1 d1 hp e3 => ?_⟩
  subst e3
  have fp := r1.fh.free hp
  exact k _ _ _ ((r1.laid hp).pd (laid_lst (σ := σ) (H := H0) (ρ := ρ2) d1 fp)) (s1.trans (same_upd fp)) (u1.then (same_upd hp))
theorem s_setLc {y : Str} {py : Pos} {elt tg iter : Expr} {ifs : List Expr} {scope : Scope} {own : List (Str × Nat)} {it : EL} {t : Tg} {cnd : EB} {el : EF} {q : ED} (i : Nat) (hq : ∀ σ H Q, tD X.K cm b q σ H Q → tL X.K cm (b1 && (b2 && b3)) (dComp it (own.map (·.2)) t cnd el) σ H Q)
    (hc : X.calm = true) (hN : X.N.Nodup) (ok : BlkOk X.N X.env.scope scope own) (hi : PI X tg iter (tI X.K cm b1 it))
    (hg : ∀ (s : Shared) (H : Hp) (C : Addr) (cl : List (Str × Addr)) (fp : List Addr), PG (X.blk s H scope (compEnvC scope cl C X.env) fp) tg (tTg X.K cm (fun i => (own.map (·.2)).contains i) t))
    (ht : ∀ (s : Shared) (H : Hp) (C : Addr) (cl : List (Str × Addr)) (fp : List Addr), PTs (X.blk s H scope (compEnvC scope cl C X.env) fp) ifs (tT X.K cm b2 cnd))
    (he : ∀ (s : Shared) (H : Hp) (C : Addr) (cl : List (Str × Addr)) (fp : List Addr), PE (X.blk s H scope (compEnvC scope cl C X.env) fp) elt (tP X.K cm b3 el))
    (hy : X.N[i]? = some y := by rfl) (hyl : X.env.scope.names.lookup y = some .local := by rfl) (ha : as i = true := by rfl)
    (hsw : swapsWith (.ListComp elt [⟨tg, iter, ifs, 0⟩] scope pos) (some (.Name y py)) spos.line X.env = pure true := by exact sw_true rfl rfl rfl rfl)
    (htg : tgIn (own.map (·.2)) t = true := by rfl) (hs : ∀ x, foldedSetIterable iter X.env x = pure x := by intro _; rfl) :
    PS X (.Assign [.Name y py] (.ListComp elt [⟨tg, iter, ifs, 0⟩] scope pos) spos) (tS X.K cm as (dSet i q)) :=
  HW.PS.imp (ps_setLc hc hN hy hyl hsw hi ok hg ht he hs) fun Dn σ H ⟨W, F, ρ, fl, ρ', r, e, k⟩ => by
    obtain ⟨⟨d, ρ1⟩, e1, e2⟩ := Option.map_eq_some_iff.mp e
    cases e2
    exact lc_imp htg _ _ _ (hq _ _ _ ⟨W, F, ρ, d, ρ1, r, e1, fun v H1 F1 r1 s1 u1 => k _ H1 F1 (R.put' r1) s1 (Out.set ha)⟩)

/-! ### a comprehension of two loops, pure -/
def comp2 (vs vs1 : List Nat) (tg : Tg) (it1 : EL) (tg1 : Tg) (elt : EF) (ρw : Sl) : List P → Option (List P)
  | [] => some []
  | p :: ps => (bindT tg p ρw).bind fun ρ1 => (it1 ρ1).bind fun x => ((x.1.mapM fun q => (bindT tg1 q (wipeR ρ1 vs1)).bind fun ρ2 => (elt ρ2).map (·.1)) : Option (List P)).bind fun ys => (comp2 vs vs1 tg it1 tg1 elt ρw ps).map (ys ++ ·)
def dComp2 (it : EL) (vs vs1 : List Nat) (tg : Tg) (it1 : EL) (tg1 : Tg) (elt : EF) : EL := fun ρ => (it ρ).bind fun x =>
  if ownOk x.2 vs = true then (comp2 vs vs1 tg it1 tg1 elt (wipeR x.2 vs) x.1).bind fun ys => if ys.length ≤ 16777216 then some (ys, fillR x.2 (wipeR x.2 vs) vs) else none else none

theorem ownOk_wipe (ρ : Sl) (vs : List Nat) : ∀ ws : List Nat, (∀ v ∈ ws, v ∈ vs) → ownOk (wipeR ρ vs) ws = true := by
  intro ws hs
  unfold ownOk
  rw [List.all_eq_true]
  intro v hv
  rw [wipeR_get, if_pos (hs v hv)]
  split <;> rfl
theorem ownOk_set {ρ : Sl} {i : Nat} {p : P} {ws : List Nat} (h : ownOk ρ ws = true) : ownOk (ρ.set i (.pd p)) ws = true := by
  unfold ownOk at h ⊢
  rw [List.all_eq_true] at h ⊢
  intro v hv
  by_cases e : i = v
  · subst e
    rw [List.getElem?_set_self']
    cases ρ[i]? <;> rfl
  · rw [List.getElem?_set_ne e]
    exact h v hv
theorem ownOk_bind {ws : List Nat} : ∀ {t : Tg} {p : P} {ρ ρ' : Sl}, ownOk ρ ws = true → bindT t p ρ = some ρ' → ownOk ρ' ws = true
  | .nm _, _, _, _, h, e => by cases e; exact ownOk_set h
  | .tnil, p, ρ, ρ', h, e => by
    cases p with
    | tuple ps => cases ps with
      | nil => cases e; exact h
      | cons _ _ => cases e
    | _ => cases e
  | .tcons a r, p, ρ, ρ', h, e => by
    cases p with
    | tuple ps => cases ps with
      | nil => cases e
      | cons _ _ =>
        simp only [bindT, Option.bind_eq_some_iff] at e
        obtain ⟨ρ1, e1, e2⟩ := e
        exact ownOk_bind (ownOk_bind h e1) e2
    | _ => cases e
theorem lc2_imp {K : PySem.W.Frag} {vs vs1 : List Nat} {it it1 : EL} {t t1 : Tg} {el : EF} (htg : tgIn vs t = true) (htg1 : tgIn vs1 t1 = true) (hv : ∀ v ∈ vs1, v ∈ vs) : ∀ σ H Q, tL K cm b1 (dComp2 it vs vs1 t it1 t1 el) σ H Q →
    tLc2 (tI K cm b1 it) (tTg K cm (fun i => vs.contains i) t) (tT K cm true dYes) (tI K cm true it1) (tTg K cm (fun i => vs1.contains i) t1) (tT K cm true dYes) (tP K cm true el) vs vs1 σ H Q :=
  fun σ H Q ⟨W, F, ρ, qs, ρ', r, e, k⟩ => by
    simp only [dComp2, Option.bind_eq_some_iff] at e
    obtain ⟨⟨ps, ρ1⟩, e1, e2⟩ := e
    split at e2
    · rename_i hown
      simp only [Option.bind_eq_some_iff] at e2
      obtain ⟨qs', e3, e4⟩ := e2
      split at e4
      · rename_i hz
        cases e4
        dsimp only at hown
        refine ⟨W, F, ρ, ps, ρ1, r, e1, fun J H1 F1 r1 s1 u1 w => fun D hD => ?_⟩
        have WD : W D = none := r1.wh.free hD
        refine ⟨fun i m H2 => m = ps.length - i ∧ i ≤ ps.length ∧ ∃ acc accP F2 rest, R K cm (upd W D (.lst acc)) (L2.wipe σ vs) H2 F2 (wipeR ρ1 vs) ∧ Same F1 F2 ∧ DPs K F2 acc accP ∧
          comp2 vs vs1 t it1 t1 el (wipeR ρ1 vs) (ps.drop i) = some rest ∧ accP ++ rest = qs ∧ Same H1 H2, ⟨ps.length, by simp, Nat.zero_le _, [], [], F1, qs, (r1.wipe _).framed hD, Same.refl _, .nil, (by rw [List.drop_zero]; exact e3), rfl, same_upd hD⟩, ?_⟩
        rintro i m H2 ⟨rfl, hi2, acc, accP, F2, rest, r2, s2, d2, e5, e6, p2⟩
        obtain ⟨wa, wb⟩ := w i F2 H2 s2 r2.fh
        by_cases hlt : i < ps.length
        · right
          obtain ⟨go, yl⟩ := wa ps[i] (List.getElem?_eq_getElem hlt)
          refine ⟨go, fun H' => ∃ acc accP F2 rest, R K cm (upd W D (.lst acc)) (L2.wipe σ vs) H' F2 (wipeR ρ1 vs) ∧ Same F1 F2 ∧ DPs K F2 acc accP ∧
            comp2 vs vs1 t it1 t1 el (wipeR ρ1 vs) (ps.drop (i + 1)) = some rest ∧ accP ++ rest = qs ∧ Same H1 H', fun H' h' => ⟨ps.length - (i + 1), by omega, rfl, hlt, h'⟩, fun x H' y => ?_⟩
          obtain ⟨F3, ⟨st1, st2, st3⟩, dx⟩ := yl x H' y
          rw [List.drop_eq_getElem_cons hlt] at e5
          simp only [comp2, Option.bind_eq_some_iff, Option.map_eq_some_iff] at e5
          obtain ⟨ρb, e7, ⟨qq, ρb'⟩, e8, ys, e9, rs, e10, e11⟩ := e5
          have r3 := st3 _ _ _ _ r2
          refine ⟨_, F3, _, ps[i], ρb, r3, dx, e7, fun σ2 r4 o2 => ⟨wipe_out (by rw [r4.length, ← wipe_length σ, r3.length]; exact bindT_len e7) o2, _, F3, ρb, true, ρb, r4, rfl, fun H4 F4 r5 s5 u5 => ?_⟩⟩
          have hw2 : L2.wipe σ2 vs = L2.wipe σ vs := wipe_out (by rw [r4.length, ← wipe_length σ, r3.length]; exact bindT_len e7) o2
          have okb : ownOk ρb vs1 = true := ownOk_bind (ownOk_wipe ρ1 vs vs1 hv) e7
          obtain ⟨_, sH5⟩ := u5 rfl
          refine iteT ⟨_, F4, ρb, qq, ρb', r5, e8, fun J1 H6 F6 r6 s6 u6 w1 => ?_⟩
          obtain ⟨rfl, sH6⟩ := u6 rfl
          refine ⟨fun j k H7 => k = qq.length - j ∧ j ≤ qq.length ∧ ∃ acc accP F7 yr, R K cm (upd W D (.lst acc)) σ2 H7 F7 ρb' ∧ Same F6 F7 ∧ DPs K F7 acc accP ∧
            ((qq.drop j).mapM fun q => (bindT t1 q (wipeR ρb' vs1)).bind fun ρ2 => (el ρ2).map (·.1)) = some yr ∧ accP ++ (yr ++ rs) = qs ∧ Same H1 H7, ⟨qq.length, by simp, Nat.zero_le _, acc, accP, F6, ys, r6, Same.refl _, DPs.mono d2 ((st1.trans s5).trans s6), (by rw [List.drop_zero]; exact e9), by rw [e11]; exact e6, ((p2.trans st2).trans sH5).trans sH6⟩, ?_⟩
          rintro j k H7 ⟨rfl, hj2, acc, accP, F7, yr, r7, s7, d7, e12, e13, p7⟩
          obtain ⟨w1a, w1b⟩ := w1 j F7 H7 s7 r7.fh
          by_cases hjt : j < qq.length
          · right
            obtain ⟨go1, yl1⟩ := w1a qq[j] (List.getElem?_eq_getElem hjt)
            refine ⟨go1, fun H' => ∃ acc accP F7 yr, R K cm (upd W D (.lst acc)) σ2 H' F7 ρb' ∧ Same F6 F7 ∧ DPs K F7 acc accP ∧
              ((qq.drop (j + 1)).mapM fun q => (bindT t1 q (wipeR ρb' vs1)).bind fun ρ2 => (el ρ2).map (·.1)) = some yr ∧ accP ++ (yr ++ rs) = qs ∧ Same H1 H', fun H' h' => ⟨qq.length - (j + 1), by omega, rfl, hjt, h'⟩, fun x1 H8 y1 => ?_⟩
            obtain ⟨F8, ⟨st4, st5, st6⟩, dx1⟩ := yl1 x1 H8 y1
            rw [List.drop_eq_getElem_cons hjt, List.mapM_cons] at e12
            simp only [Option.pure_def, Option.bind_eq_bind, Option.bind_eq_some_iff, Option.map_eq_some_iff] at e12
            obtain ⟨y0, ⟨ρ2, e14, ⟨y0', ρ2'⟩, e15, rfl⟩, yr', e16, e17⟩ := e12
            cases e17
            have r8 := st6 _ _ _ _ r7
            refine ⟨_, F8, _, qq[j], ρ2, r8.wipe vs1, dx1, e14, fun σ3 r9 o3 => ⟨wipe_out (by rw [r9.length, r8.length, ← wipeR_len ρb' vs1]; exact bindT_len e14) o3, _, F8, ρ2, true, ρ2, r9, rfl, fun H9 F9 r10 s10 u10 => ?_⟩⟩
            have hw3 : L2.wipe σ3 vs1 = L2.wipe σ2 vs1 := wipe_out (by rw [r9.length, r8.length, ← wipeR_len ρb' vs1]; exact bindT_len e14) o3
            obtain ⟨_, sH10⟩ := u10 rfl
            refine iteT ⟨_, F9, ρ2, y0', ρ2', r10, e15, fun v H11 F11 r11 s11 u11 d11 => ?_⟩
            obtain ⟨rfl, sH11⟩ := u11 rfl
            refine ⟨acc, r11.wh D _ upd_same, ?_, acc ++ [v], accP ++ [y0'], F11, yr', ?_, ((s7.trans st4).trans s10).trans s11, (DPs.mono d7 ((st4.trans s10).trans s11)).append (.cons d11 .nil), e16, by rw [List.append_assoc]; exact e13, fun a o q => ?_⟩
            · have e18 := congrArg List.length e13
              simp only [List.length_append, List.length_cons] at e18
              rw [sizeLine_eq, d7.length]
              omega
            · have r12 := (r11.wipe vs1).bump (o' := .lst (acc ++ [v]))
              rw [hw3, bindT_wipe htg1 e14, wipeR_twice] at r12
              have r13 := R.fill r8 ((s10).trans s11) okb (R.unwipe r12)
              rw [fill_wipe _ _ _ (fun v h => h)] at r13
              exact r13
            · rw [upd_ne (ne_of_none q hD)]
              exact sH11 a o (sH10 a o (st5 a o (p7 a o q)))
          · have hj3 : j = qq.length := by omega
            subst hj3
            left
            refine ⟨w1b (Nat.le_refl _), ?_⟩
            rw [List.drop_length] at e12
            cases e12
            have r12 := r7.wipe vs
            rw [hw2, bindT_wipe htg e7, wipeR_twice] at r12
            exact ⟨acc, accP, F7, rs, r12, ((((s2.trans st1).trans s5).trans s6).trans s7), d7, e10, e13, p7⟩
        · have hi3 : i = ps.length := by omega
          subst hi3
          left
          refine ⟨wb (Nat.le_refl _), ?_⟩
          rw [List.drop_length] at e5
          cases e5
          rw [List.append_nil] at e6
          subst e6
          refine k D acc (del H2 D) H2 F2 ?_ (s1.trans s2) (fun h => ?_) d2 del_same (upd_del (r2.wh D _ upd_same)).symm
          · exact R.fill r1 s2 hown (R.unwipe (r2.unframe WD))
          · obtain ⟨p3, p4⟩ := u1 h
            refine ⟨by rw [fill_wipe _ _ _ (fun v h => h), p3], fun a o q => ?_⟩
            have q2 := p4 a o q
            rw [del_ne (ne_of_none q2 hD)]
            exact p2 a o q2
      · cases e4
    · cases e2

theorem l_comp2 {elt tg iter tg1 iter1 : Expr} {scope : Scope} {own : List (Str × Nat)} (vs1 : List Nat) {it it1 : EL} {t t1 : Tg} {el : EF} (hc : X.calm = true) (hN : X.N.Nodup) (ok : BlkOk X.N X.env.scope scope own) (hi : PI X tg iter (tI X.K cm b1 it))
    (hg : ∀ (s : Shared) (H : Hp) (C : Addr) (cl : List (Str × Addr)) (fp : List Addr), PG (X.blk s H scope (compEnvC scope cl C X.env) fp) tg (tTg X.K cm (fun i => (own.map (·.2)).contains i) t))
    (hi1 : ∀ (s : Shared) (H : Hp) (C : Addr) (cl : List (Str × Addr)) (fp : List Addr), PI (X.blk s H scope (compEnvC scope cl C X.env) fp) tg1 iter1 (tI X.K cm true it1))
    (hg1 : ∀ (s : Shared) (H : Hp) (C : Addr) (cl : List (Str × Addr)) (fp : List Addr), PG (X.blk s H scope (compEnvC scope cl C X.env) fp) tg1 (tTg X.K cm (fun i => vs1.contains i) t1))
    (he : ∀ (s : Shared) (H : Hp) (C : Addr) (cl : List (Str × Addr)) (fp : List Addr), PE (X.blk s H scope (compEnvC scope cl C X.env) fp) elt (tP X.K cm true el))
    (htg : tgIn (own.map (·.2)) t = true := by rfl) (htg1 : tgIn vs1 t1 = true := by rfl) (hv : ∀ v ∈ vs1, v ∈ own.map (·.2) := by decide)
    (hs : ∀ x, foldedSetIterable iter X.env x = pure x := by intro _; rfl) (hs1 : ∀ env x, foldedSetIterable iter1 env x = pure x := by intro _ _; rfl) :
    PE X (.ListComp elt [⟨tg, iter, [], 0⟩, ⟨tg1, iter1, [], 0⟩] scope pos) (tL X.K cm b1 (dComp2 it (own.map (·.2)) vs1 t it1 t1 el)) :=
  PE.imp (pe_lc2 hc hN hi ok hv hg (fun _ _ _ _ _ => c_yes) hi1 hg1 (fun _ _ _ _ _ => c_yes) he hs hs1) (lc2_imp htg htg1 hv)
end

/-! ### enumerate of a tuple -/
theorem draws_tuple {prog : Program} {w : World} {A : Around} (hh : A.handled = none) (it l : Addr) (hne : l ≠ it) (items : Array Value) :
    PySem.Draws prog w A it [it, l] items.size (fun i v => items[i]? = some v) (fun i h => h.IsTupleIter it l i ∧ h.IsTuple l items) where
  live := fun _ _ st => let ⟨o, ho, _⟩ := st.1; ⟨o, ho⟩; frame := fun _ _ _ st zhk => ⟨st.1.at fun o e => zhk it (by simp) o e, let ⟨o, ho, r⟩ := st.2; ⟨o, zhk l (by simp) o ho, r⟩⟩
  item := fun i s Q E zhi st zhQ => by
    refine RZ.nextOf_tuple_item st.1 st.2 (x := items[i]) (by simp [zhi]) fun zh' zhit' zhs' => ?_
    exact zhQ _ zh' s.toks (by simp [zhi]) ⟨zhit', let ⟨o, ho, r⟩ := st.2; ⟨o, zhs'.extBut l o hne ho, r⟩⟩ zhs'
  done := fun s Q E st zhE => RZ.nextOf_tuple_end hh st.1 st.2 (by simp) zhE
theorem draws_end {prog : Program} {w : World} {A : Around} (hh : A.handled = none) (it l : Addr) (items : Array Value) (i : Nat) (hx : items[i]? = none) :
    PySem.Draws prog w A it [it, l] i (fun _ _ => False) (fun j h => j = i ∧ h.IsTupleIter it l i ∧ h.IsTuple l items) where
  live := fun _ _ st => let ⟨o, ho, _⟩ := st.2.1; ⟨o, ho⟩
  frame := fun _ _ _ st hk => ⟨st.1, st.2.1.at fun o e => hk it (by simp) o e, let ⟨o, ho, r⟩ := st.2.2; ⟨o, hk l (by simp) o ho, r⟩⟩
  item := fun j s Q E hj st hQ => absurd st.1 (Nat.ne_of_lt hj)
  done := fun s Q E st hE => RZ.nextOf_tuple_end hh st.2.1 st.2.2 hx hE
/-- the tuple at a, each item in a new pair -/
def IteT (K : PySem.W.Frag) (a : Addr) : It :=
  ⟨fun i H => ∃ (xs : List V) (x : V), SqT K H a xs ∧ xs[i]? = some x, fun i H v H' => ∃ T x, v = .ref T ∧ H T = none ∧ H' = upd H T (.tup [.int (i : Nat), x]) ∧ ∀ xs, SqT K H a xs → xs[i]? = some x, fun i H => ∃ xs : List V, SqT K H a xs ∧ xs.length ≤ i⟩
theorem turn_enumT {P : Program} {w : World} {K : PySem.W.Frag} {elts : List Expr} {kk : Nat} {tpos : Pos} (a e it : Addr) :
    Turn P w K (.Tuple elts kk tpos) (IteT K a) [e, it] e (fun i h => (∃ old, IsEnum h e it ((i : Nat) : Int) old) ∧ h.IsTupleIter it a i ∧ e ≠ it ∧ a ≠ e ∧ a ≠ it) where
  mem := by simp
  obj := fun i h st b zhb => by
    obtain ⟨⟨old, zhe⟩, ⟨o, zho, zhc, zhd⟩, _⟩ := st
    have e' : b = e ∨ b = it := by simpa using zhb
    rcases e' with z | z
    · rw [z]; exact ⟨_, zhe, fun v q => nomatch q⟩
    · rw [z]; exact ⟨o, zho, fun v q => by rw [zhd] at q; cases q⟩
  keep := fun i h zh' st k => let ⟨⟨old, zhe⟩, hi, zhne⟩ := st; ⟨⟨old, k e (by simp) _ zhe⟩, hi.at fun o q => k it (by simp) o q, zhne⟩
  item := by
    intro X hP hw hK zhc i pins s σ H E I hf st hg
    subst hP hw hK
    obtain ⟨⟨old, zhe⟩, zhit, zhne, zhae, zhai⟩ := st
    obtain ⟨xs, x, zhq, zhx⟩ := hg
    obtain ⟨its, rv, p, zhz⟩ := I.tuple zhq
    obtain ⟨u, zhu, ru⟩ := rv.get zhx
    have zhel : e < s.heap.objs.size := Heap.lt_size zhe
    have zhil : it < s.heap.objs.size := by obtain ⟨_, q, _⟩ := zhit; exact Heap.lt_size q
    have zhh : X.A.in1.handled = none := I.ok.hd zhc
    have zhlt : i < its.toArray.size := by
      rw [List.size_toArray, ← rv.length]
      exact (List.getElem?_eq_some_iff.mp zhx).1
    refine PySem.wpAny_pyNext_enum_itemD (draws_tuple zhh it a zhai its.toArray) zhe ⟨zhit, show s.heap.IsTuple a its.toArray from p⟩ zhlt zhne (by simp [zhne, Ne.symm zhae]) fun y zh' tk zhy zho zhst zhT zhsz zhk => ?_
    have ey : y = u := by
      have : its[i]? = some y := by simpa using zhy
      rw [zhu] at this
      exact (Option.some.inj
            this).symm
    subst ey
    refine ⟨_, rfl, wpAny_letOwnedTupleGo_enum (s := { s with heap := zh', toks := tk + 1 }) zho fun zh'' zhe' sb => ?_⟩
    have zhT2 : zh''.get? s.heap.objs.size = some { cls := .type "tuple", data := .seq #[.int i tk, y] } := (sb.2 _ (Nat.ne_of_gt zhel)).trans zhT
    have new : ObjOk X.prog X.w (upd H s.heap.objs.size (.tup [.int (i : Nat), x])) zh'' s.heap.objs.size (.tup [.int (i : Nat), x]) :=
      ⟨by show 2 ≤ sizeLine; decide, [.int i tk, y], .cons ⟨_, rfl⟩ (.cons ru .nil), ⟨_, zhT2, rfl, _, rfl⟩⟩
    have I1 : Inv X pins σ (upd H s.heap.objs.size (.tup [.int (i : Nat), x])) { s with heap := zh'', toks := tk + 1 } :=
      I.turnedNew (ch := [e, it]) (fun b ob zhb q => (sb.2 b (fun z => zhb (by simp [z]))).trans (zhk b ob (fun z => zhb (by simp [z])) (fun z => zhb (by simp [z])) q)) hf (Nat.le_refl _) new
    refine ⟨.ref s.heap.objs.size, _, I1, rfl, ⟨_, x, rfl, I.hok.fresh (Nat.le_refl _), rfl, fun ys zhy => by rw [I.tuple_inj zhy zhq]; exact zhx⟩, ⟨⟨y, ?_⟩, zhst.1.at fun o q => (sb.2 it (Ne.symm zhne)).trans q, zhne, zhae, zhai⟩, fun b zhb => ?_⟩
    · have e1 : ((i + 1 : Nat) :
          Int) = (i : Int) + 1 := by omega
      rw [e1]; exact zhe'
    · have zhb' : b < s.heap.objs.size := by
        have e' : b = e ∨ b = it := by simpa using zhb
        rcases e' with z | z
        · rw [z]; exact zhel
        · rw [z]; exact zhil
      rw [upd_ne (Nat.ne_of_lt zhb')]
      exact (hf b zhb).1
  done := by
    intro X hP hw hK zhc i pins s σ H E I hf st hg
    subst hP hw hK
    obtain ⟨⟨old, zhe⟩, zhit, zhne, zhae, zhai⟩ := st
    obtain ⟨xs, zhq, zhx⟩ := hg
    obtain ⟨its, rv, p, zhz⟩ := I.tuple zhq
    obtain ⟨f0, f1, f2, f3,
          f4, f5⟩ := hf it (by simp)
    have zhh : X.A.in1.handled = none := I.ok.hd zhc
    have hl := rv.length
    exact PySem.wpAny_pyNext_enum_endD (draws_end zhh it a its.toArray i (by simp; omega)) zhe ⟨rfl, zhit, show s.heap.IsTuple a its.toArray from p⟩ fun zh' eb => ⟨rfl, I.turned (t' := s.toks) (fun b o zhb q => eb b o zhb q) f0 f1 f3 f4 f5⟩
  self := fun A i s Q E st h => let ⟨⟨_, zhe⟩, _⟩ := st; wpAny_pyIter_enum zhe h

theorem meets_enumT (l : Addr) (items : Array Value) (n : Nat) (dct : Option Addr) (sl : Array (Option Value)) :
    Meets (Builtin.«enumerate.__new__» ⟨[.type "enumerate", .ref l], []⟩) (fun _ R s => s.heap.get? l = some ⟨.type "tuple", dct, .seq items n, sl⟩ ∧
      R (.ok (.ret (.ref (s.heap.push { cls := .type "tuple_iterator", data := .fields #[.ref l, .int 0 0] }).objs.size)))
        { s with heap := (s.heap.push { cls := .type "tuple_iterator", data := .fields #[.ref l, .int 0 0] }).push { cls := .type "enumerate", data := .fields #[.none, .bool false, .ref s.heap.objs.size, rawInt 0, .none, .none] } }) :=
  .of_wp fun prog w A R s h => by
    obtain ⟨zhp, g, d, tk, os⟩ := s
    obtain ⟨zhl, h⟩ := h
    have zhL : Heap.IsTuple (Shared.heap ⟨zhp, g, d, tk, os⟩) l items := ⟨_, zhl, rfl, n, rfl⟩
    have hsub := PySem.sub_enumerate
    wp_walk
    refine wpAny_stack_any fun st => wpAny_pure ?_; split
    · rename_i c _ _ _ _ _
      cases (c ==
            Value.type "enumerate")
      · wp_walk using wpAny_loadPart' zhl, wpAny_pyIter_tuple zhL
        exact ⟨_, rfl, h⟩
      · wp_walk using wpAny_loadPart' zhl, wpAny_pyIter_tuple zhL
        exact ⟨_, rfl, h⟩
    · wp_walk using wpAny_loadPart' zhl, wpAny_pyIter_tuple zhL
      exact ⟨_, rfl, h⟩
end
end HW

namespace HW
open PySem PySem.Spec PyProof.Rows L2
noncomputable section
section
variable {prog : Program} {w : World} {A : Around} {E : Value → Shared → Prop} {s : Shared}
theorem call_enumT {l : Addr} {items : Array Value} {Q : Value → Shared → Prop} (hL : s.heap.IsTuple l items)
    (h : ∀ h', IsEnum h' (s.heap.objs.size + 1) s.heap.objs.size 0 .none → h'.IsTupleIter s.heap.objs.size l 0 → h'.objs.size = s.heap.objs.size + 2 →
      (∀ b o, s.heap.get? b = some o → h'.get? b = some
            o) → Q (.ref (s.heap.objs.size + 1)) { s with heap := h' }) :
    wpAny (model prog w) A (call (.type
          "enumerate") [.ref l]) Q E s := by
  obtain ⟨⟨c, dct, dt, sl⟩, zhl, zhc, n, zhd⟩ := hL
  replace zhc : c = .type "tuple" := zhc
  replace zhd : dt = .seq items n := zhd
  subst zhc zhd
  refine callType_new F.called_enumerate (by decide) (F.typeCall_enumerate_1
        _) (F.newCall_enumerate_1 _) (fun obj => F.args_object_init_2 obj _) F.entry_enumerate_new
    (meets_enumT l items n dct sl) ⟨zhl, ?_⟩
  have zhz : (s.heap.push { cls := .type "tuple_iterator", data := .fields #[.ref l, .int 0 0] }).objs.size = s.heap.objs.size + 1 := Heap.size_push ..
  show _ ∧ _
  rw [zhz]
  have zhe : IsEnum ((s.heap.push { cls := .type "tuple_iterator", data := .fields #[.ref l, .int 0 0] }).push
      { cls := .type "enumerate", data := .fields #[.none, .bool false, .ref s.heap.objs.size,
            rawInt 0, .none, .none] }) (s.heap.objs.size + 1) s.heap.objs.size 0 .none := by
    have := Heap.get?_push_size (s.heap.push { cls := .type "tuple_iterator", data := .fields #[.ref l, .int 0 0] })
      (o := { cls := .type "enumerate", data := .fields #[.none,
            .bool false, .ref s.heap.objs.size, rawInt 0, .none, .none] }) rfl
    rw [zhz] at this; exact this
  refine ⟨⟨_, zhe, rfl⟩, h _ zhe ⟨_, Heap.get?_push_of_some _ (Heap.get?_push_size _ rfl), rfl, rfl⟩ (by rw [Heap.size_push, zhz]) fun b o x => Heap.get?_push_of_some _ (Heap.get?_push_of_some _ x)⟩
end
theorem walk_enumT {K : PySem.W.Frag} {F : Hp} {ad : Addr} {vs : List V} {ps : List P} (h : SqT K F ad vs) (d : DPs K F vs ps) : WalkD K F (IteT K ad) (enumL 0 ps) := fun i F1 H s1 s2 => by
  have hq : SqT K H ad vs := SqT.mono (SqT.mono h s1) s2
  refine ⟨fun p hp => ?_, fun hl => ⟨vs, hq, by rw [DPs.length d]; rw [enumL_len] at hl; exact hl⟩⟩
  obtain ⟨p0, h0, rfl⟩ := enumL_get hp
  obtain ⟨v, hv, dv⟩ := DPs.get d h0
  refine ⟨⟨vs, v, hq, hv⟩, fun x H' y => ?_⟩
  obtain ⟨T, x0, rfl, hT, rfl, y⟩ := y
  have e : x0 = v := Option.some.inj ((y vs hq).symm.trans hv)
  subst e
  refine ⟨upd F1 T (.tup [.int (i : Nat), x0]), Stp.laid s2 hT, ?_⟩
  rw [Nat.zero_add]
  exact laid_tup (σ := []) (H := H) (ρ := []) (.cons (.int _) (.cons (DP.mono dv s1) .nil)) (s2.free hT)
/-! enumerate of a text -/
def draws_str {prog : Program} {w : World} {A : Around} (hh : A.handled = none) (it : Addr) (x : Str) (t : Tok) :
    PySem.Draws prog w A it [it] x.cps.size (fun i v => ∃ c u, x.cps[i]? = some c ∧ v = .str ⟨#[c]⟩ u) (fun i h => h.IsStrIter it (strIterType x) x t i) := by
  unfold strIterType
  cases ha : x.cps.all (·
        < 128)
  · exact PySem.Draws.strWide hh it x t
  · exact PySem.Draws.strAscii hh it x t
theorem draws_strEnd {prog : Program} {w : World} {A : Around} (hh : A.handled = none) (it : Addr) (x : Str) (t : Tok) (i : Nat) (hx : x.cps[i]? = none) :
    PySem.Draws prog w A it [it] i (fun _ _ => False) (fun j h => j = i ∧ h.IsStrIter it (strIterType x) x t i) where
  live := fun _ _ st => let ⟨o, ho, _⟩ := st.2; ⟨o, ho⟩
  frame := fun _ _ _ st hk => ⟨st.1, let ⟨o, ho, r⟩ := st.2; ⟨o, hk it (by simp) o ho, r⟩⟩
  item := fun j s Q E hj st hQ => absurd st.1 (Nat.ne_of_lt hj)
  done := fun s Q E st hE => by
    have h2 := st.2
    unfold strIterType at h2
    cases ha : x.cps.all (·
          < 128)
    · rw [ha] at h2; exact PySem.wpAny_nextOf_wide_end hh h2 hx hE
    · rw [ha] at h2; exact PySem.wpAny_nextOf_ascii_end hh h2 hx hE
def IteS (x : Str) : It :=
  ⟨fun i _ => i < x.cps.size, fun i H v H' => ∃ T c, x.cps[i]? = some c ∧ v = .ref T ∧ H T = none ∧ H' = upd H T (.tup [.int (i : Nat), .str ⟨#[c]⟩]), fun i _ => x.cps.size ≤ i⟩
theorem turn_enumS {P : Program} {w : World} {K : PySem.W.Frag} {elts : List Expr} {kk : Nat} {tpos : Pos} (x : Str) (t : Tok) (e it : Addr) :
    Turn P w K (.Tuple elts kk tpos) (IteS x) [e, it] e (fun i h => (∃ old, IsEnum h e it ((i : Nat) : Int) old) ∧ h.IsStrIter it (strIterType x) x t i ∧ e ≠ it) where
  mem := by simp
  obj := fun i h st b zhb => by
    obtain ⟨⟨old, zhe⟩, ⟨o, zho, zhc, zhd⟩, _⟩ := st
    have e' : b = e ∨ b = it := by simpa using zhb
    rcases e' with z | z
    · rw [z]; exact ⟨_, zhe, fun v q => nomatch q⟩
    · rw [z]; exact ⟨o, zho, fun v q => by rw [zhd] at q; cases q⟩
  keep := fun i h zh' st k => let ⟨⟨old, zhe⟩, ⟨o, zho, r⟩, zhne⟩ := st; ⟨⟨old, k e (by simp) _ zhe⟩, ⟨o, k it (by simp) o zho, r⟩, zhne⟩
  item := by
    intro X hP hw hK zhc i pins s σ H E I hf st hg
    subst hP hw hK
    obtain ⟨⟨old, zhe⟩, zhit, zhne⟩ := st
    have zhlt : i < x.cps.size := hg
    have zhel : e < s.heap.objs.size := Heap.lt_size zhe
    have zhil : it < s.heap.objs.size := by obtain ⟨_, q, _⟩ := zhit; exact Heap.lt_size q
    have zhh : X.A.in1.handled = none := I.ok.hd zhc
    refine PySem.wpAny_pyNext_enum_itemD (draws_str zhh it x t) zhe zhit zhlt zhne (by simp [zhne]) fun y zh' tk ⟨c, u, zhx, zhy⟩ zho zhst zhT zhsz zhk => ?_
    subst zhy
    refine ⟨_, rfl, wpAny_letOwnedTupleGo_enum (s := { s with heap := zh', toks := tk + 1 }) zho fun zh'' zhe' sb => ?_⟩
    have zhT2 : zh''.get? s.heap.objs.size = some { cls := .type "tuple", data := .seq #[.int i tk, .str ⟨#[c]⟩ u] } := (sb.2 _ (Nat.ne_of_gt zhel)).trans zhT
    have new : ObjOk X.prog X.w (upd H s.heap.objs.size (.tup [.int (i : Nat), .str ⟨#[c]⟩])) zh'' s.heap.objs.size (.tup [.int (i : Nat), .str ⟨#[c]⟩]) :=
      ⟨by show 2 ≤ sizeLine; decide, [.int i tk, .str ⟨#[c]⟩ u], .cons ⟨_, rfl⟩ (.cons ⟨u, rfl⟩ .nil), ⟨_, zhT2, rfl, _, rfl⟩⟩
    have I1 : Inv X pins σ (upd H s.heap.objs.size (.tup [.int (i : Nat), .str ⟨#[c]⟩])) { s with heap := zh'', toks := tk + 1 } :=
      I.turnedNew (ch := [e, it]) (fun b ob zhb q => (sb.2 b (fun z => zhb (by simp [z]))).trans (zhk b ob (fun z => zhb (by simp [z])) (fun z => zhb (by simp [z])) q)) hf (Nat.le_refl _) new
    refine ⟨.ref s.heap.objs.size, _, I1, rfl, ⟨_, c, zhx, rfl, I.hok.fresh (Nat.le_refl _), rfl⟩, ⟨⟨.str ⟨#[c]⟩ u, ?_⟩, let ⟨o, zho, r⟩ := zhst; ⟨o, (sb.2 it (Ne.symm zhne)).trans zho, r⟩, zhne⟩, fun b zhb => ?_⟩
    · have e1 : ((i + 1 : Nat) :
          Int) = (i : Int) + 1 := by omega
      rw [e1]; exact zhe'
    · have zhb' : b < s.heap.objs.size := by
        have e' : b = e ∨ b = it := by simpa using zhb
        rcases e' with z | z
        · rw [z]; exact zhel
        · rw [z]; exact zhil
      rw [upd_ne (Nat.ne_of_lt zhb')]
      exact (hf b zhb).1
  done := by
    intro X hP hw hK zhc i pins s σ H E I hf st hg
    subst hP hw hK
    obtain ⟨⟨old, zhe⟩, zhit, zhne⟩ := st
    have zhge : x.cps.size ≤ i := hg
    obtain ⟨f0, f1, f2, f3,
          f4, f5⟩ := hf it (by simp)
    have zhh : X.A.in1.handled = none := I.ok.hd zhc
    exact PySem.wpAny_pyNext_enum_endD (draws_strEnd zhh it x t i (by simp; omega)) zhe ⟨rfl, zhit⟩ fun zh' eb => ⟨rfl, I.turned (t' := s.toks) (fun b o zhb q => eb b o zhb q) f0 f1 f3 f4 f5⟩
  self := fun A i s Q E st h => let ⟨⟨_, zhe⟩, _⟩ := st; wpAny_pyIter_enum zhe h
theorem walk_enumS {K : PySem.W.Frag} {F : Hp} (x : Str) : WalkD K F (IteS x) (enumL 0 (signs x)) := fun i F1 H s1 s2 => by
  refine ⟨fun p hp => ?_, fun hl => (show x.cps.size ≤ i by rw [enumL_len] at hl; simpa [signs] using hl)⟩
  obtain ⟨p0, h0, rfl⟩ := enumL_get hp
  unfold signs at h0
  rw [List.getElem?_map] at h0
  obtain ⟨c, hc, rfl⟩ := Option.map_eq_some_iff.mp h0
  have hc' : x.cps[i]? = some c := by simpa using hc
  refine ⟨(Array.getElem?_eq_some_iff.mp hc').1, fun v H' y => ?_⟩
  obtain ⟨T, c', e1, rfl, hT, rfl⟩ := y
  rw [hc'] at e1
  cases e1
  refine ⟨upd F1 T (.tup [.int (i : Nat), .str ⟨#[c]⟩]), Stp.laid s2 hT, ?_⟩
  rw [Nat.zero_add]
  exact laid_tup (σ := []) (H := H) (ρ := []) (.cons (.int _) (.cons (.str _) .nil)) (s2.free hT)
/-- enumerate of a list, a tuple, a text -/
def enumAP : List P → Option (List P)
  | [p] => (itP p).map (enumL 0)
  | _ => none
theorem i_enumA {X : Cx} {cm : Str → Addr → Prop} {b : Bool} {a : Expr} {pos : Pos} {p tpos : Pos} {elts : List Expr} {kk : Nat} {f : EL} (hm : MgN X "enumerate") (ha : PA X [a] (tA X.K cm b f)) (hg : Gl X "enumerate" := by rfl) (hs : starEach [a] X.env = [(false, eval a X.env)] := by rfl) : PI X (.Tuple elts kk tpos) (.Call (.Name "enumerate" p) [a] [] pos) (tI X.K cm b (dItA enumAP f)) := by
  refine ⟨fun pins s σ H Rk I ⟨W, F, ρ, ps, ρ', r, e, k⟩ => ?_⟩
  simp only [dItA, Option.bind_eq_some_iff, Option.map_eq_some_iff] at e
  obtain ⟨⟨p1, ρ1⟩, e1, ys, e2, e3⟩ := e
  cases e3
  refine Call_ (ld_blt I hg hm boot_enumerate (PyProof.Rows.callWith_type1 (thn (ha.run pos pins s σ H (fun vs H' => ∃ F', R X.K cm W σ H' F' ρ1 ∧ Same F F' ∧ Pu b ρ ρ1 H H' ∧ DPs X.K F' vs p1) I ⟨W, F, ρ, p1, ρ1, r, e1, fun vs H1 F1 r1 s1 u1 d1 => ⟨F1, r1, s1, u1, d1⟩⟩) fun us s1 ⟨vs, H1, I1, rx, F1, r1, ss1, u1, d1⟩ => ?_) hs rfl))
  have e2 : enumAP p1 = some _ := e2
  unfold enumAP at e2
  split at e2
  · rename_i pp
    obtain ⟨zs, e4, rfl⟩ := Option.map_eq_some_iff.mp e2
    obtain ⟨v, rfl, dv⟩ := one_of d1
    have fin : ∀ {it : Addr} {zh' : Heap} (b : Addr), b ∈ [s1.heap.objs.size + 1, s1.heap.objs.size] → FpOk X pins H1 b := fun b zhb => by
      have e' : b = s1.heap.objs.size + 1 ∨ b = s1.heap.objs.size := by simpa using zhb
      have zhle : s1.heap.objs.size ≤ b := by
        rcases e' with z | z
        · rw [z]; exact Nat.le_add_right _ _
        · rw [z]; exact Nat.le_refl _
      exact I1.fpOk zhle (I1.hok.fresh zhle)
    cases dv with
    | lst h1 h2 =>
      cases e4
      rw [Vals.ref1 rx]
      obtain ⟨its, rv, p', zhz⟩ := I1.list ((LK.mono h1 r1.fh).seq)
      refine call_enumerate_list p'.isList fun zh' zhe zhit zhsz zhk => wpAny_pyIter_enum zhe ?_
      have I2 : Inv X pins σ H1 { s1 with heap := zh' } := I1.kept (t' := s1.toks) zhk
      exact ⟨s1.heap.objs.size + 1, [s1.heap.objs.size + 1, s1.heap.objs.size], _, _, H1, rfl, I2, turn_enum _ (s1.heap.objs.size + 1) s1.heap.objs.size, ⟨⟨.none, zhe⟩, zhit, Nat.succ_ne_self _⟩, fun b zhb => fin (it := b) (zh' := zh') b zhb, k _ H1 F1 r1 ss1 u1 (walk_enum h1 h2)⟩
    | tup h1 h2 =>
      cases e4
      rw [Vals.ref1 rx]
      obtain ⟨its, rv, p', zhz⟩ := I1.tuple (SqT.mono h1 r1.fh)
      have zhlt : _ < s1.heap.objs.size := let ⟨o, ho, _⟩ := id p'; Heap.lt_size ho
      refine call_enumT (show s1.heap.IsTuple _ its.toArray from p') fun zh' zhe zhit zhsz zhk => wpAny_pyIter_enum zhe ?_
      have I2 : Inv X pins σ H1 { s1 with heap := zh' } := I1.kept (t' := s1.toks) zhk
      exact ⟨s1.heap.objs.size + 1, [s1.heap.objs.size + 1, s1.heap.objs.size], _, _, H1, rfl, I2, turn_enumT _ (s1.heap.objs.size + 1) s1.heap.objs.size, ⟨⟨.none, zhe⟩, zhit, Nat.succ_ne_self _, Nat.ne_of_lt (Nat.lt_succ_of_lt zhlt), Nat.ne_of_lt zhlt⟩, fun b zhb => fin (it := b) (zh' := zh') b zhb, k _ H1 F1 r1 ss1 u1 (walk_enumT h1 h2)⟩
    | str x =>
      cases e4
      obtain ⟨u, rfl, ru⟩ := vals1 rx
      obtain ⟨t, rfl⟩ := ru
      refine call_enumerate_str fun zh' zhe zhit zhsz zhk => wpAny_pyIter_enum zhe ?_
      have I2 : Inv X pins σ H1 { s1 with heap := zh' } := I1.kept (t' := s1.toks) zhk
      exact ⟨s1.heap.objs.size + 1, [s1.heap.objs.size + 1, s1.heap.objs.size], _, _, H1, rfl, I2, turn_enumS x t (s1.heap.objs.size + 1) s1.heap.objs.size, ⟨⟨.none, zhe⟩, zhit, Nat.succ_ne_self _⟩, fun b zhb => fin (it := b) (zh' := zh') b zhb, k _ H1 F1 r1 ss1 u1 (walk_enumS x)⟩
    | _ => cases e4
  · cases e2
end
end HW

namespace HW
open PySem PySem.Spec PyProof.Rows L2
noncomputable section

theorem hu_room {k : Nat} {A : Around} (r : Room k A) : A.units + 150 < cLine := by have := r.un; omega
/-- a def that gives frozen data -/
def spQ (K : PySem.W.Frag) (cm : Str → Addr → Prop) (n : Nat) (g : List P → Option P) : Sp := fun vs H Q _ => vs.length = n ∧ ∃ F ps p, Same F H ∧ DPs K F vs ps ∧ g ps = some p ∧
  ∀ v H' F', R K cm (rest F H) [some v] H' F' [.pd p] → Same F F' → Q v H'
def runQ (np n : Nat) (f : SF) (ps : List P) : Option P := if ps.length = np then match runP n f ps with
  | some d => frz d
  | _ => none else none
section
variable {P : Program} {w : World} {K : PySem.W.Frag} {mg : Str → Option Value} {base : Heap} {cm : Str → Addr → Prop} {k : Nat} {x qual : Str} {st : Stmt} {fa : Addr} {fd : FuncData} {N ps : List Str} {f : SF}
theorem fn_Q (np : Nat) (G : L2.Fun K x qual st fa fd) (S : FnScope N ps (defScope st)) (hn : ps.length = np)
    (hb : ∀ (cdv : Value) (A : Around) (outer : List Env) (s : Shared) (H : Hp) (E : XK), Room k (A.deeper (envOfC qual (defScope st) s.heap.objs.size fa cdv)) →
      PSs (cxOf CX0 P w K mg base N qual (defScope st) fa cdv A outer s H E).nox (defBody st) (tS K cm asAll f)) : FnOk P w K mg base CX0 (k + 1) fa fd ps (spQ K cm np (runQ np N.length f)) :=
  (fn_P G S hb).imp fun vs H Q E ⟨hl, F, qs, p, fh, dd, e, k⟩ => by
    unfold runQ at e
    split at e
    · split at e
      · rename_i d e1
        refine ⟨hl.trans hn.symm, F, qs, d, fh, dd, e1, fun v H' F' r s => ?_⟩
        obtain ⟨F2, s2, d2, r2⟩ := r.freeze e
        exact k v H' F2 r2 (s.trans s2)
      · cases e
    · cases e
end
section
variable {X : Cx} {cm : Str → Addr → Prop} {b : Bool} {k : Nat} {x : Str} {ps : List Str} {p pos : Pos} {e : Expr} {es : List Expr} {f : EL} {n : Nat}
def dCallN (n : Nat) (g : List P → Option P) (f : EL) : EF := fun ρ => (f ρ).bind fun x => if x.1.length = n then (g x.1).map fun d => (d, x.2) else none
theorem x_callQ {g : List P → Option P} (h : HasFn X.prog X.w X.K X.mg X.base k x ps (spQ X.K cm n g)) (hr : Room k X.A) (ha : PA X (e :: es) (tA X.K cm b f)) (hg : Gl X x := by rfl) (hdb : (x == ("__debug__" : Str)) = false := by decide)
    (he : starEach (e :: es) X.env = (false, eval e X.env) :: starEach es X.env := by rfl) (hpl : (backTo pos (starEach es X.env)).any (·.1) = false := by rfl) :
    PE X (.Call (.Name x p) (e :: es) [] pos) (tP X.K cm b (dCallN n g f)) := by
  obtain ⟨fa, fdd, ok, hm, hk, hb⟩ := h.ex
  refine HW.PE.imp (pe_call ok hr hg hm hk hb .nil (E := E0) pass0 ha hdb he hpl) fun σ H Q ⟨W, F, ρ, d, ρ', r, e, k⟩ => ?_
  simp only [dCallN, Option.bind_eq_some_iff] at e
  obtain ⟨⟨ps', ρ1⟩, e1, e2⟩ := e
  split at e2
  · rename_i hn
    obtain ⟨d', e3, e4⟩ := Option.map_eq_some_iff.mp e2
    cases e4
    refine ⟨W, F, ρ, ps', _, r, e1, fun vs H1 F1 r1 s1 u1 d1 => ⟨by rw [List.append_nil, d1.length]; exact hn, F1, ps', d, r1.fh, by rw [List.append_nil]; exact d1, e3, fun v H' F' r' s' => ?_⟩⟩
    obtain ⟨r2, s2⟩ := r1.call r' s'
    refine k v H' F' r2.tail (s1.trans s') (u1.then s2) ?_
    obtain ⟨v', h1, h2⟩ := r2.get (i := 0) rfl
    cases h1
    exact h2
  · cases e2
/-- a call whose first argument may change -/
def dMFr (f : ED) : EF := dFr f
/-- a value that is a bool, as a test's outcome -/
def dBl (f : EF) : EB := fun ρ => (f ρ).bind fun x => match x.1 with
  | .bool c => some (c, x.2)
  | _ => none
theorem x_toB {f : EF} (h : PE X e (tP X.K cm b f)) : PE X e (tP X.K cm b (dB (dBl f))) :=
  HW.PE.imp h fun σ H Q ⟨W, F, ρ, p, ρ', r, e, k⟩ => by
    obtain ⟨⟨c, ρ1⟩, e1, e2⟩ := Option.map_eq_some_iff.mp e
    cases e2
    simp only [dBl, Option.bind_eq_some_iff] at e1
    obtain ⟨⟨q, ρ2⟩, e3, e4⟩ := e1
    split at e4
    · rename_i c' hc
      cases e4
      dsimp only at hc
      subst hc
      exact ⟨W, F, ρ, _, _, r, e3, k⟩
    · cases e4
end
theorem HasFn.mk' {P : Program} {w : World} {K : PySem.W.Frag} {mg : Str → Option Value} {base : Heap} {k : Nat} {x y qual : Str} {st : Stmt} {fa : Addr} {fd : FuncData} {ps : List Str} {sp : Sp} (G : L2.Fun K y qual st fa fd) (ok : FnOk P w K mg base CX0 k fa fd ps sp) (hm : mg x = some (.ref fa)) (hb : Binds K fd ps []) : HasFn P w K mg base k x ps sp :=
  ⟨fa, fd, ok, hm, G.kp, hb⟩
end
end HW

namespace HW
open PySem PySem.Spec PyProof.Rows L2
noncomputable section
/-- the built-in names are the built-in things -/
structure Bs (mg : Str → Option Value) : Prop where
  any : mg "any" = none
  all : mg "all" = none
  abs : mg "abs" = none
  enumerate : mg "enumerate" = none
  int : mg "int" = none
  len : mg "len" = none
  list : mg "list" = none
  max : mg "max" = none
  min : mg "min" = none
  range : mg "range" = none
  set : mg "set" = none
  sorted : mg "sorted" = none
  sum : mg "sum" = none
  tuple : mg "tuple" = none
  zip : mg "zip" = none

section
variable {X : Cx} {cm : Str → Addr → Prop} {b : Bool} {p p2 q pos : Pos} {e : Expr} {f : EF}
/-- list(range(n)) -/
def rngLP : P → Option (List P)
  | .int n => @ite _ (-(2 ^ 62) ≤ n ∧ n < 16777216) (Classical.propDecidable _) (some (rngL 0 n.toNat)) none
  | _ => none
theorem DPs.rngV {K : PySem.W.Frag} {F : Hp} (j : Int) : ∀ n : Nat, DPs K F ((List.range n).map fun i => V.int (j + (i : Nat))) ((List.range n).map fun (i : Nat) => .int (j + (i : Int))) := fun n => by
  generalize List.range n = l
  induction l with
  | nil => exact .nil
  | cons x l ih => exact .cons (.int _) ih
def dLR (f : EF) : EL := fun ρ => (f ρ).bind fun x => (rngLP x.1).map fun y => (y, x.2)
theorem l_listR (hm : MgN X "list") (hm2 : MgN X "range") (ha : PE X e (tP X.K cm b f)) (hc : X.calm = true := by rfl) (hg : Gl X "list" := by rfl) (hg2 : Gl X "range" := by rfl)
    (h1 : starEach [e] X.env = (false, eval e X.env) :: starEach [] X.env := by rfl) : PE X (.Call (.Name "list" p) [.Call (.Name "range" p2) [e] [] q] [] pos) (tL X.K cm b (dLR f)) :=
  PE.imp (pe_listRg hc hg hm (prg_1 hg2 hm2 ha (na := h1))) fun σ H Q ⟨W, F, ρ, zs, ρ', r, e0, k⟩ => by
    simp only [dLR, Option.bind_eq_some_iff, Option.map_eq_some_iff] at e0
    obtain ⟨⟨p1, ρ1⟩, e1, z, e2, e3⟩ := e0
    cases e3
    refine ⟨W, F, ρ, p1, ρ1, r, e1, fun v H1 F1 r1 s1 u1 d1 => ?_⟩
    have e2 : rngLP p1 = some _ := e2
    unfold rngLP at e2
    split at e2
    · rename_i n _
      split at e2
      · rename_i hn
        cases e2
        cases d1
        refine ⟨n, rfl, ⟨by omega, by omega, by omega, by omega, by omega⟩, fun l hl => ?_⟩
        have d := DPs.rngV (K := X.K) (F := F1) 0 n.toNat
        have e4 : rgV 0 n = (List.range n.toNat).map fun i => V.int (0 + (i : Nat)) := by unfold rgV; rw [Int.sub_zero]
        rw [e4]
        exact k l _ H1 _ F1 r1 s1 u1 d hl rfl
      · cases e2
    · cases e2
end
end
end HW

namespace HW
open PySem PySem.Spec PyProof.Rows L2
noncomputable section
/-- an item of a slot that is owned or frozen -/
def dGetA (i : Nat) (g : EF) : EF := fun ρ => match ρ[i]? with
  | some (.pd _) => dBin idxP (dV i) g ρ
  | _ => dGetO i g ρ
theorem x_getA {X : Cx} {cm : Str → Addr → Prop} {b : Bool} {pos : Pos} {x : Str} {ix : Expr} {p : Pos} {g : EF} (i : Nat) (hi : PE X ix (tP X.K cm b g)) (hN : X.N[i]? = some x := by rfl) (hv : Vis X.env.scope x := by first | exact Or.inl rfl | exact Or.inr (Or.inl rfl) | exact Or.inr (Or.inr rfl)) (hd : (x == ("__debug__" : Str)) = false := by decide)
    (hcd : (x == ("__classdict__" : Str)) = false := by decide) (hp : PlainIx ix := by exact fun _ _ => rfl) : PE X (.Subscript (.Name x p) ix pos) (tP X.K cm b (dGetA i g)) :=
  HW.PE.imp (pe_ix ix_seq (pe_var hN hv hd hcd) hi hp) fun σ H Q ⟨W, F, ρ, q, ρ', r, e, k⟩ => by
    unfold dGetA at e
    split at e
    · rename_i pp h0
      obtain ⟨v, h1, h2⟩ := r.get h0
      simp only [dBin, Option.bind_eq_some_iff, Option.map_eq_some_iff] at e
      obtain ⟨⟨p1, ρ1⟩, e1, ⟨p2, ρ2⟩, e2, z, e3, e4⟩ := e
      cases e4
      obtain ⟨e5, rfl⟩ := dV_some e1
      rw [h0] at e5
      cases e5
      refine ⟨v, h1, W, F, ρ1, p2, _, r, e2, fun u H2 F2 r2 s2 u2 d2 => ?_⟩
      exact vop_idx r2 (DP.mono h2 s2) d2 e3 fun w H' F' r3 s3 s4 d3 => k w H' F' r3 (s2.trans s3) (u2.then s4) d3
    · simp only [dGetO, Option.bind_eq_some_iff] at e
      obtain ⟨⟨pk, ρ1⟩, e1, e2⟩ := e
      split at e2
      · rename_i k' ds e3 h4
        dsimp only at e3
        subst e3
        split at e2
        · rename_i pp h5
          split at e2
          · rename_i h0
            cases e2
            obtain ⟨ds0, h0⟩ := someL_is h0
            obtain ⟨a0, vs0, fp0, h1, h2, h3⟩ := r.seeL h0
            refine ⟨_, h1, W, F, ρ, _, ρ1, r, e1, fun kv H1 F1 r1 s1 u1 d1 => ?_⟩
            cases d1
            obtain ⟨a, vs, fp, h6, h7, h8⟩ := r1.seeL h4
            rw [h1] at h6
            cases h6
            unfold atI at h5
            obtain ⟨j, h9, h10⟩ := Option.bind_eq_some_iff.mp h5
            obtain ⟨v, g', h11, h12, _⟩ := h8.get h10
            refine .inl ⟨_, vs, k', v, rfl, rfl, .inl (.inl h7), ?_, k v H1 F1 r1 s1 u1 (by cases h12 with | pd d => exact d)⟩
            unfold atI
            rw [h8.length, h9]
            exact h11
          · cases e2
        · cases e2
      · cases e2
def enumZP : List P → Option (List P)
  | [.list xs, .list ys] => some (enumL 0 (zipL xs ys))
  | _ => none
end
end HW

namespace HW
open PySem PySem.Spec PyProof.Rows L2
noncomputable section
/-! ### laws for reckoning readings -/
@[simp] theorem frzs_pds : ∀ xs : List P, frzs (pds xs) = some xs
  | [] => by simp [pds, frzs]
  | x :: xs => by
    have := frzs_pds xs
    simp only [pds, List.map_cons, frzs, frz] at this ⊢
    rw [this]; rfl
@[simp] theorem frz_pd (p : P) : frz (.pd p) = some p := by simp [frz]
@[simp] theorem frz_olD (ds : List D) : frz (.ol ds) = (frzs ds).map .list := by simp [frz]
@[simp] theorem frzs_nil : frzs [] = some [] := by simp [frzs]
@[simp] theorem frzs_cons (p : P) (ds : List D) : frzs (.pd p :: ds) = (frzs ds).map (p :: ·) := by simp [frzs]
theorem pds_app (xs ys : List P) : pds (xs ++ ys) = pds xs ++ pds ys := by simp [pds]
@[simp] theorem pds_nil : pds [] = [] := rfl
theorem pds_snoc (xs : List P) (p : P) : pds xs ++ [.pd p] = pds (xs ++ [p]) := by simp [pds]
@[simp] theorem pds_len (xs : List P) : (pds xs).length = xs.length := by simp [pds]
@[simp] theorem map_pd_pds (xs : List P) : xs.map D.pd = pds xs := rfl
theorem ixN_nat {n k : Nat} (h : k < n) : ixN n (k : Int) = some k := by
  unfold ixN
  rw [if_pos (by omega), if_pos (by omega)]
  simp
theorem ixN_neg {n k : Nat} (h1 : 1 ≤ k) (h : k ≤ n) : ixN n (-(k : Int)) = some (n - k) := by
  unfold ixN
  rw [if_neg (by omega), if_pos (by omega)]
  congr 1
  omega
@[simp] theorem ixN_last (n : Nat) : ixN (n + 1) (-1) = some n := by simpa using ixN_neg (n := n + 1) (k := 1) (by omega) (by omega)
theorem atI_natP {α : Type} {xs : List α} {k : Nat} {x : α} (h : xs[k]? = some x) : atI xs (k : Int) = some x := L2.atI_nat h
@[simp] theorem atI_lastP {α : Type} (xs : List α) (x : α) : atI (xs ++ [x]) (-1) = some x := L2.atI_last xs x
@[simp] theorem atI_zero {α : Type} (x : α) (xs : List α) : atI (x :: xs) 0 = some x := atI_natP (k := 0) rfl
@[simp] theorem atI_one {α : Type} (x y : α) (xs : List α) : atI (x :: y :: xs) 1 = some y := atI_natP (k := 1) rfl
@[simp] theorem atI_two {α : Type} (x y z : α) (xs : List α) : atI (x :: y :: z :: xs) 2 = some z := atI_natP (k := 2) rfl
@[simp] theorem atI_three {α : Type} (x y z u : α) (xs : List α) : atI (x :: y :: z :: u :: xs) 3 = some u := atI_natP (k := 3) rfl
@[simp] theorem set_snoc {α : Type} (xs : List α) (x y : α) : (xs ++ [x]).set xs.length y = xs ++ [y] := by simp
@[simp] theorem depth_int (i : Int) : (PyData.int i).depth = 0 := by simp [PyData.depth]
@[simp] theorem depth_str (i : Str) : (PyData.str i).depth = 0 := by simp [PyData.depth]
@[simp] theorem depth_bool (i : Bool) : (PyData.bool i).depth = 0 := by simp [PyData.depth]
@[simp] theorem depth_none : (PyData.none).depth = 0 := by simp [PyData.depth]
theorem depthAll_le {xs : List P} {n : Nat} (h : ∀ x ∈ xs, x.depth ≤ n) : PyData.depthAll xs ≤ n := by
  induction xs with
  | nil => simp [PyData.depthAll]
  | cons x xs ih =>
    simp only [PyData.depthAll]
    have := h x (by simp)
    have := ih fun y hy => h y (by simp [hy])
    omega
theorem shal_of {p q : P} (h : p.depth ≤ 100) : shal p q = true := by
  unfold shal
  exact Nat.ble_eq_true_of_le (Nat.le_trans (Nat.min_le_left _ _) h)
theorem shal_of' {p q : P} (h : q.depth ≤ 100) : shal p q = true := by
  unfold shal
  exact Nat.ble_eq_true_of_le (Nat.le_trans (Nat.min_le_right _ _) h)
@[simp] theorem eqP_int (i j : Int) : eqP (.int i) (.int j) = some (decide (i = j)) := by
  unfold eqP
  rw [shal_of (by simp)]
  simp only [PyData.eqv, if_true]
  rfl
@[simp] theorem eqP_str (i j : Str) : eqP (.str i) (.str j) = some (decide (i = j)) := by
  unfold eqP
  rw [shal_of (by simp)]
  simp only [PyData.eqv, if_true]
  rfl
@[simp] theorem ltP_int (i j : Int) : ltP (.int i) (.int j) = some (decide (i < j)) := rfl
@[simp] theorem gtP_int (i j : Int) : gtP (.int i) (.int j) = some (decide (j < i)) := rfl
@[simp] theorem leP_int (i j : Int) : leP (.int i) (.int j) = some (decide (i ≤ j)) := rfl
@[simp] theorem geP_int (i j : Int) : geP (.int i) (.int j) = some (decide (j ≤ i)) := rfl

@[simp] theorem frzs_app (a b : List P) : frzs (pds a ++ pds b) = some (a ++ b) := by rw [← pds_app]; simp
@[simp] theorem frzs_app1 (a : List P) (b : P) : frzs (pds a ++ [.pd b]) = some (a ++ [b]) := by rw [pds_snoc]; simp
@[simp] theorem isEmpty_snoc {α : Type} (a : List α) (b : α) : (a ++ [b]).isEmpty = false := by simp
@[simp] theorem pds_cons (a : P) (b : List P) : pds (a :: b) = .pd a :: pds b := rfl
/-! what each word reckons -/
section
variable {ρ : Sl} {i j l n : Nat} {f f1 f2 f3 : EF} {g h : EO} {c c1 c2 : EB} {e : EL} {q : ED} {p : P} {fs : List EF} {t : Tg} {s1 s2 : SF}
@[simp] theorem dC_ : dC p ρ = some (p, ρ) := Eq.trans rfl rfl
@[simp] theorem dV_ : dV i ρ = match ρ[i]? with
  | some (.pd p) => some (p, ρ)
  | _ => none := Eq.trans rfl rfl
@[simp] theorem dBin_ {o : P → P → Option P} : dBin o f1 f2 ρ = (f1 ρ).bind fun x => (f2 x.2).bind fun y => (o x.1 y.1).map fun z => (z, y.2) := Eq.trans rfl rfl
@[simp] theorem dUn_ {o : P → Option P} : dUn o f ρ = (f ρ).bind fun x => (o x.1).map fun z => (z, x.2) := Eq.trans rfl rfl
@[simp] theorem dCmp_ {o : P → P → Option Bool} : dCmp o f1 f2 ρ = (f1 ρ).bind fun x => (f2 x.2).bind fun y => (o x.1 y.1).map fun z => (z, y.2) := Eq.trans rfl rfl
@[simp] theorem dB_ : dB c ρ = (c ρ).map fun x => (.bool x.1, x.2) := Eq.trans rfl rfl
@[simp] theorem dChn_ {o o' : P → P → Option Bool} : dChn o o' f1 f2 f3 ρ = (f1 ρ).bind fun x => (f2 x.2).bind fun y => (o x.1 y.1).bind fun c =>
  if c then (f3 y.2).bind fun z => (o' y.1 z.1).map fun c' => (c', z.2) else some (false, y.2) := Eq.trans rfl rfl
@[simp] theorem dAnd_ : dAnd c1 c2 ρ = (c1 ρ).bind fun x => if x.1 then c2 x.2 else some (false, x.2) := Eq.trans rfl rfl
@[simp] theorem dOr_ : dOr c1 c2 ρ = (c1 ρ).bind fun x => if x.1 then some (true, x.2) else c2 x.2 := Eq.trans rfl rfl
@[simp] theorem dNot_ : dNot c ρ = (c ρ).map fun x => (!x.1, x.2) := Eq.trans rfl rfl
@[simp] theorem dIf_ : dIf c f1 f2 ρ = (c ρ).bind fun x => if x.1 then f1 x.2 else f2 x.2 := Eq.trans rfl rfl
@[simp] theorem dTru_ : dTru f ρ = (f ρ).bind fun x => (truP x.1).map fun c => (c, x.2) := Eq.trans rfl rfl
@[simp] theorem dIsN_ : dIsN f ρ = (f ρ).map fun x => (isNP x.1, x.2) := Eq.trans rfl rfl
@[simp] theorem dArgs_nil : dArgs [] ρ = some ([], ρ) := Eq.trans rfl rfl
@[simp] theorem dArgs_cons : dArgs (f :: fs) ρ = (f ρ).bind fun x => (dArgs fs x.2).map fun y => (x.1 :: y.1, y.2) := Eq.trans rfl rfl
@[simp] theorem dTup_ : dTup fs ρ = (dArgs fs ρ).map fun x => (.tuple x.1, x.2) := Eq.trans rfl rfl
@[simp] theorem dLst_ : dLst e ρ = (e ρ).map fun x => (.list x.1, x.2) := Eq.trans rfl rfl
@[simp] theorem dPd_ : dPd f ρ = (f ρ).map fun x => (.pd x.1, x.2) := Eq.trans rfl rfl
@[simp] theorem dOl_ : dOl e ρ = (e ρ).map fun x => (.ol (pds x.1), x.2) := Eq.trans rfl rfl
@[simp] theorem dNo_ : dNo ρ = some (none, ρ) := Eq.trans rfl rfl
@[simp] theorem dSo_ : dSo f ρ = (f ρ).bind fun x => match x.1 with
  | .int i => some (some i, x.2)
  | _ => none := Eq.trans rfl rfl
@[simp] theorem dSlL_ : dSlL f g h ρ = (f ρ).bind fun x => (g x.2).bind fun y => (h y.2).bind fun z => match x.1 with
  | .list xs => some (cutL xs y.1 z.1, z.2)
  | _ => none := Eq.trans rfl rfl
@[simp] theorem dSlA_ : dSlA f g h ρ = (f ρ).bind fun x => (g x.2).bind fun y => (h y.2).bind fun z => (sliceA x.1 y.1 z.1).map fun w => (w, z.2) := Eq.trans rfl rfl
@[simp] theorem dCall_ {o : List P → Option P} : dCall o e ρ = (e ρ).bind fun x => (o x.1).map fun z => (z, x.2) := Eq.trans rfl rfl
@[simp] theorem dCallL_ {o : List P → Option (List P)} : dCallL o e ρ = (e ρ).bind fun x => (o x.1).map fun z => (z, x.2) := Eq.trans rfl rfl
@[simp] theorem dCallN_ {o : List P → Option P} : dCallN n o e ρ = (e ρ).bind fun x => if x.1.length = n then (o x.1).map fun d => (d, x.2) else none := Eq.trans rfl rfl
@[simp] theorem dFnN_ {o : List P → Option D} : dFnN n o e ρ = (e ρ).bind fun x => if x.1.length = n then (o x.1).map fun d => (d, x.2) else none := Eq.trans rfl rfl
@[simp] theorem dFr_ : dFr q ρ = (q ρ).bind fun x => (frz x.1).map fun p => (p, x.2) := Eq.trans rfl rfl
@[simp] theorem dIt_ : dIt f ρ = (f ρ).bind fun x => (itP x.1).map fun y => (y, x.2) := Eq.trans rfl rfl
@[simp] theorem dItA_ {o : List P → Option (List P)} : dItA o e ρ = (e ρ).bind fun x => (o x.1).map fun y => (y, x.2) := Eq.trans rfl rfl
@[simp] theorem dYes_ : dYes ρ = some (true, ρ) := Eq.trans rfl rfl
@[simp] theorem dNx_ : dNx ρ = some (.nx, ρ) := Eq.trans rfl rfl
@[simp] theorem dSeq_ : dSeq s1 s2 ρ = (s1 ρ).bind fun x => match x.1 with
  | .nx => s2 x.2
  | fl => some (fl, x.2) := Eq.trans rfl rfl
@[simp] theorem dIfS_ : dIfS c s1 s2 ρ = (c ρ).bind fun x => if x.1 then s1 x.2 else s2 x.2 := Eq.trans rfl rfl
@[simp] theorem dRet_ : dRet q ρ = (q ρ).map fun x => (.rt x.1, x.2) := Eq.trans rfl rfl
@[simp] theorem dSet_ : dSet i q ρ = (q ρ).map fun x => (.nx, x.2.set i x.1) := Eq.trans rfl rfl
@[simp] theorem dTgt_ : dTgt t f ρ = (f ρ).bind fun x => (bindT t x.1 x.2).map fun y => (.nx, y) := Eq.trans rfl rfl
@[simp] theorem dFor_ : dFor e t s1 ρ = (e ρ).bind fun x => forL t s1 x.1 x.2 := Eq.trans rfl rfl
@[simp] theorem dPar_ : dPar i j e ρ = (e ρ).bind fun x => match x.1 with
  | [p, q] => some (.nx, (x.2.set i (.pd p)).set j (.pd q))
  | _ => none := Eq.trans rfl rfl
@[simp] theorem dPar3_ : dPar3 i j l e ρ = (e ρ).bind fun x => match x.1 with
  | [p, q, s] => some (.nx, ((x.2.set i (.pd p)).set j (.pd q)).set l (.pd s))
  | _ => none := Eq.trans rfl rfl
@[simp] theorem someL_ : someL ρ i = match ρ[i]? with
  | some (.ol _) => true
  | _ => false := Eq.trans rfl rfl
@[simp] theorem dApp_ : dApp i q ρ = if someL ρ i = true then (q ρ).bind fun x => match x.2[i]? with
    | some (.ol ds) => if ds.length < 16777216 then some (.nx, x.2.set i (.ol (ds ++ [x.1]))) else none
    | _ => none
  else none := Eq.trans rfl rfl
@[simp] theorem dExt_ : dExt i e ρ = if someL ρ i = true then (e ρ).bind fun x => match x.2[i]? with
    | some (.ol ds) => if ds.length + x.1.length ≤ 16777216 then some (.nx, x.2.set i (.ol (ds ++ x.1.map .pd))) else none
    | _ => none
  else none := Eq.trans rfl rfl
@[simp] theorem dSetI_ : dSetI i f1 f2 ρ = (f1 ρ).bind fun x => if someL x.2 i = true then (f2 x.2).bind fun y => match y.1, y.2[i]? with
    | .int k, some (.ol ds) => (ixN ds.length k).map fun j => (.nx, y.2.set i (.ol (ds.set j (.pd x.1))))
    | _, _ => none
  else none := Eq.trans rfl rfl
@[simp] theorem frzAt_ : frzAt ρ i = match ρ[i]? with
  | some d => (frz d).map fun p => ρ.set i (.pd p)
  | none => none := Eq.trans rfl rfl
@[simp] theorem dFz_ : dFz i s1 ρ = (frzAt ρ i).bind s1 := Eq.trans rfl rfl
@[simp] theorem dPk_ : dPk i f ρ = (frzAt ρ i).bind fun ρ1 => (f ρ1).bind fun x => if flatP x.1 = true then some (x.1, ρ) else none := Eq.trans rfl rfl
@[simp] theorem dPkT_ : dPkT i c ρ = (frzAt ρ i).bind fun ρ1 => (c ρ1).map fun x => (x.1, ρ) := Eq.trans rfl rfl
@[simp] theorem dGetO_ : dGetO i f ρ = (f ρ).bind fun y => match y.1, y.2[i]? with
    | .int k, some (.ol ds) => match atI ds k with
      | some (.pd p) => if someL ρ i = true then some (p, y.2) else none
      | _ => none
    | _, _ => none := Eq.trans rfl rfl
@[simp] theorem dGetA_ : dGetA i f ρ = match ρ[i]? with
  | some (.pd _) => dBin idxP (dV i) f ρ
  | _ => dGetO i f ρ := Eq.trans rfl rfl
@[simp] theorem dBl_ : dBl f ρ = (f ρ).bind fun x => match x.1 with
  | .bool c => some (c, x.2)
  | _ => none := Eq.trans rfl rfl
@[simp] theorem bind_nm {p : P} : bindT (.nm i) p ρ = some (ρ.set i (.pd p)) := Eq.trans rfl rfl
@[simp] theorem bind_nil : bindT .tnil (.tuple []) ρ = some ρ := Eq.trans rfl rfl
@[simp] theorem bind_cons {a r : Tg} {p : P} {ps : List P} : bindT (.tcons a r) (.tuple (p :: ps)) ρ = (bindT a p ρ).bind fun ρ1 => bindT r (.tuple ps) ρ1 := Eq.trans rfl rfl
@[simp] theorem forL_nil : forL t s1 [] ρ = some (.nx, ρ) := Eq.trans rfl rfl
end
@[simp] theorem addP_int (i j : Int) : addP (.int i) (.int j) = some (.int (i + j)) := Eq.trans rfl rfl
@[simp] theorem subP_int (i j : Int) : subP (.int i) (.int j) = some (.int (i - j)) := Eq.trans rfl rfl
@[simp] theorem negP_int (i : Int) : negP (.int i) = some (.int (-i)) := Eq.trans rfl rfl
@[simp] theorem truP_none : truP .none = some false := Eq.trans rfl rfl
@[simp] theorem truP_bool (b : Bool) : truP (.bool b) = some b := Eq.trans rfl rfl
@[simp] theorem truP_int (i : Int) : truP (.int i) = some (i != 0) := Eq.trans rfl rfl
@[simp] theorem truP_list (xs : List P) : truP (.list xs) = some (!xs.isEmpty) := Eq.trans rfl rfl
@[simp] theorem truP_tuple (xs : List P) : truP (.tuple xs) = some (!xs.isEmpty) := Eq.trans rfl rfl
@[simp] theorem isNP_none : isNP .none = true := Eq.trans rfl rfl
@[simp] theorem isNP_int (i : Int) : isNP (.int i) = false := Eq.trans rfl rfl
@[simp] theorem isNP_bool (i : Bool) : isNP (.bool i) = false := Eq.trans rfl rfl
@[simp] theorem isNP_str (i : Str) : isNP (.str i) = false := Eq.trans rfl rfl
@[simp] theorem isNP_list (i : List P) : isNP (.list i) = false := Eq.trans rfl rfl
@[simp] theorem isNP_tuple (i : List P) : isNP (.tuple i) = false := Eq.trans rfl rfl
@[simp] theorem idxP_list (xs : List P) (i : Int) : idxP (.list xs) (.int i) = atI xs i := Eq.trans rfl rfl
@[simp] theorem idxP_tuple (xs : List P) (i : Int) : idxP (.tuple xs) (.int i) = atI xs i := Eq.trans rfl rfl
@[simp] theorem lenP_list (xs : List P) : lenP [.list xs] = some (.int xs.length) := Eq.trans rfl rfl
@[simp] theorem lenP_tuple (xs : List P) : lenP [.tuple xs] = some (.int xs.length) := Eq.trans rfl rfl
@[simp] theorem itP_list (xs : List P) : itP (.list xs) = some xs := Eq.trans rfl rfl
@[simp] theorem itP_tuple (xs : List P) : itP (.tuple xs) = some xs := Eq.trans rfl rfl
@[simp] theorem enumAP_list (xs : List P) : enumAP [.list xs] = some (enumL 0 xs) := Eq.trans rfl rfl
@[simp] theorem enumAP_tuple (xs : List P) : enumAP [.tuple xs] = some (enumL 0 xs) := Eq.trans rfl rfl
@[simp] theorem listP_list (xs : List P) : listP [.list xs] = some xs := Eq.trans rfl rfl
@[simp] theorem listP_tuple (xs : List P) : listP [.tuple xs] = some xs := Eq.trans rfl rfl
@[simp] theorem min2P_int (i j : Int) : min2P [.int i, .int j] = some (.int (if j < i then j else i)) := Eq.trans rfl rfl
@[simp] theorem max2P_int (i j : Int) : max2P [.int i, .int j] = some (.int (if j > i then j else i)) := Eq.trans rfl rfl
@[simp] theorem absP_int (i : Int) : absP [.int i] = some (.int (if i < 0 then -i else i)) := Eq.trans rfl rfl
@[simp] theorem intP_int (i : Int) : intP [.int i] = some (.int i) := Eq.trans rfl rfl
@[simp] theorem intP_bool (b : Bool) : intP [.bool b] = some (.int (if b then 1 else 0)) := Eq.trans rfl rfl
@[simp] theorem zipP_list (xs ys : List P) : zipP [.list xs, .list ys] = some (zipL xs ys) := Eq.trans rfl rfl
@[simp] theorem flatP_int (i : Int) : flatP (.int i) = true := Eq.trans rfl rfl
@[simp] theorem flatP_bool (i : Bool) : flatP (.bool i) = true := Eq.trans rfl rfl
@[simp] theorem flatP_str (i : Str) : flatP (.str i) = true := Eq.trans rfl rfl
@[simp] theorem flatP_none : flatP .none = true := Eq.trans rfl rfl

/-! ### loops by steps -/
/-- a loop's steps: on with a state, or out with an answer -/
def stepL {α β R : Type} (step : α → β → α ⊕ R) : List β → α → α ⊕ R
  | [], a => .inl a
  | x :: xs, a => match step a x with
    | .inl a' => stepL step xs a'
    | .inr r => .inr r
theorem forL_step {α β : Type} {t : Tg} {body : SF} (enc : β → P) (st : α → Sl) (step : α → β → α ⊕ (D × Sl)) : ∀ (xs : List β) (a : α) (I : List β → α → Prop), I xs a →
    (∀ x r a, I (x :: r) a → match step a x with
      | .inl a' => I r a' ∧ ∃ ρ1 fl, bindT t (enc x) (st a) = some ρ1 ∧ (fl = .nx ∨ fl = .ct) ∧ body ρ1 = some (fl, st a')
      | .inr (d, ρ') => ∃ ρ1, bindT t (enc x) (st a) = some ρ1 ∧ body ρ1 = some (.rt d, ρ')) →
    forL t body (xs.map enc) (st a) = match stepL step xs a with
      | .inl a' => some (.nx, st a')
      | .inr (d, ρ') => some (.rt d, ρ')
  | [], a, I, _, _ => rfl
  | x :: r, a, I, hI, h => by
    have h1 := h x r a hI
    rw [List.map_cons]
    unfold forL stepL
    cases e : step a x with
    | inl a' =>
      rw [e] at h1
      obtain ⟨i2, ρ1, fl, e1, e2, e3⟩ := h1
      rw [e1, Option.bind_some, e3, Option.bind_some]
      have ih := forL_step enc st step r a' I i2 h
      rcases e2 with rfl | rfl
      · exact ih
      · exact ih
    | inr dr =>
      rw [e] at h1
      obtain ⟨ρ1, e1, e2⟩ := h1
      rw [e1, Option.bind_some, e2, Option.bind_some]
/-- a loop that goes through to its end -/
theorem forL_fold {α β : Type} {t : Tg} {body : SF} (enc : β → P) (st : α → Sl) (step : α → β → α) : ∀ (xs : List β) (a : α) (I : List β → α → Prop), I xs a →
    (∀ x r a, I (x :: r) a → I r (step a x) ∧ ∃ ρ1, bindT t (enc x) (st a) = some ρ1 ∧ body ρ1 = some (.nx, st (step a x))) →
    forL t body (xs.map enc) (st a) = some (.nx, st (xs.foldl step a))
  | [], a, I, _, _ => rfl
  | x :: r, a, I, hI, h => by
    obtain ⟨i2, ρ1, e1, e3⟩ := h x r a hI
    rw [List.map_cons, List.foldl_cons]
    unfold forL
    rw [e1, Option.bind_some, e3, Option.bind_some]
    exact forL_fold enc st step r (step a x) I i2 h
theorem enumL_map {β : Type} (enc : β → P) : ∀ (xs : List β) (n : Nat), enumL n (xs.map enc) = (xs.zipIdx n).map fun z => .tuple [.int (z.2 : Int), enc z.1]
  | [], _ => rfl
  | x :: xs, n => by simp [enumL, enumL_map enc xs (n + 1)]
theorem zipL_map {β γ : Type} (e1 : β → P) (e2 : γ → P) : ∀ (xs : List β) (ys : List γ), zipL (xs.map e1) (ys.map e2) = (xs.zip ys).map fun z => .tuple [e1 z.1, e2 z.2]
  | [], _ => rfl
  | _ :: _, [] => rfl
  | x :: xs, y :: ys => by simp [zipL, zipL_map e1 e2 xs ys]
/-- a comprehension whose parts change nothing -/
theorem comp_pure {β : Type} {vs : List Nat} {tg : Tg} {cnd : EB} {el : EF} (enc : β → P) (c : β → Bool) (g : β → P) (htg : tgIn vs tg = true) (ρ : Sl) : ∀ xs : List β,
    (∀ x ∈ xs, ∃ ρx, bindT tg (enc x) (wipeR ρ vs) = some ρx ∧ cnd ρx = some (c x, ρx) ∧ (c x = true → el ρx = some (g x, ρx))) →
    compL vs tg cnd el (xs.map enc) (wipeR ρ vs) = some ((xs.filter c).map g, wipeR ρ vs)
  | [], _ => rfl
  | x :: xs, h => by
    obtain ⟨ρx, e1, e2, e3⟩ := h x (by simp)
    have ih := comp_pure enc c g htg ρ xs fun y hy => h y (by simp [hy])
    have hw : wipeR ρx vs = wipeR ρ vs := by rw [bindT_wipe htg e1, wipeR_twice]
    rw [List.map_cons]
    unfold compL
    rw [e1, Option.bind_some, e2, Option.bind_some]
    cases hc : c x with
    | true =>
      rw [if_pos rfl, e3 hc, Option.bind_some]
      dsimp only
      rw [hw, ih]
      simp [hc]
    | false =>
      rw [if_neg Bool.false_ne_true]
      dsimp only
      rw [hw, ih]
      simp [hc]
theorem dComp_pure {β : Type} {it : EL} {vs : List Nat} {tg : Tg} {cnd : EB} {el : EF} (enc : β → P) (c : β → Bool) (g : β → P) (xs : List β) (ρ ρ' : Sl) (hi : it ρ = some (xs.map enc, ρ')) (hl : xs.length ≤ 16777216) (ho : ownOk ρ' vs = true) (htg : tgIn vs tg = true)
    (h : ∀ x ∈ xs, ∃ ρx, bindT tg (enc x) (wipeR ρ' vs) = some ρx ∧ cnd ρx = some (c x, ρx) ∧ (c x = true → el ρx = some (g x, ρx))) :
    dComp it vs tg cnd el ρ = some ((xs.filter c).map g, ρ') := by
  unfold dComp
  rw [hi, Option.bind_some]
  dsimp only
  rw [if_pos ⟨by simpa using hl, ho⟩, comp_pure enc c g htg ρ' xs h]
  simp [fill_wipe ρ' vs vs (fun v h => h)]
/-- .. without a test -/
theorem dComp_map {β : Type} {it : EL} {vs : List Nat} {tg : Tg} {el : EF} (enc : β → P) (g : β → P) (xs : List β) (ρ ρ' : Sl) (hi : it ρ = some (xs.map enc, ρ')) (hl : xs.length ≤ 16777216) (ho : ownOk ρ' vs = true) (htg : tgIn vs tg = true)
    (h : ∀ x ∈ xs, ∃ ρx, bindT tg (enc x) (wipeR ρ' vs) = some ρx ∧ el ρx = some (g x, ρx)) :
    dComp it vs tg dYes el ρ = some (xs.map g, ρ') := by
  have := dComp_pure (cnd := dYes) enc (fun _ => true) g xs ρ ρ' hi hl ho htg fun x hx => let ⟨ρx, e1, e2⟩ := h x hx; ⟨ρx, e1, rfl, fun _ => e2⟩
  rw [List.filter_eq_self.mpr (fun _ _ => rfl)] at this
  exact this
end
end HW

namespace HW
open PySem PySem.Spec PyProof.Rows L2
noncomputable section
section
variable {K : PySem.W.Frag} {cm : Str → Addr → Prop} {W F H : Hp} {σ : L2.St} {ρ : Sl} {u v : V} {d : D} {q : P} {p : Addr}
theorem R.wrap2 (r : R K cm W (some u :: σ) H F (d :: ρ)) (dv : DP K F v q) (hp : H p = none) : R K cm W (some (.ref p) :: σ) (upd H p (.lst [v, u])) F (.ol [.pd q, d] :: ρ) := by
  obtain ⟨fp, e, nd, m⟩ := r.ex
  have fp0 : F p = none := r.fh.free hp
  have wp0 : W p = none := r.wh.free hp
  have np : p ∉ fp := fun z => by
    obtain ⟨o, ho⟩ := e.there p z
    rw [hp] at ho
    cases ho
  have X : ∃ f g, RD K cm F H u d f ∧ RE K cm F H σ ρ g ∧ Sub (f ++ g) fp := by
    cases e with
    | no t => exact ⟨[], fp, .hole, t, Sub.refl _⟩
    | yes a t => exact ⟨_, _, a, t, Sub.refl _⟩
  obtain ⟨f, g, a, t, s⟩ := X
  have st : ∀ {l : List Addr}, ∀ a ∈ l, ∀ o, H a = some o → upd H p (.lst [v, u]) a = some o := fun a _ o z => same_upd hp a o z
  have e2 : RE K cm F (upd H p (.lst [v, u])) (some (.ref p) :: σ) (.ol [.pd q, d] :: ρ) ((p :: (([] : List Addr) ++ (f ++ []))) ++ g) :=
    .yes (.ol upd_same (.cons (.pd dv) (.cons (a.mono (Same.refl F) st) .nil))) (t.mono (Same.refl F) st)
  refine .ofRE (fp := p :: fp) (fun a o z => same_upd hp _ _ (r.fh a o z)) (fun a o z => same_upd hp _ _ (r.wh a o z)) r.wf (List.nodup_cons.mpr ⟨np, nd⟩) (fun a ha => ?_) e2 ?_
  · rcases List.mem_cons.mp ha with rfl | ha
    · exact ⟨fp0, wp0⟩
    · exact m a ha
  · obtain ⟨y, py⟩ := s
    refine ⟨y, ?_⟩
    simp only [List.nil_append, List.append_nil, List.cons_append]
    exact List.Perm.cons p py
end
section
variable {X : Cx} {cm : Str → Addr → Prop} {b : Bool} {pos : Pos} {e : Expr} {f : EF}
/-- [value, an owned thing of a slot] -/
def dLst2 (f : EF) (i : Nat) : ED := fun ρ => (f ρ).bind fun x => match x.2[i]? with
  | some .hole => none
  | none => none
  | some d => some (.ol [.pd x.1, d], x.2.set i .hole)
theorem d_lst2 {x : Str} {p : Pos} (i : Nat) (he : PE X e (tP X.K cm b f)) (hN : X.N[i]? = some x := by rfl) (hv : Vis X.env.scope x := by first | exact Or.inl rfl | exact Or.inr (Or.inl rfl) | exact Or.inr (Or.inr rfl)) (hd : (x == ("__debug__" : Str)) = false := by decide)
    (hcd : (x == ("__classdict__" : Str)) = false := by decide) (h1 : starEach [e, .Name x p] X.env = (false, eval e X.env) :: starEach [.Name x p] X.env := by rfl) (h2 : starEach [.Name x p] X.env = (false, eval (.Name x p) X.env) :: starEach [] X.env := by rfl) :
    PE X (.List [e, .Name x p] pos) (tD X.K cm false (dLst2 f i)) :=
  HW.PE.imp (pe_lst (pa_cons he (pa_cons (pe_var hN hv hd hcd) pa_nil h2) h1)) fun σ H Q ⟨W, F, ρ, d, ρ', r, e0, k⟩ => by
    simp only [dLst2, Option.bind_eq_some_iff] at e0
    obtain ⟨⟨q, ρ1⟩, e1, e2⟩ := e0
    refine ⟨W, F, ρ, q, ρ1, r, e1, fun v H1 F1 r1 s1 u1 d1 => ?_⟩
    split at e2
    · cases e2
    · cases e2
    · rename_i dd hn h0
      cases e2
      obtain ⟨u, h3, h4⟩ := r1.take h0 (fun z => by subst z; exact hn rfl)
      exact ⟨u, h3, by show 2 ≤ sizeLine; decide, fun p hp => k _ _ F1 (h4.wrap2 d1 hp) s1 fun h => by cases h⟩
end
end
end HW

namespace HW
open PySem PySem.Spec PyProof.Rows L2
noncomputable section
/-! ### the draws of a law: cells = state[1] is a second name of what the state holds -/
def intsL (ns : List Int) : List P := ns.map .int
@[simp] theorem intsL_len (l : List Int) : (intsL l).length = l.length := by simp [intsL]
def cellsOf : List D → Option (List Int)
  | [] => some []
  | .pd (.int x) :: ds => (cellsOf ds).map (x :: ·)
  | _ => none
theorem cellsOf_is : ∀ {ds : List D} {xs : List Int}, cellsOf ds = some xs → ds = pds (intsL xs)
  | [], xs, h => by cases h; rfl
  | .pd (.int x) :: ds, xs, h => by
    simp only [cellsOf, Option.map_eq_some_iff] at h
    obtain ⟨ys, h1, rfl⟩ := h
    rw [cellsOf_is h1]
    rfl
  | .hole :: _, _, h => by simp [cellsOf] at h
  | .pd .none :: _, _, h => by simp [cellsOf] at h
  | .pd (.bool _) :: _, _, h => by simp [cellsOf] at h
  | .pd (.str _) :: _, _, h => by simp [cellsOf] at h
  | .pd (.list _) :: _, _, h => by simp [cellsOf] at h
  | .pd (.tuple _) :: _, _, h => by simp [cellsOf] at h
  | .ol _ :: _, _, h => by simp [cellsOf] at h
  | .od _ :: _, _, h => by simp [cellsOf] at h
  | .ot _ :: _, _, h => by simp [cellsOf] at h
  | .ob _ _ :: _, _, h => by simp [cellsOf] at h
  | .kv _ :: _, _, h => by simp [cellsOf] at h
theorem cellsOf_pds : ∀ xs : List Int, cellsOf (pds (intsL xs)) = some xs
  | [] => rfl
  | x :: xs => by
    show (cellsOf (pds (intsL xs))).map (x :: ·) = _
    rw [cellsOf_pds xs]
    rfl
/-- what is told next: the counter, the cells, the number -/
def takeR (c : Int) (cells : List Int) (most : Int) : Int × List Int × Int :=
  if 1000000000000000000 ≤ cells.getD (c % cells.length).toNat 0 then
    (c, cells.set (c % cells.length).toNat (cells.getD (c % cells.length).toNat 0 / most), cells.getD (c % cells.length).toNat 0 % most)
  else (c + 1, cells, ((((cells.getD (c % cells.length).toNat 0 * 48271 + (c + 1) * 69621) % 2147483647) * 16807 + (c + 1) * 7919) % 1000000007) / 7 % most)
def okTake (c : Int) (cells : List Int) (most : Int) : Prop := 0 ≤ c ∧ cells ≠ [] ∧ (∀ x ∈ cells, 0 ≤ x) ∧ 1 ≤ most ∧ most < 1073741824
def takeS : D → List P → Option (D × D)
  | .ol [.pd (.int c), .ol ds], [.int most] => (cellsOf ds).bind fun cells => @ite _ (okTake c cells most) (Classical.propDecidable _)
      (some (.ol [.pd (.int (takeR c cells most).1), .ol (pds (intsL (takeR c cells most).2.1))], .pd (.int (takeR c cells most).2.2))) none
  | _, _ => none
def takeRest_d : SF := (dSeq (dSet 3 (dPd (dBin modP (dGetA 0 (dC (.int 0))) (dPk 2 (dCall lenP (dArgs [(dV 2)]))))))
  (dSeq (dSet 4 (dPd (dGetA 2 (dV 3))))
  (dSeq (dIfS (dCmp geP (dV 4) (dC (.int 1000000000000000000))) (dSeq (dSetI 2 (dBin fdivP (dV 4) (dV 1)) (dV 3))
  (dRet (dPd (dBin modP (dV 4) (dV 1))))) dNx)
  (dSeq (dSetI 0 (dBin addP (dGetA 0 (dC (.int 0))) (dC (.int 1))) (dC (.int 0)))
  (dSeq (dSet 5 (dPd (dBin modP (dCall intP (dArgs [(dBin addP (dBin mulP (dV 4) (dC (.int 48271))) (dBin mulP (dGetA 0 (dC (.int 0))) (dC (.int 69621))))])) (dC (.int 2147483647)))))
  (dSeq (dSet 5 (dPd (dBin modP (dCall intP (dArgs [(dBin addP (dBin mulP (dV 5) (dC (.int 16807))) (dBin mulP (dGetA 0 (dC (.int 0))) (dC (.int 7919))))])) (dC (.int 1000000007)))))
  (dRet (dPd (dBin modP (dBin fdivP (dV 5) (dC (.int 7))) (dV 1))))))))))
theorem get_cell {cells : List Int} (hn : cells ≠ []) (c : Int) : (c % cells.length).toNat < cells.length ∧ atI (pds (intsL cells)) (c % cells.length) = some (.pd (.int (cells.getD (c % cells.length).toNat 0))) ∧ ixN (pds (intsL cells)).length (c % cells.length) = some (c % cells.length).toNat := by
  have hl : 0 < (cells.length : Int) := by
    have := List.length_pos_iff.mpr hn
    omega
  have h0 := Int.emod_nonneg c (Int.ne_of_gt hl)
  have h1 := Int.emod_lt_of_pos c hl
  obtain ⟨k, hk⟩ := Int.eq_ofNat_of_zero_le h0
  rw [hk] at h1 ⊢
  have hk2 : k < cells.length := by exact_mod_cast h1
  have e : ((k : Int)).toNat = k := rfl
  rw [e]
  refine ⟨hk2, atI_natP ?_, ixN_nat (by simp [intsL, hk2])⟩
  simp [pds, intsL, List.getD, hk2]
theorem set_ints (cells : List Int) (j : Nat) (x : Int) : (pds (intsL cells)).set j (.pd (.int x)) = pds (intsL (cells.set j x)) := by
  simp [pds, intsL, List.map_set]
theorem take_rest {c most : Int} {cells : List Int} (h : okTake c cells most) (v : V) : ∃ a b d, takeRest_d [.ol [.pd (.int c), .kv v], .pd (.int most), .ol (pds (intsL cells)), .hole, .hole, .hole] =
    some (.rt (.pd (.int (takeR c cells most).2.2)), [.ol [.pd (.int (takeR c cells most).1), .kv v], .pd (.int most), .ol (pds (intsL (takeR c cells most).2.1)), a, b, d]) := by
  obtain ⟨h1, h2, h3, h4, h5⟩ := h
  obtain ⟨g1, g2, g3⟩ := get_cell h2 c
  have hl : 0 < cells.length := List.length_pos_iff.mpr h2
  have m4 : 0 < most := by omega
  rw [pds_len, intsL_len] at g3
  have i20 : ixN 2 0 = some 0 := ixN_nat (n := 2) (k := 0) (by decide)
  unfold takeRest_d takeR
  generalize cells.getD (c % ↑cells.length).toNat 0 = x at g2 ⊢
  by_cases hc : 1000000000000000000 ≤ x
  · refine ⟨.pd (.int (c % cells.length)), .pd (.int x), .hole, ?_⟩
    simp [modP, fdivP, mulP, g2, g3, hc, hl, m4, h5, set_ints]
  · refine ⟨.pd (.int (c % cells.length)), .pd (.int x), .pd (.int ((((x * 48271 + (c + 1) * 69621) % 2147483647) * 16807 + (c + 1) * 7919) % 1000000007)), ?_⟩
    simp [modP, fdivP, mulP, g2, g3, hc, hl, m4, h5, i20]
section
variable {K : PySem.W.Frag} {cm : Str → Addr → Prop} {W F H : Hp} {σ : L2.St} {ρ : Sl} {v u : V} {d : D} {c : P} {ds : List D} {m x : Option V}
/-- the second part of what slot 0 holds is named by slot 2, too -/
theorem R.split (r : R K cm W (some u :: m :: x :: σ) H F (.ol [.pd c, .ol ds] :: d :: .hole :: ρ)) :
    ∃ s a v0, u = .ref s ∧ H s = some (.lst [v0, .ref a]) ∧ R K cm W (some u :: m :: some (.ref a) :: σ) H F (.ol [.pd c, .kv (.ref a)] :: d :: .ol ds :: ρ) := by
  obtain ⟨fp, e, nd, mm⟩ := r.ex
  have step : ∀ {σ' : L2.St} {ρ' : Sl} {g : List Addr}, RE K cm F H (x :: σ') (.hole :: ρ') g → RE K cm F H σ' ρ' g := fun {σ' ρ' g} t => by
    cases t with
    | no t => exact t
    | yes a t => cases a; exact t
  suffices K2 : ∃ s a v0 g', u = .ref s ∧ H s = some (.lst [v0, .ref a]) ∧ RE K cm F H (some u :: m :: some (.ref a) :: σ) (.ol [.pd c, .kv (.ref a)] :: d :: .ol ds :: ρ) g' ∧ Sub g' fp by
    obtain ⟨s, a, v0, g', q1, q2, q3, q4⟩ := K2
    exact ⟨s, a, v0, q1, q2, .ofRE r.fh r.wh r.wf nd mm q3 q4⟩
  cases e with
  | yes a t =>
    cases a with
    | @ol s vs _ f h1 h2 =>
      cases h2 with
      | cons b h2 =>
        cases h2 with
        | cons b2 h2 =>
          cases h2
          cases b2 with
          | @ol a vs2 _ f2 h3 h4 =>
            cases b with
            | pd hd =>
              have E : ∀ {g3 : List Addr}, RE K cm F H (m :: x :: σ) (d :: .hole :: ρ) g3 → ∃ g, RE K cm F H (m :: some (.ref a) :: σ) (d :: .ol ds :: ρ) g ∧ Sub g ((a :: f2) ++ g3) := fun {g3} t => by
                cases t with
                | no t => exact ⟨_, .no (.yes (.ol h3 h4) (step t)), Sub.refl _⟩
                | yes z t => exact ⟨_, .yes z (.yes (.ol h3 h4) (step t)), Sub.swap _ _ _⟩
              obtain ⟨g, t2, s1⟩ := E t
              refine ⟨s, a, _, (s :: (([] : List Addr) ++ (([] : List Addr) ++ []))) ++ g, rfl, h1, .yes (.ol h1 (.cons (.pd hd) (.cons .kv .nil))) t2, ?_⟩
              simpa using (Sub.refl [s]).app s1
/-- and back -/
theorem R.join {a : Addr} {p : P} {w : V} (r : R K cm W (some w :: some u :: m :: some (.ref a) :: σ) H F (.pd p :: .ol [.pd c, .kv (.ref a)] :: d :: .ol ds :: ρ)) :
    R K cm W [some w, some u] H F [.pd p, .ol [.pd c, .ol ds]] := by
  obtain ⟨fp, e, nd, mm⟩ := r.ex
  cases e with
  | yes a0 t =>
    cases a0 with
    | pd hp =>
      cases t with
      | yes a1 t =>
        cases a1 with
        | @ol s vs _ f h1 h2 =>
          cases h2 with
          | cons b h2 =>
            cases h2 with
            | cons b2 h2 =>
              cases h2
              cases b2
              cases b with
              | pd hd =>
                have E : ∀ {g : List Addr}, RE K cm F H (some (.ref a) :: σ) (.ol ds :: ρ) g → ∃ g1, RD K cm F H (.ref a) (.ol ds) g1 ∧ Sub g1 g := fun {g} t => by
                  cases t with
                  | yes z t => exact ⟨_, z, Sub.left _ _⟩
                have E2 : ∀ {g : List Addr}, RE K cm F H (m :: some (.ref a) :: σ) (d :: .ol ds :: ρ) g → ∃ g1, RD K cm F H (.ref a) (.ol ds) g1 ∧ Sub g1 g := fun {g} t => by
                  cases t with
                  | no t => exact E t
                  | yes z t =>
                    obtain ⟨g1, q1, q2⟩ := E t
                    exact ⟨g1, q1, q2.trans (Sub.right _ _)⟩
                obtain ⟨g1, q1, q2⟩ := E2 t
                refine .ofRE r.fh r.wh r.wf nd mm (.yes (.pd hp) (.yes (.ol h1 (.cons (.pd hd) (.cons q1 .nil))) .nil)) ?_
                simpa using (Sub.refl [s]).app q2
end
/-- what the first statement does: the second part of what slot 0 holds is put into slot 2 -/
def tTk : TS := fun Dn σ H => ∃ s a v0, σ[0]? = some (some (.ref s)) ∧ H s = some (.lst [v0, .ref a]) ∧ Dn.nx (σ.set 2 (some (.ref a))) H
def asTk : Nat → Bool := fun i => !(i == 0) && !(i == 2)
section
variable {X : Cx} {pos : Pos}
theorem s_tk {x y : Str} {p p2 p3 p4 : Pos} {j} (hN : X.N.Nodup) (hi : X.N[2]? = some x := by rfl) (hy : X.N[0]? = some y := by rfl) (hv : Vis X.env.scope y := by first | exact Or.inl rfl | exact Or.inr (Or.inl rfl) | exact Or.inr (Or.inr rfl)) (hd : (y == ("__debug__" : Str)) = false := by decide)
    (hcd : (y == ("__classdict__" : Str)) = false := by decide) (hx : Loc X.env.scope x := by first | exact .inl rfl | exact .inr rfl)
    (hs : swapsWith (.Subscript (.Name y p2) (.Constant (.int 1) j p3) p4) (some (.Name x p)) pos.line X.env = pure false := by rfl) (hf : X.fn x = true ∨ X.env.scope.names.lookup x = some .local := by first | exact .inl rfl | exact .inr rfl | assumption) :
    PS X (.Assign [.Name x p] (.Subscript (.Name y p2) (.Constant (.int 1) j p3) p4) pos) tTk :=
  HW.PS.imp (ps_set hN hi hx (pe_ix ix_list (pe_var hy hv hd hcd) pe_int (by exact fun _ _ => rfl)) hs hf) fun Dn σ H ⟨s, a, v0, h1, h2, k⟩ =>
    ⟨_, h1, _, [v0, .ref a], 1, .ref a, rfl, rfl, .inl (.inl h2), rfl, k⟩
end
section
variable {P : Program} {w : World} {K : PySem.W.Frag} {mg : Str → Option Value} {base : Heap} {cm : Str → Addr → Prop} {k : Nat} {x qual : Str} {st : Stmt} {fa : Addr} {fd : FuncData} {y0 y1 y2 y3 y4 y5 : Str} {ps : List Str}
theorem fn_take (G : L2.Fun K x qual st fa fd) (S : FnScope [y0, y1, y2, y3, y4, y5] ps (defScope st)) (hn : ps.length = 2)
    (hb : ∀ (cdv : Value) (A : Around) (outer : List Env) (s : Shared) (H : Hp) (E : XK), Room k (A.deeper (envOfC qual (defScope st) s.heap.objs.size fa cdv)) →
      PSs (cxOf CX0 P w K mg base [y0, y1, y2, y3, y4, y5] qual (defScope st) fa cdv A outer s H E).nox (defBody st) (tSeq tTk (tS K cm asTk takeRest_d))) : FnOk P w K mg base CX0 (k + 1) fa fd ps (spM K cm 1 takeS) :=
  G.ok S (fun vs H Q E h => h.1.trans hn.symm) fun cdv A outer s H vs Q E hr h => by
    obtain ⟨hl, u, us, W, F, qs, d0, d1, d2, rfl, r, dd, e, k⟩ := h
    refine ⟨_, hb cdv A outer s H E hr, ?_⟩
    unfold takeS at e
    split at e
    · rename_i c ds most
      obtain ⟨cells, e1, e2⟩ := Option.bind_eq_some_iff.mp e
      split at e2
      · rename_i hok
        cases e2
        have hds := cellsOf_is e1
        subst hds
        have r0 : R K cm W (L2.start [y0, y1, y2, y3, y4, y5] (u :: us)) H F _ := r.startM dd
        cases dd with
        | @cons m us _ _ dm dn =>
        cases dn
        obtain ⟨s0, a, v0, rfl, h1, r1⟩ := R.split r0
        obtain ⟨x1, x2, x3, e3⟩ := take_rest hok (.ref a)
        refine ⟨s0, a, v0, rfl, h1, W, F, _, _, _, r1, e3, fun v σ' H' F' r' s' o' => ?_⟩
        have q0 := o' 0 rfl
        have q2 := o' 2 rfl
        rcases σ' with _ | ⟨z0, _ | ⟨z1, _ | ⟨z2, σ'⟩⟩⟩
        · cases q0
        · cases q2
        · cases q2
        · cases q0
          cases q2
          exact k v H' F' r'.join s'
      · cases e2
    · cases e
end
end
end HW

namespace HW
open PySem PySem.Spec PyProof.Rows L2
noncomputable section
/-- a state to draw from -/
def GoodS (d : D) : Prop := ∃ (c : Int) (cells : List Int), d = .ol [.pd (.int c), .ol (pds (intsL cells))] ∧ 0 ≤ c ∧ cells ≠ [] ∧ ∀ x ∈ cells, 0 ≤ x
theorem GoodS.ne {d : D} (g : GoodS d) : d ≠ .hole := by
  obtain ⟨c, cells, rfl, _⟩ := g
  simp
theorem take_good {d : D} (g : GoodS d) {m : Int} (h1 : 1 ≤ m) (h2 : m < 1073741824) : ∃ v d', takeS d [.int m] = some (d', .pd (.int v)) ∧ GoodS d' ∧ 0 ≤ v ∧ v < m := by
  obtain ⟨c, cells, rfl, hc, hn, hp⟩ := g
  have m0 : m ≠ 0 := by omega
  have g0 : 0 ≤ cells.getD (c % cells.length).toNat 0 := by
    rw [List.getD_eq_getElem?_getD]
    cases e : cells[(c % cells.length).toNat]? with
    | none => simp
    | some x => exact hp x (List.mem_of_getElem? e)
  have key : 0 ≤ (takeR c cells m).1 ∧ (takeR c cells m).2.1 ≠ [] ∧ (∀ x ∈ (takeR c cells m).2.1, 0 ≤ x) ∧ 0 ≤ (takeR c cells m).2.2 ∧ (takeR c cells m).2.2 < m := by
    unfold takeR
    split
    · refine ⟨hc, by simp [hn], fun x hx => ?_, Int.emod_nonneg _ m0, Int.emod_lt_of_pos _ (by omega)⟩
      rcases List.mem_or_eq_of_mem_set hx with h | rfl
      · exact hp x h
      · exact Int.ediv_nonneg g0 (by omega)
    · exact ⟨by show 0 ≤ c + 1; omega, hn, hp, Int.emod_nonneg _ m0, Int.emod_lt_of_pos _ (by omega)⟩
  refine ⟨(takeR c cells m).2.2, _, ?_, ⟨(takeR c cells m).1, (takeR c cells m).2.1, rfl, key.1, key.2.1, key.2.2.1⟩, key.2.2.2.1, key.2.2.2.2⟩
  show (cellsOf (pds (intsL cells))).bind _ = _
  rw [cellsOf_pds, Option.bind_some]
  exact if_pos ⟨hc, hn, hp, h1, h2⟩
/-- one draw -/
theorem draw {ρ ρ1 : Sl} {f : EL} {m : Int} {d0 d : D} (e : f ρ = some ([.int m], ρ1)) (h0 : ρ[1]? = some d0) (g0 : GoodS d0) (h1 : ρ1[1]? = some d) (g : GoodS d) (m1 : 1 ≤ m) (m2 : m < 1073741824) :
    ∃ v d', dFr (dFnM 1 1 takeS f) ρ = some (.int v, ρ1.set 1 d') ∧ GoodS d' ∧ 0 ≤ v ∧ v < m := by
  obtain ⟨v, d', e1, g', v0, v1⟩ := take_good g m1 m2
  refine ⟨v, d', ?_, g', v0, v1⟩
  obtain ⟨c0, cells0, rfl, _⟩ := g0
  obtain ⟨c, cells, rfl, _⟩ := g
  unfold dFr dFnM
  rw [h0]
  dsimp only
  rw [e, Option.bind_some]
  dsimp only
  rw [if_pos (show [PyData.int m].length = 1 from rfl), h1]
  dsimp only
  rw [e1]
  rfl
/-- .. of a known number of numbers -/
theorem drawC {ρ : Sl} {f : EL} {m : Int} {d : D} (e : f ρ = some ([.int m], ρ)) (h : ρ[1]? = some d) (g : GoodS d) (m1 : 1 ≤ m) (m2 : m < 1073741824) :
    ∃ v d', dFr (dFnM 1 1 takeS f) ρ = some (.int v, ρ.set 1 d') ∧ GoodS d' ∧ 0 ≤ v ∧ v < m := draw e h g h g m1 m2
end
end HW

namespace HW
open PySem PySem.Spec PyProof.Rows L2
open PySem.Sem (wp)
noncomputable section
/-! ### enumerate over a zip: the zip's pair is kept, so that it may be out, or gone, when the next is asked for -/
abbrev ZObj (h : Heap) (z TI TO : Addr) (u : Value) (f : Bool) : Prop := h.get? z = some { cls := .type "zip", dict := none, data := .fields #[u, .bool f, .bool false, .ref TI, .ref TO], slots := #[] }
section
variable {prog : Program} {w : World} {A : Around} {E : Value → Shared → Prop} {s : Shared} {z TI TO i1 i2 l1 l2 : Addr} {k1 k2 : Nat} {xs ys : Array Value} {x y pa pb : Value} {u : Value} {f : Bool}
theorem not_there {a : Addr} {Q : Option Obj → Shared → Prop} (ha : s.heap.get? a = none) (h : Q none s) : wpAny (model prog w) A (loadIfAlive a) Q E s := by
  have h' : Q (s.heap.get? a) s := by rw [ha]; exact h
  exact fun _ _ _ => h'
theorem free_none {Q : Bool → Shared → Prop} (o : ZObj s.heap z TI TO .none f) (h : Q true s) : wpAny (model prog w) A (Builtin.SmallTypes.ownedTupleIsFree (.ref z)) Q E s := by
  unfold Builtin.SmallTypes.ownedTupleIsFree
  exact wpAny_bind (wpAny_field o rfl (x := .none) rfl (wpAny_pure h))
theorem free_gone {T : Addr} {Q : Bool → Shared → Prop} (o : ZObj s.heap z TI TO (rawInt T) f) (hT : s.heap.get? T = none) (h : Q true s) : wpAny (model prog w) A (Builtin.SmallTypes.ownedTupleIsFree (.ref z)) Q E s := by
  unfold Builtin.SmallTypes.ownedTupleIsFree
  refine wpAny_bind (wpAny_field o rfl (x := rawInt T) rfl ?_)
  show wpAny _ _ (loadIfAlive ((T : Int).toNat) >>= _) _ _ s
  rw [Int.toNat_natCast]
  exact wpAny_bind (not_there hT (wpAny_pure h))
/-- the next pair, where the zip's own tuple is free -/
theorem zq_item {Q : Value → Shared → Prop} (D : ZipApart z TI TO i1 i2 l1 l2) (o : ZObj s.heap z TI TO u f) (fr : ∀ R : Bool → Shared → Prop, R true s → wpAny (model prog w) A (Builtin.SmallTypes.ownedTupleIsFree (.ref z)) R E s)
    (t : IsPair s.heap TI (.ref i1) (.ref i2)) (q : IsPair s.heap TO pa pb) (m1 : s.heap.IsListIter i1 l1 k1) (m2 : s.heap.IsListIter i2 l2 k2) (n1 : s.heap.IsList l1 xs) (n2 : s.heap.IsList l2 ys) (ex : xs[k1]? = some x) (ey : ys[k2]? = some y)
    (out : ∀ g, ZObj g z TI TO (rawInt s.heap.objs.size) false → IsPair g TO x y → g.IsListIter i1 l1 (k1 + 1) → g.IsListIter i2 l2 (k2 + 1) → IsPair g s.heap.objs.size x y → g.objs.size = s.heap.objs.size + 1 →
      (∀ c v, c ≠ z → c ≠ TO → c ≠ i1 → c ≠ i2 → s.heap.get? c = some v → g.get? c = some v) → Q (.ref s.heap.objs.size) { s with heap := g }) : wpAny (model prog w) A (Builtin.«zip.__next__» ⟨[.ref z], []⟩) (fun r s' => ∃ v, r = .done (.ret v) ∧ Q v s') E s := by
  show wpAny _ _ (field (.ref z) 2 >>= _) _ _ s
  refine wpAny_bind (wpAny_field o rfl (x := .bool false) rfl ?_); show wpAny _ _ (field (.ref z) 3 >>= _) _ _ s
  refine wpAny_bind (wpAny_field o rfl (x := .ref TI) rfl ?_); refine wpAny_bind (wpAny_seqItems t rfl ?_)
  show wpAny _ _ (Builtin.SmallTypes.ownedTupleIsFree (.ref z) >>= _) _ _ s
  refine wpAny_bind (fr _ ?_); simp only [if_true]
  refine wpAny_bind (wpAny_rule ?_); refine wpAny_bind (wpAny_field o rfl (x := .ref TO) rfl ?_); refine wpAny_bind (wpAny_setField_rec o (by simp) fun g1 o1 w1 => ?_)
  replace o1 : ZObj g1 z TI TO .ellipsis f := o1
  refine wpAny_bind ?_; simp only [List.zipIdx_cons, List.zipIdx_nil, List.forIn_cons, List.forIn_nil]
  refine wpAny_bind (wpAny_bind (wpAny_onRaise ?_)); show wpAny _ _ (Builtin.SmallTypes.nextOf (.ref i1) >>= _) _ _ _
  refine wpAny_bind (wpAny_nextOf_list_item (m1.extBut w1.extBut D.i1z) (n1.extBut w1.extBut D.l1z) ex fun g2 a2 w2 => wpAny_pure ?_)
  have q2 : IsPair g2 TO pa pb := w2.extBut _ _ D.TOi1 (w1.extBut _ _ D.TOz q)
  refine wpAny_bind (wpAny_seqItems q2 rfl ?_); refine wpAny_bind (wpAny_updateSeq_pair q2 fun g3 q3 w3 => ?_)
  replace q3 : IsPair g3 TO x pb := q3
  refine wpAny_bind (wpAny_letGo (wpAny_pure ?_)); refine wpAny_bind (wpAny_bind (wpAny_onRaise ?_)); show wpAny _ _ (Builtin.SmallTypes.nextOf (.ref i2) >>= _) _ _ _
  refine wpAny_bind (wpAny_nextOf_list_item (((m2.extBut w1.extBut D.i2z).extBut w2.extBut D.i12.symm).extBut w3.extBut D.TOi2.symm) (((n2.extBut w1.extBut D.l2z).extBut w2.extBut D.l2i1).extBut w3.extBut D.l2TO) ey fun g4 b4 w4 => wpAny_pure ?_)
  have q4 : IsPair g4 TO x pb := w4.extBut _ _ D.TOi2 q3
  refine wpAny_bind (wpAny_seqItems q4 rfl ?_); refine wpAny_bind (wpAny_updateSeq_pair q4 fun g5 q5 w5 => ?_)
  replace q5 : IsPair g5 TO x y := q5
  refine wpAny_bind (wpAny_letGo (wpAny_pure (wpAny_pure ?_))); refine wpAny_bind (wpAny_seqItems q5 rfl ?_); refine wpAny_bind (wpAny_newTuple ?_)
  have sz : g5.objs.size = s.heap.objs.size := by rw [w5.1, w4.1, w3.1, w2.1, w1.1]
  have o5 : ZObj g5 z TI TO .ellipsis f := w5.extBut _ _ D.TOz.symm (w4.extBut _ _ D.i2z.symm (w3.extBut _ _ D.TOz.symm (w2.extBut _ _ D.i1z.symm o1)))
  have kp : ∀ c v, c ≠ z → c ≠ TO → c ≠ i1 → c ≠ i2 → s.heap.get? c = some v → g5.get? c = some v := fun c v c1 c2 c3 c4 e => w5.extBut _ _ c2 (w4.extBut _ _ c4 (w3.extBut _ _ c2 (w2.extBut _ _ c3 (w1.extBut _ _ c1 e))))
  have a5 : g5.IsListIter i1 l1 (k1 + 1) := ((a2.extBut w3.extBut D.TOi1.symm).extBut w4.extBut D.i12).extBut w5.extBut D.TOi1.symm
  have b5 : g5.IsListIter i2 l2 (k2 + 1) := b4.extBut w5.extBut D.TOi2.symm
  have zlt : z < g5.objs.size := Heap.lt_size o5
  show wpAny _ _ (Builtin.SmallTypes.ownedTupleHandOut (.ref z) (.ref g5.objs.size) >>= _) _ _ _
  refine wpAny_bind ?_; unfold Builtin.SmallTypes.ownedTupleHandOut
  have o6 : ZObj (g5.push { cls := .type "tuple", data := .seq #[x, y] }) z TI TO .ellipsis f := Heap.get?_push_of_some _ o5
  refine wpAny_bind (wpAny_setField_rec o6 (by simp) fun g7 o7 w7 => ?_)
  replace o7 : ZObj g7 z TI TO (rawInt g5.objs.size) f := o7
  refine wpAny_setField_rec o7 (by simp) fun g8 o8 w8 => ?_
  replace o8 : ZObj g8 z TI TO (rawInt g5.objs.size) false := o8
  have up : ∀ c v, c ≠ z → g5.get? c = some v → g8.get? c = some v := fun c v c1 e => w8.extBut _ _ c1 (w7.extBut _ _ c1 (Heap.get?_push_of_some _ e))
  have p8 : IsPair g8 g5.objs.size x y := w8.extBut _ _ (Nat.ne_of_gt zlt) (w7.extBut _ _ (Nat.ne_of_gt zlt) (Heap.get?_push_size _ rfl))
  have s8 : g8.objs.size = g5.objs.size + 1 := by rw [w8.1, w7.1, Heap.size_push]
  rw [sz] at o8 p8 s8
  refine wpAny_pure ⟨_, rfl, ?_⟩; show Q (.ref g5.objs.size) _
  rw [sz]
  exact out g8 o8 (up _ _ D.TOz q5) (a5.at fun v e => up _ v D.i1z e) (b5.at fun v e => up _ v D.i2z e) p8 s8 fun c v c1 c2 c3 c4 e => up c v c1 (kp c v c1 c2 c3 c4 e)
/-- the end, where the zip's own tuple is free -/
theorem zq_end {Q : Fin → Shared → Prop} (hh : A.handled = none) (D : ZipApart z TI TO i1 i2 l1 l2) (o : ZObj s.heap z TI TO u f) (fr : ∀ R : Bool → Shared → Prop, R true s → wpAny (model prog w) A (Builtin.SmallTypes.ownedTupleIsFree (.ref z)) R E s)
    (t : IsPair s.heap TI (.ref i1) (.ref i2)) (q : IsPair s.heap TO pa pb) (m1 : s.heap.IsListIter i1 l1 k1) (m2 : s.heap.IsListIter i2 l2 k2) (n1 : s.heap.IsList l1 xs) (n2 : s.heap.IsList l2 ys) (no : xs[k1]? = none ∨ ys[k2]? = none)
    (out : ∀ g e, (∀ c v, c ≠ z → c ≠ TO → c ≠ i1 → c ≠ i2 → s.heap.get? c = some v → g.get? c = some v) → (∃ v, g.get? e = some v ∧ v.cls = .type "StopIteration") → E (.ref e) { s with heap := g }) : wpAny (model prog w) A (Builtin.«zip.__next__» ⟨[.ref z], []⟩) Q E s := by
  show wpAny _ _ (field (.ref z) 2 >>= _) _ _ s
  refine wpAny_bind (wpAny_field o rfl (x := .bool false) rfl ?_); show wpAny _ _ (field (.ref z) 3 >>= _) _ _ s
  refine wpAny_bind (wpAny_field o rfl (x := .ref TI) rfl ?_); refine wpAny_bind (wpAny_seqItems t rfl ?_)
  show wpAny _ _ (Builtin.SmallTypes.ownedTupleIsFree (.ref z) >>= _) _ _ s
  refine wpAny_bind (fr _ ?_); simp only [if_true]
  refine wpAny_bind (wpAny_rule ?_); refine wpAny_bind (wpAny_field o rfl (x := .ref TO) rfl ?_); refine wpAny_bind (wpAny_setField_rec o (by simp) fun g1 o1 w1 => ?_)
  replace o1 : ZObj g1 z TI TO .ellipsis f := o1
  refine wpAny_bind ?_; simp only [List.zipIdx_cons, List.zipIdx_nil, List.forIn_cons, List.forIn_nil]
  refine wpAny_bind (wpAny_bind (wpAny_onRaise ?_)); show wpAny _ _ (Builtin.SmallTypes.nextOf (.ref i1) >>= _) _ _ _
  cases ex : xs[k1]? with
  | none =>
    refine wpAny_bind (wpAny_nextOf_list_end hh (m1.extBut w1.extBut D.i1z) (n1.extBut w1.extBut D.l1z) ex fun g2 e w2 he => ?_)
    obtain ⟨oe, h1, h2⟩ := he
    have o2 : ZObj g2 z TI TO .ellipsis f := w2 _ _ D.i1z.symm o1
    have ne : e ≠ z := fun x => by subst x; rw [o2] at h1; cases h1; simp at h2
    exact wpAny_setField_rec o2 (by simp) fun g3 _ w3 => out g3 e (fun c v c1 _ c3 _ x => w3.extBut _ _ c1 (w2 _ _ c3 (w1.extBut _ _ c1 x))) ⟨oe, w3.extBut _ _ ne h1, h2⟩
  | some x =>
    have ey : ys[k2]? = none := by
      rcases no with h | h
      · rw [ex] at h; cases h
      · exact h
    refine wpAny_bind (wpAny_nextOf_list_item (m1.extBut w1.extBut D.i1z) (n1.extBut w1.extBut D.l1z) ex fun g2 a2 w2 => wpAny_pure ?_)
    have q2 : IsPair g2 TO pa pb := w2.extBut _ _ D.TOi1 (w1.extBut _ _ D.TOz q)
    refine wpAny_bind (wpAny_seqItems q2 rfl ?_); refine wpAny_bind (wpAny_updateSeq_pair q2 fun g3 q3 w3 => ?_)
    refine wpAny_bind (wpAny_letGo (wpAny_pure ?_)); refine wpAny_bind (wpAny_bind (wpAny_onRaise ?_)); show wpAny _ _ (Builtin.SmallTypes.nextOf (.ref i2) >>= _) _ _ _
    refine wpAny_bind (wpAny_nextOf_list_end hh (((m2.extBut w1.extBut D.i2z).extBut w2.extBut D.i12.symm).extBut w3.extBut D.TOi2.symm) (((n2.extBut w1.extBut D.l2z).extBut w2.extBut D.l2i1).extBut w3.extBut D.l2TO) ey fun g4 e w4 he => ?_)
    obtain ⟨oe, h1, h2⟩ := he
    have o4 : ZObj g4 z TI TO .ellipsis f := w4 _ _ D.i2z.symm (w3.extBut _ _ D.TOz.symm (w2.extBut _ _ D.i1z.symm o1))
    have ne : e ≠ z := fun x => by subst x; rw [o4] at h1; cases h1; simp at h2
    exact wpAny_setField_rec o4 (by simp) fun g5 _ w5 => out g5 e (fun c v c1 c2 c3 c4 x => w5.extBut _ _ c1 (w4 _ _ c4 (w3.extBut _ _ c2 (w2.extBut _ _ c3 (w1.extBut _ _ c1 x))))) ⟨oe, w5.extBut _ _ ne h1, h2⟩
end
end
end HW

namespace HW
open PySem PySem.Spec PyProof.Rows L2
open PySem.Sem (wp)
noncomputable section
/-- a zip of two lists that may have handed out its pair -/
structure ZSt (z TI TO i1 i2 a b : Addr) (i : Nat) (h : Heap) : Prop where
  ob : ∃ u f, ZObj h z TI TO u f ∧ (u = .none ∨ ∃ T : Addr, u = rawInt T)
  ti : IsPair h TI (.ref i1) (.ref i2)
  to : ∃ x y, IsPair h TO x y
  it1 : h.IsListIter i1 a i
  it2 : h.IsListIter i2 b i
section
variable {prog : Program} {w : World} {A : Around} {E : Value → Shared → Prop} {s : Shared} {z TI TO i1 i2 l1 l2 : Addr} {i : Nat} {xs ys : Array Value} {x y : Value}
theorem ZSt.keep {h h' : Heap} (st : ZSt z TI TO i1 i2 l1 l2 i h) (k : ∀ b ∈ [z, TI, TO, i1, i2], ∀ o, h.get? b = some o → h'.get? b = some o) : ZSt z TI TO i1 i2 l1 l2 i h' := by
  obtain ⟨⟨u, f, o, v⟩, t, ⟨p, q, t2⟩, m1, m2⟩ := st
  exact ⟨⟨u, f, k z (by simp) _ o, v⟩, k TI (by simp) _ t, ⟨p, q, k TO (by simp) _ t2⟩, m1.at fun o e => k i1 (by simp) o e, m2.at fun o e => k i2 (by simp) o e⟩
theorem zq_next {Q : Value → Shared → Prop} (D : ZipApart z TI TO i1 i2 l1 l2) (st : ZSt z TI TO i1 i2 l1 l2 i s.heap) (n1 : s.heap.IsList l1 xs) (n2 : s.heap.IsList l2 ys) (ex : xs[i]? = some x) (ey : ys[i]? = some y)
    (out : ∀ g, ZSt z TI TO i1 i2 l1 l2 (i + 1) g → IsPair g s.heap.objs.size x y → g.objs.size = s.heap.objs.size + 1 → (∀ c v, c ≠ z → c ≠ TO → c ≠ i1 → c ≠ i2 → s.heap.get? c = some v → g.get? c = some v) → Q (.ref s.heap.objs.size) { s with heap := g }) :
    wpAny (model prog w) A (Builtin.SmallTypes.nextOf (.ref z)) Q E s := by
  obtain ⟨⟨u, f, o, v⟩, t, ⟨p, q, t2⟩, m1, m2⟩ := st
  have ty : s.TypeIs (.ref z) "zip" := ⟨_, o, rfl⟩
  unfold Builtin.SmallTypes.nextOf
  have A1 : (∀ R : Bool → Shared → Prop, R true s → wpAny (model prog w) A.in1 (Builtin.SmallTypes.ownedTupleIsFree (.ref z)) R E s) → wpAny (model prog w) A.in1 (Builtin.«zip.__next__» ⟨[.ref z], []⟩) (fun r s' => ∃ v, r = .done (.ret v) ∧ wpAny (model prog w) A (pure v) Q E s') E s := fun fr =>
    zq_item D o fr t t2 m1 m2 n1 n2 ex ey fun g o' t2' m1' m2' pr sz kp => wpAny_pure (out g ⟨⟨_, _, o', .inr ⟨_, rfl⟩⟩, kp _ _ D.TIz D.TITO D.TIi1 D.TIi2 t, ⟨_, _, t2'⟩, m1', m2'⟩ pr sz kp)
  refine wpAny_bind (wpAny_callSpecial?_slot (name := Str.ofString "__next__") ty F.slot_zip_next (wpAny_call_entry F.slot_zip_next ty F.entry_zip_next ?_ (F.args_zip_next_1 _)))
  rcases v with rfl | ⟨T, rfl⟩
  · exact A1 fun R h => free_none o h
  · cases hT : s.heap.get? T with
    | none => exact A1 fun R h => free_gone o hT h
    | some oT =>
      refine zip_next_item_held D o hT t m1 m2 n1 n2 ex ey fun g o' m1' m2' pr sz kp => wpAny_pure (out g ⟨⟨_, _, o', .inr ⟨_, rfl⟩⟩, kp _ _ D.TIz D.TIi1 D.TIi2 t, ⟨_, _, kp _ _ D.TOz D.TOi1 D.TOi2 t2⟩, m1', m2'⟩ pr sz fun c v c1 _ c3 c4 e => kp c v c1 c3 c4 e)
theorem zq_stop {Q : Value → Shared → Prop} (hh : A.handled = none) (D : ZipApart z TI TO i1 i2 l1 l2) (st : ZSt z TI TO i1 i2 l1 l2 i s.heap) (n1 : s.heap.IsList l1 xs) (n2 : s.heap.IsList l2 ys) (no : xs[i]? = none ∨ ys[i]? = none)
    (out : ∀ g e, (∀ c v, c ≠ z → c ≠ TO → c ≠ i1 → c ≠ i2 → s.heap.get? c = some v → g.get? c = some v) → (∃ v, g.get? e = some v ∧ v.cls = .type "StopIteration") → E (.ref e) { s with heap := g }) :
    wpAny (model prog w) A (Builtin.SmallTypes.nextOf (.ref z)) Q E s := by
  obtain ⟨⟨u, f, o, v⟩, t, ⟨p, q, t2⟩, m1, m2⟩ := st
  have ty : s.TypeIs (.ref z) "zip" := ⟨_, o, rfl⟩
  unfold Builtin.SmallTypes.nextOf
  refine wpAny_bind (wpAny_callSpecial?_slot (name := Str.ofString "__next__") ty F.slot_zip_next (wpAny_call_entry F.slot_zip_next ty F.entry_zip_next ?_ (F.args_zip_next_1 _)))
  rcases v with rfl | ⟨T, rfl⟩
  · exact zq_end hh D o (fun R h => free_none o h) t t2 m1 m2 n1 n2 no out
  · cases hT : s.heap.get? T with
    | none => exact zq_end hh D o (fun R h => free_gone o hT h) t t2 m1 m2 n1 n2 no out
    | some oT => exact zip_next_end_held hh D o hT t m1 m2 n1 n2 no fun g e kp he => out g e (fun c v c1 _ c3 c4 e => kp c v c1 c3 c4 e) he
/-- enumerate's next, over such a zip -/
theorem eq_item {e : Addr} {Q : Value → Shared → Prop} {old : Value} (D : ZipApart z TI TO i1 i2 l1 l2) (ez : e ∉ [z, TI, TO, i1, i2]) (el : e ≠ l1 ∧ e ≠ l2) (he : IsEnum s.heap e z i old) (st : ZSt z TI TO i1 i2 l1 l2 i s.heap) (n1 : s.heap.IsList l1 xs) (n2 : s.heap.IsList l2 ys) (ex : xs[i]? = some x) (ey : ys[i]? = some y)
    (out : ∀ g, IsEnumOut g e z ((i : Int) + 1) (.ref s.heap.objs.size) (s.heap.objs.size + 1) → ZSt z TI TO i1 i2 l1 l2 (i + 1) g → IsPair g s.heap.objs.size x y → g.get? (s.heap.objs.size + 1) = some { cls := .type "tuple", data := .seq #[.int i s.toks, .ref s.heap.objs.size] } → g.objs.size = s.heap.objs.size + 2 →
      (∀ c v, c ∉ [e, z, TI, TO, i1, i2] → s.heap.get? c = some v → g.get? c = some v) → Q (.ref (s.heap.objs.size + 1)) { s with heap := g, toks := s.toks + 1 }) :
    wpAny (model prog w) A (Builtin.«enumerate.__next__» ⟨[.ref e], []⟩) (fun r s' => ∃ v, r = .done (.ret v) ∧ Q v s') E s := by
  obtain ⟨hp, g, d, tk, os⟩ := s
  simp only [List.mem_cons, List.not_mem_nil, or_false, not_or] at ez
  obtain ⟨ez, eTI, eTO, e1, e2⟩ := ez
  show wpAny _ _ (field (.ref e) 2 >>= _) _ _ _
  refine wpAny_bind (wpAny_field he rfl (x := .ref z) rfl ?_); refine wpAny_bind (zq_next D st n1 n2 ex ey fun h1 st1 pr sz kp => ?_)
  replace pr : IsPair h1 hp.objs.size x y := pr
  replace sz : h1.objs.size = hp.objs.size + 1 := sz
  have he1 : IsEnum h1 e z i old := kp _ _ ez eTO e1 e2 he
  have elt : e < hp.objs.size := Heap.lt_size he
  show wpAny _ _ (field (.ref e) 3 >>= _) _ _ ⟨h1, g, d, tk, os⟩
  refine wpAny_bind (wpAny_field he1 rfl (x := rawInt i) rfl ?_); show wpAny _ _ (field (.ref e) 4 >>= _) _ _ ⟨h1, g, d, tk, os⟩
  refine wpAny_bind (wpAny_field he1 rfl (x := .none) rfl ?_); show wpAny _ _ (mkInt i >>= _) _ _ ⟨h1, g, d, tk, os⟩
  refine wpAny_bind (wpAny_mkInt ?_); show wpAny _ _ (setField (.ref e) 3 (rawInt ((i : Int) + 1)) >>= _) _ _ ⟨h1, g, d, tk + 1, os⟩
  refine wpAny_bind (wpAny_setField_rec he1 (by simp) fun h2 he2 w2 => ?_)
  replace he2 : IsEnum h2 e z ((i : Int) + 1) old := he2
  replace w2 : Heap.SameBut e h1 h2 := w2
  show wpAny _ _ (setField (.ref e) 4 .none >>= _) _ _ ⟨h2, g, d, tk + 1, os⟩
  refine wpAny_bind (wpAny_setField_rec he2 (by simp) fun h3 he3 w3 => ?_)
  replace he3 : IsEnum h3 e z ((i : Int) + 1) old := he3
  replace w3 : Heap.SameBut e h2 h3 := w3
  show wpAny _ _ (newTuple [.int i tk, .ref hp.objs.size] >>= _) _ _ ⟨h3, g, d, tk + 1, os⟩
  refine wpAny_bind (wpAny_newTuple ?_)
  have sz3 : h3.objs.size = hp.objs.size + 1 := by rw [w3.1, w2.1, sz]
  have he4 : IsEnum (h3.push { cls := .type "tuple", data := .seq #[.int i tk, .ref hp.objs.size] }) e z ((i : Int) + 1) old := Heap.get?_push_of_some _ he3
  generalize hh4 : h3.push { cls := .type "tuple", data := .seq #[.int i tk, .ref hp.objs.size] } = h4 at he4
  have t4 : h4.get? (hp.objs.size + 1) = some { cls := .type "tuple", data := .seq #[.int i tk, .ref hp.objs.size] } := by rw [← hh4, ← sz3]; exact Heap.get?_push_size _ rfl
  have s4 : h4.objs.size = hp.objs.size + 2 := by rw [← hh4, Heap.size_push, sz3]
  have k4 : ∀ c v, c ≠ e → h1.get? c = some v → h4.get? c = some v := fun c v ce q => by rw [← hh4]; exact Heap.get?_push_of_some _ (w3.extBut c v ce (w2.extBut c v ce q))
  show wpAny _ _ (Builtin.SmallTypes.ownedTupleIsFree (.ref e) >>= _) _ _ ⟨h4, g, d, tk + 1, os⟩
  rw [sz3]
  clear hh4
  refine wpAny_bind ?_; unfold Builtin.SmallTypes.ownedTupleIsFree
  refine wpAny_bind (wpAny_field he4 rfl (x := .none) rfl (wpAny_pure ?_)); simp only [if_true]
  refine wpAny_bind (wpAny_rule ?_); refine wpAny_bind (wpAny_field he4 rfl (x := old) rfl ?_); refine wpAny_bind (wpAny_setField_rec he4 (by simp) fun h5 he5 w5 => ?_)
  replace w5 : Heap.SameBut e h4 h5 := w5
  replace he5 : IsEnum h5 e z ((i : Int) + 1) (.ref hp.objs.size) := he5
  show wpAny _ _ (Builtin.SmallTypes.ownedTupleHandOut (.ref e) (.ref (hp.objs.size + 1)) >>= _) _ _ ⟨h5, g, d, tk + 1, os⟩
  refine wpAny_bind ?_; unfold Builtin.SmallTypes.ownedTupleHandOut
  refine wpAny_bind (wpAny_setField_rec he5 (by simp) fun h6 he6 w6 => ?_)
  replace w6 : Heap.SameBut e h5 h6 := w6
  replace he6 : IsEnumOut h6 e z ((i : Int) + 1) (.ref hp.objs.size) (hp.objs.size + 1) := he6
  refine wpAny_setField_rec he6 (by simp) fun h7 he7 w7 => ?_
  replace w7 : Heap.SameBut e h6 h7 := w7
  replace he7 : IsEnumOut h7 e z ((i : Int) + 1) (.ref hp.objs.size) (hp.objs.size + 1) := he7
  have k7 : ∀ c v, c ≠ e → h4.get? c = some v → h7.get? c = some v := fun c v ce q => w7.extBut c v ce (w6.extBut c v ce (w5.extBut c v ce q))
  have ne : ∀ c, c ∈ [z, TI, TO, i1, i2] → c ≠ e := fun c hc q => by
    subst q
    simp only [List.mem_cons, List.not_mem_nil, or_false] at hc
    rcases hc with h | h | h | h | h
    · exact ez h
    · exact eTI h
    · exact eTO h
    · exact e1 h
    · exact e2 h
  refine wpAny_bind (wpAny_letGo (wpAny_pure ⟨_, rfl, out h7 he7 ?_ ?_ ?_ ?_ ?_⟩))
  · exact st1.keep fun c hc v q => k7 c v (ne c hc) (k4 c v (ne c hc) q)
  · exact k7 _ _ (Nat.ne_of_gt elt) (k4 _ _ (Nat.ne_of_gt elt) pr)
  · exact k7 _ _ (Nat.ne_of_gt (Nat.lt_succ_of_lt elt)) t4
  · rw [w7.1, w6.1, w5.1, s4]
  · intro c v hc q
    simp only [List.mem_cons, List.not_mem_nil, or_false, not_or] at hc
    exact k7 c v hc.1 (k4 c v hc.1 (kp c v hc.2.1 hc.2.2.2.1 hc.2.2.2.2.1 hc.2.2.2.2.2 q))
end
end
end HW

namespace HW
open PySem PySem.Spec PyProof.Rows L2
open PySem.Sem (wp)
noncomputable section
section
variable {X : Cx} {pins : List (Addr × Obj)} {σ : L2.St} {H H2 : Hp} {s : Shared} {h' : Heap}
/-- iterators at ch turn, and some new objects are laid -/
theorem turnedMore {t' : Nat} {ch : List Addr} (I : Inv X pins σ H s) (k : ∀ b v, b ∉ ch → s.heap.get? b = some v → h'.get? b = some v) (hf : ∀ b ∈ ch, FpOk X pins H b) (sm : Same H H2) (old : ∀ b, b < s.heap.objs.size → H2 b = H b)
    (new : ∀ b u, H b = none → H2 b = some u → ObjOk X.prog X.w H2 h' b u) : Inv X pins σ H2 { s with heap := h', toks := t' } := by
  have off : ∀ b u, H b = some u → b ∉ ch := fun b u e z => by
    rw [(hf b z).1] at e
    cases e
  refine I.step (g' := s.gens) (d' := s.drawn) (ch := ch) (fun b zhb => ?_) (fun b v _ _ zhc e _ => k b v zhc e) (fun b v _ _ zhc e _ => ⟨v.slots, k b v zhc e⟩) (fun b v _ e n => ?_) (fun b v zhc e => ⟨v, k b v zhc e⟩) (fun b xs e => sm b _ e) (fun b o u e => sm b _ e) (fun b ps e => ⟨#[], ?_⟩) (fun m zhm => ?_) (fun b u e => ?_) I.bare
  · obtain ⟨q1, q2, q3, q4, q5, q6⟩ := hf b zhb
    exact ⟨q4, q2, q5, q6⟩
  · rw [old b (Heap.lt_size e)]
    exact n
  · rw [sm b _ e]
    simp
  · obtain ⟨o, es, ep, zho, r⟩ := zhm
    exact ⟨o, es, ep, k _ o (fun z => (hf _ z).2.1 rfl) zho, r⟩
  · cases zhb : H b with
    | none => exact new b u zhb e
    | some u0 =>
      have e2 := sm b _ zhb
      rw [e] at e2
      cases e2
      refine (I.hok b u zhb).stay (fun c v zhc q => k c v ?_ q) (fun c q => sm c _ q) fun c xs q => sm c _ q
      rcases zhc with z | z
      · rw [z]
        exact off b u zhb
      · exact off c _ z
end
section
variable {prog : Program} {w : World} {A : Around} {E : Value → Shared → Prop} {s : Shared} {e z TI TO i1 i2 l1 l2 : Addr} {i : Nat} {xs ys : Array Value} {x y old : Value}
theorem eq_next {Q : Option Value → Shared → Prop} (D : ZipApart z TI TO i1 i2 l1 l2) (ez : e ∉ [z, TI, TO, i1, i2]) (el : e ≠ l1 ∧ e ≠ l2) (he : IsEnum s.heap e z i old) (st : ZSt z TI TO i1 i2 l1 l2 i s.heap) (n1 : s.heap.IsList l1 xs) (n2 : s.heap.IsList l2 ys) (ex : xs[i]? = some x) (ey : ys[i]? = some y)
    (out : ∀ g, IsEnumOut g e z ((i : Int) + 1) (.ref s.heap.objs.size) (s.heap.objs.size + 1) → ZSt z TI TO i1 i2 l1 l2 (i + 1) g → IsPair g s.heap.objs.size x y → g.get? (s.heap.objs.size + 1) = some { cls := .type "tuple", data := .seq #[.int i s.toks, .ref s.heap.objs.size] } → g.objs.size = s.heap.objs.size + 2 →
      (∀ c v, c ∉ [e, z, TI, TO, i1, i2] → s.heap.get? c = some v → g.get? c = some v) → Q (some (.ref (s.heap.objs.size + 1))) { s with heap := g, toks := s.toks + 1 }) :
    wpAny (model prog w) A (pyNext (.ref e)) Q E s := by
  have ty : s.TypeIs (.ref e) "enumerate" := ⟨_, he, rfl⟩
  unfold pyNext
  exact wpAny_bind (wpAny_attempt (wpAny_callSpecial?_slot (name := Str.ofString "__next__") ty F.slot_enumerate_next (wpAny_call_entry F.slot_enumerate_next ty F.entry_enumerate_next (eq_item D ez el he st n1 n2 ex ey fun g q1 q2 q3 q4 q5 q6 => wpAny_pure (out g q1 q2 q3 q4 q5 q6)) (F.args_enumerate_next_1 _))))
theorem eq_stop {Q : Option Value → Shared → Prop} (hh : A.handled = none) (D : ZipApart z TI TO i1 i2 l1 l2) (he : IsEnum s.heap e z i old) (st : ZSt z TI TO i1 i2 l1 l2 i s.heap) (n1 : s.heap.IsList l1 xs) (n2 : s.heap.IsList l2 ys) (no : xs[i]? = none ∨ ys[i]? = none)
    (out : ∀ g, (∀ c v, c ≠ z → c ≠ TO → c ≠ i1 → c ≠ i2 → s.heap.get? c = some v → g.get? c = some v) → Q none { s with heap := g }) : wpAny (model prog w) A (pyNext (.ref e)) Q E s := by
  have ty : s.TypeIs (.ref e) "enumerate" := ⟨_, he, rfl⟩
  unfold pyNext
  refine wpAny_bind (wpAny_attempt (wpAny_callSpecial?_slot (name := Str.ofString "__next__") ty F.slot_enumerate_next (wpAny_call_entry F.slot_enumerate_next ty F.entry_enumerate_next ?_ (F.args_enumerate_next_1 _))))
  show wpAny _ _ (field (.ref e) 2 >>= _) _ _ s
  refine wpAny_bind (wpAny_field he rfl (x := .ref z) rfl ?_); refine wpAny_bind (zq_stop hh D st n1 n2 no fun g v kp hx => ?_)
  obtain ⟨o, ho, hc⟩ := hx
  exact wpAny_bind (wpAny_isInstance (T := "StopIteration") (b := true) ⟨o, ho, hc⟩ isSubtype_stop (wpAny_pure (out _ kp)))
end
/-- the lists at a and b, each two items in a new pair, each pair with its number in a new one -/
def IteZ (K : PySem.W.Frag) (a b : Addr) : It :=
  ⟨fun i H => ∃ (xs ys : List V) (x y : V), SqL K H a xs ∧ SqL K H b ys ∧ xs[i]? = some x ∧ ys[i]? = some y,
    fun i H v H' => ∃ T x y, v = .ref (T + 1) ∧ H T = none ∧ H (T + 1) = none ∧ H' = upd (upd H T (.tup [x, y])) (T + 1) (.tup [.int (i : Nat), .ref T]) ∧ (∀ xs, SqL K H a xs → xs[i]? = some x) ∧ ∀ ys, SqL K H b ys → ys[i]? = some y,
    fun i H => ∃ xs ys : List V, SqL K H a xs ∧ SqL K H b ys ∧ (xs.length ≤ i ∨ ys.length ≤ i)⟩
end
end HW

namespace HW
open PySem PySem.Spec PyProof.Rows L2
open PySem.Sem (wp)
noncomputable section
/-- what the loop over enumerate(zip(a, b)) stands on -/
def EZt (e z TI TO i1 i2 a b : Addr) (i : Nat) (h : Heap) : Prop := (∃ old, IsEnum h e z ((i : Nat) : Int) old) ∧ ZSt z TI TO i1 i2 a b i h
theorem turn_enumZ {P : Program} {w : World} {K : PySem.W.Frag} {elts : List Expr} {kk : Nat} {tpos : Pos} {e z TI TO i1 i2 a b : Addr} (D : ZipApart z TI TO i1 i2 a b) (ez : e ∉ [z, TI, TO, i1, i2]) (el : e ≠ a ∧ e ≠ b) :
    Turn P w K (.Tuple elts kk tpos) (IteZ K a b) [e, z, TI, TO, i1, i2] e (EZt e z TI TO i1 i2 a b) where
  mem := by simp
  obj := fun i h st c zhc => by
    obtain ⟨⟨old, zhe⟩, ⟨⟨u, f, o, _⟩, t, ⟨x, y, t2⟩, ⟨o1, e1, _, d1⟩, ⟨o2, e2, _, d2⟩⟩⟩ := st
    have e' : c = e ∨ c = z ∨ c = TI ∨ c = TO ∨ c = i1 ∨ c = i2 := by simpa using zhc
    rcases e' with rfl | rfl | rfl | rfl | rfl | rfl
    · exact ⟨_, zhe, fun v q => nomatch q⟩
    · exact ⟨_, o, fun v q => nomatch q⟩
    · exact ⟨_, t, fun v q => nomatch q⟩
    · exact ⟨_, t2, fun v q => nomatch q⟩
    · exact ⟨o1, e1, fun v q => by rw [d1] at q; cases q⟩
    · exact ⟨o2, e2, fun v q => by rw [d2] at q; cases q⟩
  keep := fun i h zh' st k => ⟨let ⟨old, zhe⟩ := st.1; ⟨old, k e (by simp) _ zhe⟩, st.2.keep fun c zhc o q => k c (List.mem_cons_of_mem _ zhc) o q⟩
  item := by
    intro X hP hw hK zhc i pins s σ H E I hf st hg
    subst hP hw hK
    obtain ⟨⟨old, zhe⟩, zhz⟩ := st
    obtain ⟨xs, ys, x, y, zhqx, zhqy, zhx, zhy⟩ := hg
    obtain ⟨its, rv, p, _⟩ := I.list zhqx
    obtain ⟨its2, rv2, p2, _⟩ := I.list zhqy
    obtain ⟨u, zhu, ru⟩ := rv.get zhx
    obtain ⟨u2, zhu2, ru2⟩ := rv2.get zhy
    have elt : e < s.heap.objs.size := Heap.lt_size zhe
    have lts : ∀ c ∈ [e, z, TI, TO, i1, i2], c < s.heap.objs.size := fun c zhc => by
      obtain ⟨⟨u, f, o, _⟩, t, ⟨x, y, t2⟩, ⟨o1, e1, _⟩, ⟨o2, e2, _⟩⟩ := zhz
      have e' : c = e ∨ c = z ∨ c = TI ∨ c = TO ∨ c = i1 ∨ c = i2 := by simpa using zhc
      rcases e' with rfl | rfl | rfl | rfl | rfl | rfl
      · exact elt
      · exact Heap.lt_size o
      · exact Heap.lt_size t
      · exact Heap.lt_size t2
      · exact Heap.lt_size e1
      · exact Heap.lt_size e2
    refine eq_next D ez el zhe zhz p.isList p2.isList (x := u) (y := u2) (by simpa using zhu) (by simpa using zhu2) fun g q1 q2 q3 q4 q5 q6 => ?_
    refine ⟨_, rfl, wpAny_letOwnedTupleGo_enum (s := { s with heap := g, toks := s.toks + 1 }) q1 fun g2 o2 w2 => ?_⟩
    have n0 : H s.heap.objs.size = none := I.hok.fresh (Nat.le_refl _)
    have n1 : H (s.heap.objs.size + 1) = none := I.hok.fresh (Nat.le_succ _)
    have ne01 : s.heap.objs.size ≠ s.heap.objs.size + 1 := Nat.ne_of_lt (Nat.lt_succ_self _)
    have n1' : upd H s.heap.objs.size (.tup [x, y]) (s.heap.objs.size + 1) = none := by rw [upd_ne (Ne.symm ne01)]; exact n1
    have g0 : g2.get? s.heap.objs.size = some { cls := .type "tuple", data := .seq #[u, u2] } := (w2.2 _ (Nat.ne_of_gt elt)).trans q3
    have g1 : g2.get? (s.heap.objs.size + 1) = some { cls := .type "tuple", data := .seq #[.int i s.toks, .ref s.heap.objs.size] } := (w2.2 _ (Nat.ne_of_gt (Nat.lt_succ_of_lt elt))).trans q4
    have I1 : Inv X pins σ (upd (upd H s.heap.objs.size (.tup [x, y])) (s.heap.objs.size + 1) (.tup [.int (i : Nat), .ref s.heap.objs.size])) { s with heap := g2, toks := s.toks + 1 } := by
      refine turnedMore (ch := [e, z, TI, TO, i1, i2]) I (fun c v zhc q => (w2.2 c (fun q' => zhc (by simp [q']))).trans (q6 c v zhc q)) hf ((same_upd n0).trans (same_upd n1')) (fun c zhc => ?_) fun c v zhn q => ?_
      · rw [upd_ne (Nat.ne_of_lt (Nat.lt_succ_of_lt zhc)), upd_ne (Nat.ne_of_lt zhc)]
      · by_cases c1 : c = s.heap.objs.size + 1
        · subst c1
          rw [upd_same] at q
          cases q
          exact ⟨by show 2 ≤ sizeLine; decide, [.int i s.toks, .ref s.heap.objs.size], .cons (show L2.RelV (.int (i : Nat)) (.int (i : Nat) s.toks) from ⟨s.toks, rfl⟩) (.cons (show L2.RelV (.ref s.heap.objs.size) (.ref s.heap.objs.size) from rfl) .nil), ⟨_, g1, rfl, _, rfl⟩⟩
        · rw [upd_ne c1] at q
          by_cases c0 : c = s.heap.objs.size
          · subst c0
            rw [upd_same] at q
            cases q
            exact ⟨by show 2 ≤ sizeLine; decide, [u, u2], .cons ru (.cons ru2 .nil), ⟨_, g0, rfl, _, rfl⟩⟩
          · rw [upd_ne c0, zhn] at q
            cases q
    refine ⟨.ref (s.heap.objs.size + 1), _, I1, rfl, ⟨s.heap.objs.size, x, y, rfl, n0, n1, rfl, fun l zhl => by rw [I.list_inj zhl zhqx]; exact zhx, fun l zhl => by rw [I.list_inj zhl zhqy]; exact zhy⟩, ⟨⟨.ref s.heap.objs.size, ?_⟩, q2.keep fun c zhc o q => (w2.2 c fun q' => ez (q' ▸ zhc)).trans q⟩, fun c zhc => ?_⟩
    · have e1 : ((i + 1 : Nat) : Int) = (i : Int) + 1 := by omega
      rw [e1]
      exact o2
    · have := lts c zhc
      rw [upd_ne (Nat.ne_of_lt (Nat.lt_succ_of_lt this)), upd_ne (Nat.ne_of_lt this)]
      exact (hf c zhc).1
  done := by
    intro X hP hw hK zhc i pins s σ H E I hf st hg
    subst hP hw hK
    obtain ⟨⟨old, zhe⟩, zhz⟩ := st
    obtain ⟨xs, ys, zhqx, zhqy, zhend⟩ := hg
    obtain ⟨its, rv, p, _⟩ := I.list zhqx
    obtain ⟨its2, rv2, p2, _⟩ := I.list zhqy
    have l1 := rv.length
    have l2 := rv2.length
    have no : its.toArray[i]? = none ∨ its2.toArray[i]? = none := by
      rcases zhend with q | q
      · exact .inl (by simp; omega)
      · exact .inr (by simp; omega)
    exact eq_stop (I.ok.hd zhc) D zhe zhz p.isList p2.isList no fun g k => ⟨rfl, I.turnedL (t' := s.toks) (ch := [e, z, TI, TO, i1, i2]) (fun c o zhb q => k c o (fun q' => zhb (by simp [q'])) (fun q' => zhb (by simp [q'])) (fun q' => zhb (by simp [q'])) (fun q' => zhb (by simp [q'])) q) hf⟩
  self := fun A i s Q E st h => let ⟨⟨_, zhe⟩, _⟩ := st; wpAny_pyIter_enum zhe h
theorem walk_enumZ {K : PySem.W.Frag} {F : Hp} {ad bd : Addr} {vs us : List V} {ps qs : List P} (h : LK K F ad vs) (d : DPs K F vs ps) (h' : LK K F bd us) (d' : DPs K F us qs) : WalkD K F (IteZ K ad bd) (enumL 0 (zipL ps qs)) := fun i F1 H s1 s2 => by
  have hq : SqL K H ad vs := ((h.mono s1).mono s2).seq
  have hq' : SqL K H bd us := ((h'.mono s1).mono s2).seq
  refine ⟨fun p hp => ?_, fun hl => ⟨vs, us, hq, hq', by rw [DPs.length d, DPs.length d']; rw [enumL_len, zipL_len] at hl; omega⟩⟩
  obtain ⟨r0, hr, rfl⟩ := enumL_get hp
  obtain ⟨p0, q0, h0, h1, rfl⟩ := zipL_get hr
  obtain ⟨v, hv, dv⟩ := DPs.get d h0
  obtain ⟨u, hu, du⟩ := DPs.get d' h1
  refine ⟨⟨vs, us, v, u, hq, hq', hv, hu⟩, fun x H' y => ?_⟩
  obtain ⟨T, x0, y0, rfl, hT, hT1, rfl, y1, y2⟩ := y
  have e : x0 = v := Option.some.inj ((y1 vs hq).symm.trans hv)
  subst e
  have e : y0 = u := Option.some.inj ((y2 us hq').symm.trans hu)
  subst e
  have F0 : F1 T = none := s2.free hT
  have ne : T + 1 ≠ T := Nat.succ_ne_self T
  have sA : Stp K F1 H (upd F1 T (.tup [x0, y0])) (upd H T (.tup [x0, y0])) := Stp.laid s2 hT
  have hn : upd H T (.tup [x0, y0]) (T + 1) = none := by rw [upd_ne ne]; exact hT1
  have fn : upd F1 T (.tup [x0, y0]) (T + 1) = none := by rw [upd_ne ne]; exact s2.free hT1
  have sm : Same (upd F1 T (.tup [x0, y0])) (upd H T (.tup [x0, y0])) := fun c o q => by
    by_cases hc : c = T
    · subst hc
      rw [upd_same] at q ⊢
      exact q
    · rw [upd_ne hc] at q ⊢
      exact s2 c o q
  have sB : Stp K (upd F1 T (.tup [x0, y0])) (upd H T (.tup [x0, y0])) (upd (upd F1 T (.tup [x0, y0])) (T + 1) (.tup [.int (i : Nat), .ref T])) (upd (upd H T (.tup [x0, y0])) (T + 1) (.tup [.int (i : Nat), .ref T])) := Stp.laid sm hn
  have dp : DP K (upd F1 T (.tup [x0, y0])) (.ref T) (.tuple [p0, q0]) := laid_tup (σ := []) (H := H) (ρ := []) (.cons (DP.mono dv s1) (.cons (DP.mono du s1) .nil)) F0
  refine ⟨_, ⟨sA.1.trans sB.1, sA.2.1.trans sB.2.1, fun cm W σ ρ r => sB.2.2 cm W σ ρ (sA.2.2 cm W σ ρ r)⟩, ?_⟩
  rw [Nat.zero_add]
  exact laid_tup (σ := []) (H := H) (ρ := []) (.cons (.int _) (.cons dp .nil)) fn
end
end HW

namespace HW
open PySem PySem.Spec PyProof.Rows L2
open PySem.Sem (wp)
noncomputable section
theorem meets_enumZ (z TI TO : Addr) :
    Meets (Builtin.«enumerate.__new__» ⟨[.type "enumerate", .ref z], []⟩) (fun _ R s => IsZip s.heap z TI TO .none ∧ R (.ok (.ret (.ref s.heap.objs.size))) { s with heap := s.heap.push { cls := .type "enumerate", data := .fields #[.none, .bool false, .ref z, rawInt 0, .none, .none] } }) :=
  .of_wp fun prog w A R s h => by
    obtain ⟨hp, g, d, tk, os⟩ := s
    obtain ⟨hz, h⟩ := h
    have sb := PySem.sub_enumerate
    have q1 : ∀ {A' : Around} {E : Value → Shared → Prop} {Q : Value → Shared → Prop}, Q (.ref z) ⟨hp, g, d, tk, os⟩ → wpAny (model prog w) A' (pyIter (.ref z)) Q E ⟨hp, g, d, tk, os⟩ := fun q => wpAny_pyIter_zip (show IsZip (Shared.heap ⟨hp, g, d, tk, os⟩) z TI TO .none from hz) q
    wp_walk
    refine wpAny_stack_any fun st => wpAny_pure ?_
    split
    · rename_i c _ _ _ _ _
      cases (c == Value.type "enumerate") <;> (wp_walk using q1; exact ⟨_, rfl, h⟩)
    · wp_walk using q1
      exact ⟨_, rfl, h⟩
section
variable {prog : Program} {w : World} {A : Around} {E : Value → Shared → Prop} {s : Shared}
theorem call_enumZ {z TI TO : Addr} {Q : Value → Shared → Prop} (hz : IsZip s.heap z TI TO .none)
    (h : ∀ g, IsEnum g s.heap.objs.size z 0 .none → g.objs.size = s.heap.objs.size + 1 → (∀ b o, s.heap.get? b = some o → g.get? b = some o) → Q (.ref s.heap.objs.size) { s with heap := g }) :
    wpAny (model prog w) A (call (.type "enumerate") [.ref z]) Q E s := by
  refine callType_new F.called_enumerate (by decide) (F.typeCall_enumerate_1 _) (F.newCall_enumerate_1 _) (fun ob => F.args_object_init_2 ob _) F.entry_enumerate_new (meets_enumZ z TI TO) ⟨hz, ?_⟩
  have he : IsEnum (s.heap.push { cls := .type "enumerate", data := .fields #[.none, .bool false, .ref z, rawInt 0, .none, .none] }) s.heap.objs.size z 0 .none := Heap.get?_push_size _ rfl
  exact ⟨⟨_, he, rfl⟩, h _ he (Heap.size_push ..) fun b o x => Heap.get?_push_of_some _ x⟩
end
theorem i_enumZ {X : Cx} {cm : Str → Addr → Prop} {b : Bool} {a c : Expr} {pos p q p2 tpos : Pos} {elts : List Expr} {kk : Nat} {f : EL} (hm : MgN X "enumerate") (hm2 : MgN X "zip") (ha : PA X [a, c] (tA X.K cm b f)) (hg : Gl X "enumerate" := by rfl) (hg2 : Gl X "zip" := by rfl)
    (hs : starEach [a, c] X.env = (false, eval a X.env) :: starEach [c] X.env := by rfl) (hpl : (backTo q (starEach [c] X.env)).any (·.1) = false := by rfl)
    (hz : starEach [.Call (.Name "zip" p2) [a, c] [] q] X.env = (false, eval (.Call (.Name "zip" p2) [a, c] [] q) X.env) :: starEach [] X.env := by rfl) :
    PI X (.Tuple elts kk tpos) (.Call (.Name "enumerate" p) [.Call (.Name "zip" p2) [a, c] [] q] [] pos) (tI X.K cm b (dItA enumZP f)) := by
  refine ⟨fun pins s σ H Rk I ⟨W, F, ρ, ps, ρ', r, e, k⟩ => ?_⟩
  simp only [dItA, Option.bind_eq_some_iff, Option.map_eq_some_iff] at e
  obtain ⟨⟨p1, ρ1⟩, e1, ys, e2, e3⟩ := e
  cases e3
  refine Call_ (ld_blt I hg hm boot_enumerate (PyProof.Rows.callWith_type1 ?_ hz rfl))
  rw [hz]
  show wpAny _ _ (spliced ((false, eval (.Call (.Name "zip" p2) [a, c] [] q) X.env) :: backTo pos (starEach [] X.env))) _ _ s
  refine Calls.spliced_cons (Call_ (ld_blt I hg2 hm2 PyProof.Rows.boot_zip (PyProof.Rows.callWith_type1 (thn (ha.run q pins s σ H (fun vs H' => ∃ F', R X.K cm W σ H' F' ρ1 ∧ Same F F' ∧ Pu b ρ ρ1 H H' ∧ DPs X.K F' vs p1) I ⟨W, F, ρ, p1, ρ1, r, e1, fun vs H1 F1 r1 s1 u1 d1 => ⟨F1, r1, s1, u1, d1⟩⟩) fun us s1 ⟨vs, H1, I1, rx, F1, r1, ss1, u1, d1⟩ => ?_) hs hpl)))
  have e2 : enumZP p1 = some _ := e2
  unfold enumZP at e2
  split at e2
  · cases e2
    cases d1 with
    | cons d1 d2 =>
    cases d2 with
    | cons d2 d3 =>
    cases d3
    cases d1 with
    | lst h1 h2 =>
    cases d2 with
    | lst h3 h4 =>
    cases rx with
    | cons ra rr =>
    cases rr with
    | cons rb rr =>
    cases rr
    cases ra
    cases rb
    obtain ⟨its, rv, pl, _⟩ := I1.list ((LK.mono h1 r1.fh).seq)
    obtain ⟨its2, rv2, pl2, _⟩ := I1.list ((LK.mono h3 r1.fh).seq)
    refine call_zip_2 pl.isList pl2.isList fun g zo zi zt zm1 zm2 zs zk => Calls.spliced_nil ?_
    refine call_enumZ (s := { s1 with heap := g }) zo fun g2 eo es ek => wpAny_pyIter_enum eo ?_
    replace es : g2.objs.size = g.objs.size + 1 := es
    have I2 : Inv X pins σ H1 { s1 with heap := g2 } := I1.kept (t' := s1.toks) fun c o q => ek c o (zk c o q)
    have ge : g.objs.size = s1.heap.objs.size + 5 := zs
    have D := PySem.W.ktu_apart s1.heap.objs.size _ _ pl.lt pl2.lt
    have la := pl.lt
    have lb := pl2.lt
    refine ⟨g.objs.size, [g.objs.size, s1.heap.objs.size + 4, s1.heap.objs.size + 2, s1.heap.objs.size + 3, s1.heap.objs.size, s1.heap.objs.size + 1], _, _, H1, rfl, I2, turn_enumZ D ?_ ?_, ⟨⟨.none, eo⟩, ⟨⟨.none, false, ek _ _ zo, .inl rfl⟩, ek _ _ zi, ⟨_, _, ek _ _ zt⟩, zm1.at fun o q => ek _ o q, zm2.at fun o q => ek _ o q⟩⟩, fun c hc => ?_, k _ H1 F1 r1 ss1 u1 (walk_enumZ h1 h2 h3 h4)⟩
    · rw [ge]
      simp only [List.mem_cons, List.not_mem_nil, or_false, not_or]
      refine ⟨?_, ?_, ?_, ?_, ?_⟩ <;> exact fun q => by have : (_ : Nat) = _ := q; omega
    · rw [ge]
      exact ⟨Nat.ne_of_gt (Nat.lt_of_lt_of_le la (Nat.le_add_right _ _)), Nat.ne_of_gt (Nat.lt_of_lt_of_le lb (Nat.le_add_right _ _))⟩
    · have hle : s1.heap.objs.size ≤ c := by
        rw [ge] at hc
        have hc' : c = s1.heap.objs.size + 5 ∨ c = s1.heap.objs.size + 4 ∨ c = s1.heap.objs.size + 2 ∨ c = s1.heap.objs.size + 3 ∨ c = s1.heap.objs.size ∨ c = s1.heap.objs.size + 1 := by simpa using hc
        rcases hc' with z | z | z | z | z | z <;> rw [z] <;> first | exact Nat.le_refl _ | exact Nat.le_add_right _ _
      exact I1.fpOk hle (I1.hok.fresh hle)
  · cases e2
end
end HW

namespace HW
open PySem PySem.Spec PyProof.Rows L2
noncomputable section
/-! ### the law's own head -/
theorem dps_ints {K : PySem.W.Frag} {F : Hp} : ∀ ns : List Int, DPs K F (ns.map V.int) (intsL ns)
  | [] => .nil
  | n :: ns => .cons (.int n) (dps_ints ns)
/-- what the law says at every list of ints is what is promised of the law's def -/
theorem walk_law {l : PySem.W.OpenLaw} {n k : Nat} {q : Program} {loose : List Str} {XP : (Str → Option Value) → Heap → Prop} {YP : World → Heap → Prop} {d : DefRec} {K : Params → PySem.W.Frag} {x : Str} (g : List P → Option P)
    (law : ∀ ns : List Int, ns.length ≤ n → g [.list (intsL ns)] = some (.bool true)) (hn : l.most = some n) (hn2 : n ≤ sizeLine) (hdf : d.params.defaults = []) (hr : Room k callerA) (hY : ∀ (w : World) (h : Heap), YP w h → (K w.params).In h)
    (F : ∀ (w : World) (mg : Str → Option Value) (fa : Addr) (h : Heap), (K w.params).In h → h.Ns mainGlobals mg → mg d.name = some (.ref fa) →
      ∃ (cm : Str → Addr → Prop) (fd : FuncData), (∀ (s : Shared) (u : Value), BindsTo s fd ⟨[u], []⟩ [(x, u)]) ∧ ∀ base : Heap, (K w.params).In base → base.Ns mainGlobals mg → FnOk l.prog w (K w.params) mg base L2.CX0 k fa fd [x] (spQ (K w.params) cm 1 g)) :
    PySem.W.WalkO q loose XP YP l.row.toRowW d [] (fun f vs => PySem.call f vs) := by
  refine Att.attach_call hn hdf fun w s0 s1 mg mb fa o pm cd doc a vs ns gr yp ho hd hcd hm hob hin hlen hg => ?_
  have kx := hY w _ yp
  obtain ⟨cm, fd, hb, hF⟩ := F w mg fa _ kx gr.T.g hm
  refine law_call kx gr.T.g gr.T.b gr.T.builtins gr.T.nolimit hg hob hin (Nat.le_trans hlen hn2) hr hF hb (fun H _ hS => ⟨rfl, H, [.list (intsL ns)], .bool true, Same.refl H, .cons (.lst ?_ (dps_ints ns)) .nil, law ns hlen, fun v H' F' r _ => ?_⟩) fun H e s' h => h
  · rcases hS with hS | ⟨o', its, m, hk, hc, hdc, hs, hz, rv⟩
    · exact .inl hS
    · have e := kx a o' hk
      rw [hob] at e
      cases e
      have hs' : Data.seq vs.toArray 0 = Data.seq its m := hs
      cases hs'
      exact .inr ⟨_, _, hk, hz, rv⟩
  · obtain ⟨v', e, dp⟩ := r.get (i := 0) rfl
    cases e
    cases dp
    rfl
end
end HW

namespace HW
open PySem PySem.Spec PyProof.Rows L2
noncomputable section
/-! ### objects of the program's own classes in slots -/
def putD (f : Str) (e : D) : List (Str × D) → List (Str × D)
  | [] => [(f, e)]
  | (g, x) :: r => if g = f then (g, e) :: r else (g, x) :: putD f e r
section
variable {K : PySem.W.Frag} {cm : Str → Addr → Prop} {W F F' H H' : Hp} {σ : L2.St} {ρ : Sl} {v u : V} {d e : D}
theorem RDs.lookup {f : Str} {p : P} : ∀ {ns : List Str} {vs : List V} {ds : List D} {fp : List Addr}, RDs K cm F H vs ds fp → ns.length = vs.length → (ns.zip ds).lookup f = some (.pd p) → ∃ w, (ns.zip vs).lookup f = some w ∧ DP K F w p
  | [], _, _, _, _, _, h => by simp at h
  | n :: ns, [], _, _, _, hl, _ => by simp at hl
  | n :: ns, w :: vs, _, _, .cons a b, hl, h => by
    rw [List.zip_cons_cons, List.lookup_cons] at h ⊢
    cases hn : f == n with
    | true =>
      rw [hn] at h
      cases h
      cases a with
      | pd q => exact ⟨w, rfl, q⟩
    | false =>
      rw [hn] at h
      exact RDs.lookup b (by simpa using hl) h
theorem RDs.lookup_none {f : Str} : ∀ {ns : List Str} {vs : List V} {ds : List D} {fp : List Addr}, RDs K cm F H vs ds fp → ns.length = vs.length → (ns.zip ds).lookup f = none → (ns.zip vs).lookup f = none
  | [], _, _, _, _, _, _ => by simp
  | n :: ns, [], _, _, _, hl, _ => by simp at hl
  | n :: ns, w :: vs, _, _, .cons a b, hl, h => by
    rw [List.zip_cons_cons, List.lookup_cons] at h ⊢
    cases hn : f == n with
    | true => rw [hn] at h; cases h
    | false =>
      rw [hn] at h
      exact RDs.lookup_none b (by simpa using hl) h
theorem RDs.put {f : Str} {fe : List Addr} (t : RD K cm F H u e fe) : ∀ {ns : List Str} {vs : List V} {ds : List D} {fp : List Addr}, RDs K cm F H vs ds fp → ns.length = vs.length →
    ∃ (ns' : List Str) (vs' : List V) (ds' : List D) (fp' : List Addr), putF f u (ns.zip vs) = ns'.zip vs' ∧ putD f e (ns.zip ds) = ns'.zip ds' ∧ ns'.length = vs'.length ∧ RDs K cm F H vs' ds' fp' ∧ Sub fp' (fp ++ fe)
  | [], [], _, _, .nil, _ => ⟨[f], [u], [e], fe ++ [], rfl, rfl, rfl, .cons t .nil, by simpa using Sub.refl fe⟩
  | [], _ :: _, _, _, _, hl => by simp at hl
  | n :: ns, [], _, _, _, hl => by simp at hl
  | n :: ns, w :: vs, _, _, .cons (d := d0) (ds := ds0) (f := f1) (g := f2) a b, hl => by
    rw [List.zip_cons_cons, List.zip_cons_cons]
    unfold putF putD
    by_cases hn : n = f
    · rw [if_pos hn, if_pos hn]
      exact ⟨n :: ns, u :: vs, e :: ds0, fe ++ f2, rfl, rfl, by simpa using hl, .cons t b, ⟨f1, by
        have : (f1 ++ f2 ++ fe).Perm (f1 ++ (fe ++ f2)) := by rw [List.append_assoc]; exact List.Perm.append_left f1 List.perm_append_comm
        exact this.trans List.perm_append_comm⟩⟩
    · rw [if_neg hn, if_neg hn]
      obtain ⟨ns', vs', ds', fp', e1, e2, e3, e4, e5⟩ := RDs.put t b (by simpa using hl) (f := f)
      exact ⟨n :: ns', w :: vs', d0 :: ds', f1 ++ fp', by rw [e1]; rfl, by rw [e2]; rfl, by simp [e3], .cons a e4, by rw [List.append_assoc]; exact (Sub.refl f1).app e5⟩
/-- an object of a slot is looked at -/
theorem R.seeO (r : R K cm W σ H F ρ) {i : Nat} {c : Str} {fs : List (Str × D)} (h : ρ[i]? = some (.ob c fs)) :
    ∃ (a C dx : Addr) (ns : List Str) (vs : List V) (ds : List D) (fp : List Addr), σ[i]? = some (some (.ref a)) ∧ H a = some (.ins C dx (ns.zip vs)) ∧ cm c C ∧ fs = ns.zip ds ∧ ns.length = vs.length ∧ RDs K cm F H vs ds fp := by
  obtain ⟨fp, e, nd, m⟩ := r.ex
  obtain ⟨v, f, g, h1, h2, h3, h4⟩ := e.take h (by simp)
  cases h2 with
  | ob h5 h6 h7 h8 h9 => exact ⟨_, _, _, _, _, _, _, h1, h5, h7, rfl, h8, h9⟩
/-- a field of the object of a slot is written; an extra value may go into it -/
theorem R.modO {x : Option V} (r : R K cm W (x :: σ) H F (e :: ρ)) {i : Nat} {c : Str} {fs : List (Str × D)} (h : ρ[i]? = some (.ob c fs)) :
    ∃ (a C dx : Addr) (ns : List Str) (vs : List V), σ[i]? = some (some (.ref a)) ∧ H a = some (.ins C dx (ns.zip vs)) ∧ cm c C ∧ ns.length = vs.length ∧ (ns.zip vs).length = fs.length ∧
    ∀ (f : Str) (u : V), x = some u → R K cm W σ (upd H a (.ins C dx (putF f u (ns.zip vs)))) F (ρ.set i (.ob c (putD f e fs))) := by
  obtain ⟨fa, e0, nd, m⟩ := r.ex
  have E : ∃ fe g, (∀ u, x = some u → RD K cm F H u e fe) ∧ RE K cm F H σ ρ g ∧ Sub (g ++ fe) fa := by
    cases e0 with
    | no r1 => exact ⟨[], fa, fun u _ => .hole, r1, by simpa using Sub.refl fa⟩
    | @yes _ _ _ _ f g a r1 => exact ⟨f, g, fun u q => by cases q; exact a, r1, .of_perm List.perm_append_comm⟩
  obtain ⟨fe, g, hu, re, sg⟩ := E
  obtain ⟨v, f, g', h1, h2, h3, h4⟩ := re.take h (by simp)
  cases h2 with
  | @ob a dx C _ ns vs ds fp h5 h6 h7 h8 h9 =>
    refine ⟨a, C, dx, ns, vs, h1, h5, h7, h8, by simp [h8, h9.length], fun nm u ux => ?_⟩
    obtain ⟨ns', vs', ds', fp', k1, k2, k3, k4, k5⟩ := RDs.put (hu u ux) h9 h8 (f := nm)
    rw [k1, k2]
    have S : Sub (a :: dx :: fp ++ g' ++ fe) fa := ((h4.app (Sub.refl fe))).trans sg
    have nd2 := S.nodup nd
    simp only [List.cons_append, List.nodup_cons, List.mem_cons, List.mem_append, not_or] at nd2
    obtain ⟨⟨na0, na⟩, nx, _⟩ := nd2
    have ha : F a = none ∧ W a = none := m a (S.mem (by simp))
    have np : a ∉ fp' := fun z => by
      have := k5.mem z
      simp only [List.mem_append] at this
      rcases this with q | q
      · exact na.1.1 q
      · exact na.2 q
    have mv : ∀ {l : List Addr}, a ∉ l → ∀ b ∈ l, ∀ o, H b = some o → upd H a (.ins C dx (ns'.zip vs')) b = some o := fun hl b hb o q => by
      rw [upd_ne (fun z => by subst z; exact hl hb)]
      exact q
    have r2 : RD K cm F (upd H a (.ins C dx (ns'.zip vs'))) (.ref a) (.ob c (ns'.zip ds')) (a :: dx :: fp') :=
      .ob upd_same (by rw [upd_ne (Ne.symm na0)]; exact h6) h7 k3 (k4.mono (Same.refl F) (mv np))
    have r3 : RE K cm F (upd H a (.ins C dx (ns'.zip vs'))) σ (ρ.set i .hole) g' := h3.mono (Same.refl F) (mv na.1.2)
    have hi : i < σ.length := (List.getElem?_eq_some_iff.mp h1).1
    obtain ⟨gg, k6, k7⟩ := r3.put hi r2
    have e3 : σ.set i (some (.ref a)) = σ := by
      obtain ⟨hi, q⟩ := List.getElem?_eq_some_iff.mp h1
      rw [← q]
      exact List.set_getElem_self hi
    rw [e3, set_twice] at k6
    refine .ofRE (fun b o q => ?_) (fun b o q => ?_) r.wf nd m k6 (k7.trans (Sub.trans ?_ S))
    · rw [upd_ne (ne_of_none q ha.1)]
      exact r.fh b o q
    · rw [upd_ne (ne_of_none q ha.2)]
      exact r.wh b o q
    · show Sub (a :: dx :: fp' ++ g') (a :: dx :: fp ++ g' ++ fe)
      obtain ⟨y, py⟩ := k5
      refine ⟨y, ?_⟩
      simp only [List.cons_append]
      refine List.Perm.cons a (List.Perm.cons dx ?_)
      have q1 : (fp ++ g' ++ fe).Perm (fp ++ fe ++ g') := by
        rw [List.append_assoc, List.append_assoc fp]
        exact List.Perm.append_left fp List.perm_append_comm
      refine q1.trans ((py.append_right g').trans ?_)
      rw [List.append_assoc, List.append_assoc]
      exact List.Perm.append_left fp' List.perm_append_comm
/-- a new object without fields -/
theorem R.newO {c : Str} {C x dx : Addr} (r : R K cm W σ H F ρ) (hc : cm c C) (hx : H x = none) (hdx : H dx = none) (ne : dx ≠ x) : R K cm W (some (.ref x) :: σ) (upd (upd H dx (.own x)) x (.ins C dx [])) F (.ob c [] :: ρ) := by
  obtain ⟨fp, h, nd, m⟩ := r.ex
  have x1 : upd H dx (.own x) x = none := by rw [upd_ne (Ne.symm ne)]; exact hx
  have sm : Same H (upd (upd H dx (.own x)) x (.ins C dx [])) := (same_upd hdx).trans (same_upd x1)
  have nin : ∀ b, H b = none → b ∉ fp := fun b hb z => by
    obtain ⟨o, ho⟩ := h.there b z
    rw [hb] at ho
    cases ho
  refine .ofRE (fp := x :: dx :: fp) (fun a o q => sm _ _ (r.fh a o q)) (fun a o q => sm _ _ (r.wh a o q)) r.wf ?_ (fun b hb => ?_)
    (.yes (f := x :: dx :: []) (.ob (ns := []) (vs := []) (ds := []) upd_same (by rw [upd_ne ne, upd_same]) hc rfl .nil) (h.mono (Same.refl F) fun b _ o q => sm b o q)) (Sub.refl _)
  · refine List.nodup_cons.mpr ⟨fun z => ?_, List.nodup_cons.mpr ⟨nin dx hdx, nd⟩⟩
    rcases List.mem_cons.mp z with z | z
    · exact ne z.symm
    · exact nin x hx z
  · rcases List.mem_cons.mp hb with rfl | hb
    · exact ⟨r.fh.free hx, r.wh.free hx⟩
    · rcases List.mem_cons.mp hb with rfl | hb
      · exact ⟨r.fh.free hdx, r.wh.free hdx⟩
      · exact m b hb
end
end
end HW

namespace HW
open PySem PySem.Spec PyProof.Rows L2
noncomputable section
/-! ### rules for objects: fields, methods, making one -/
/-- no class that cm names has an attribute f -/
def NoA (K : PySem.W.Frag) (cm : Str → Addr → Prop) (f : Str) : Prop := ∀ c C, cm c C → Cls K C ∧ NoAttr K C f
structure HasMeth (P : Program) (w : World) (K : PySem.W.Frag) (mg : Str → Option Value) (base : Heap) (cm : Str → Addr → Prop) (k : Nat) (m : Str) (ps : List Str) (sp : Sp) : Prop where
  ex : ∃ C f fd, (∀ c C', cm c C' → C' = C) ∧ Cls K C ∧ Meth K C m f ∧ FnOk P w K mg base CX0 k f fd ps sp ∧ Binds K fd ps []
structure HasMk (P : Program) (w : World) (K : PySem.W.Frag) (mg : Str → Option Value) (base : Heap) (cm : Str → Addr → Prop) (k : Nat) (x c : Str) (ps : List Str) (sp : Sp) : Prop where
  ex : ∃ C f fd, cm c C ∧ Mk K C f ∧ FnOk P w K mg base CX0 k f fd ps sp ∧ mg x = some (.ref C) ∧ Binds K fd ps []
section
variable {X : Cx} {cm : Str → Addr → Prop} {as : Nat → Bool} {pos : Pos} {b : Bool}
/-- a field that holds frozen data -/
def dFld (i : Nat) (f : Str) : EF := fun ρ => match ρ[i]? with
  | some (.ob _ fs) => match fs.lookup f with
    | some (.pd p) => some (p, ρ)
    | _ => none
  | _ => none
theorem x_fld {x f : Str} {p : Pos} (i : Nat) (hf : NoA X.K cm f) (hN : X.N[i]? = some x := by rfl) (hv : Vis X.env.scope x := by first | exact Or.inl rfl | exact Or.inr (Or.inl rfl) | exact Or.inr (Or.inr rfl)) (hd : (x == ("__debug__" : Str)) = false := by decide)
    (hcd : (x == ("__classdict__" : Str)) = false := by decide) (hb : attributeBase (.Name x p) f X.env (eval (.Name x p) X.env) = eval (.Name x p) X.env := by rfl) : PE X (.Attribute (.Name x p) f pos) (tP X.K cm true (dFld i f)) :=
  HW.PE.imp (pe_fld (pe_var hN hv hd hcd) hb) fun σ H Q ⟨W, F, ρ, q, ρ', r, e, k⟩ => by
    unfold dFld at e
    split at e
    · rename_i c fs h0
      split at e
      · rename_i pp h1
        cases e
        obtain ⟨a, C, dx, ns, vs, ds, fp, h2, h3, h4, rfl, h5, h6⟩ := r.seeO h0
        obtain ⟨w, h7, h8⟩ := h6.lookup h5 h1
        obtain ⟨c1, c2⟩ := hf _ _ h4
        exact ⟨_, h2, a, C, dx, _, w, rfl, h3, c1, c2, h7, k w H F r (Same.refl F) Pu.refl h8⟩
      · cases e
    · cases e
/-- o.f = value -/
def dSFld (i : Nat) (f : Str) (g : EF) : SF := fun ρ => (g ρ).bind fun x => match x.2[i]? with
  | some (.ob c fs) => if fs.length < 1000 then some (.nx, x.2.set i (.ob c (putD f (.pd x.1) fs))) else none
  | _ => none
theorem s_fld {x f : Str} {p ap : Pos} {e : Expr} {g : EF} (i : Nat) (he : PE X e (tP X.K cm b g)) (hf : NoA X.K cm f) (hN : X.N[i]? = some x := by rfl) (hv : Vis X.env.scope x := by first | exact Or.inl rfl | exact Or.inr (Or.inl rfl) | exact Or.inr (Or.inr rfl)) (hd : (x == ("__debug__" : Str)) = false := by decide)
    (hcd : (x == ("__classdict__" : Str)) = false := by decide) (hs : swapsWith e (some (.Attribute (.Name x p) f ap)) pos.line X.env = pure false := by rfl) : PS X (.Assign [.Attribute (.Name x p) f ap] e pos) (tS X.K cm as (dSFld i f g)) :=
  HW.PS.imp (ps_fld (pe_var hN hv hd hcd) he hs) fun Dn σ H ⟨W, F, ρ, fl, ρ', r, e0, k⟩ => by
    simp only [dSFld, Option.bind_eq_some_iff] at e0
    obtain ⟨⟨q, ρ1⟩, e1, e2⟩ := e0
    refine ⟨W, F, ρ, q, ρ1, r, e1, fun v H1 F1 r1 s1 u1 d1 => ?_⟩
    split at e2
    · rename_i c fs h0
      split at e2
      · rename_i hz
        cases e2
        obtain ⟨a, C, dx, ns, vs, h2, h3, h4, h5, h6, h7⟩ := (r1.pd d1).modO (i := i) h0
        obtain ⟨c1, c2⟩ := hf _ _ h4
        exact ⟨_, h2, a, C, dx, _, rfl, h3, c1, c2, by rw [h6]; exact hz, k σ _ F1 (h7 f v rfl) s1 Out.refl⟩
      · cases e2
    · cases e2
/-- a method of the object of a slot, that it may change -/
def dMeth (n i : Nat) (m : Str) (fd : D → List P → Option (D × D)) (f : EL) : ED := fun ρ => match ρ[i]? with
  | some (.ob _ fs) => if (fs.lookup m).isNone = true then (f ρ).bind fun x => if x.1.length = n then match x.2[i]? with
      | some .hole => none
      | none => none
      | some d0 => (fd d0 x.1).map fun y => (y.2, x.2.set i y.1)
      else none
    else none
  | _ => none
theorem meth_imp {K : PySem.W.Frag} {n i : Nat} {m : Str} {C : Addr} {fd : D → List P → Option (D × D)} {f : EL} {g : TE} (hC : ∀ c C', cm c C' → C' = C) {ta : TA} (hta : ∀ σ H Q, tA K cm b f σ H Q → ta σ H Q)
    (hg : ∀ σ H Q, (∃ v, σ[i]? = some (some v) ∧ Q v H) → g σ H Q) : ∀ σ H Q, tD K cm false (dMeth n i m fd f) σ H Q → tMeth C m (spM K cm n fd) [] E0 g ta σ H Q := by
  rintro σ H Q ⟨W, F, ρ, d, ρ', r, e, k⟩
  unfold dMeth at e
  split at e
  · rename_i c fs hz
    split at e
    · rename_i hm
      obtain ⟨a, C', dx, ns, vs, ds, fp, h2, h3, h4, rfl, h5, h6⟩ := r.seeO hz
      cases hC _ _ h4
      simp only [Option.bind_eq_some_iff] at e
      obtain ⟨⟨ps', ρ1⟩, e1, e2⟩ := e
      split at e2
      · rename_i hn
        split at e2
        · cases e2
        · cases e2
        · rename_i d0 n1 h1
          have ne1 : d0 ≠ .hole := fun z => by subst z; exact n1 rfl
          obtain ⟨⟨d1, d2⟩, e3, e4⟩ := Option.map_eq_some_iff.mp e2
          cases e4
          refine hg _ _ _ ⟨_, h2, a, dx, _, rfl, h3, h6.lookup_none h5 (by simpa using hm), hta _ _ _ ⟨W, F, ρ, ps', ρ1, r, e1, fun us H1 F1 r1 s1 u1 dd => ?_⟩⟩
          obtain ⟨u, W0, h7, r2, k2⟩ := r1.callM h1 ne1
          rw [h2] at h7
          cases h7
          refine ⟨by rw [List.append_nil, List.length_cons, dd.length]; exact congrArg (· + 1) hn, _, us, W0, F1, ps', d0, d1, _, by rw [List.append_nil], r2, dd, e3, fun v H' F' r' s' => ?_⟩
          exact k v H' F' (k2 v H' F' d1 _ r' s') (s1.trans s') fun h => by cases h
      · cases e2
    · cases e
  · cases e
theorem x_meth {x m : Str} {p ap : Pos} {e : Expr} {es : List Expr} {n k : Nat} {ps : List Str} {fd : D → List P → Option (D × D)} {f : EL} (i : Nat) (h : HasMeth X.prog X.w X.K X.mg X.base cm k m ps (spM X.K cm n fd)) (hr : Room k X.A) (ha : PA X (e :: es) (tA X.K cm b f))
    (hN : X.N[i]? = some x := by rfl) (hv : Vis X.env.scope x := by first | exact Or.inl rfl | exact Or.inr (Or.inl rfl) | exact Or.inr (Or.inr rfl)) (hd : (x == ("__debug__" : Str)) = false := by decide) (hcd : (x == ("__classdict__" : Str)) = false := by decide)
    (hst : starEach (e :: es) X.env = (false, eval e X.env) :: starEach es X.env := by rfl) (hpl : (backTo pos (starEach es X.env)).any (·.1) = false := by rfl) {pl : Sem Bool}
    (ht : eval (.Call (.Attribute (.Name x p) m ap) (e :: es) [] pos) X.env = (do
      let ov ← eval (.Name x p) X.env
      standAt ap.atName
      let (f, first) ← holding [ov] (getMethod ov m pl)
      callWith pos f first (backTo pos (starEach (e :: es) X.env)) (backToKw pos (keywordEach [] X.env))) := by rfl) :
    PE X (.Call (.Attribute (.Name x p) m ap) (e :: es) [] pos) (tD X.K cm false (dMeth n i m fd f)) := by
  obtain ⟨C, fa, fdd, hC, cl, hm, ok, hb⟩ := h.ex
  exact HW.PE.imp (pe_meth (pl := pl) (pe_var hN hv hd hcd) cl hm ok hr hb .nil pass0 ha hst hpl ht) (meth_imp (b := b) hC (fun _ _ _ z => z) fun σ H Q ⟨v, e1, e2⟩ => ⟨v, e1, e2⟩)
theorem x_meth0 {x m : Str} {p ap : Pos} {k : Nat} {ps : List Str} {fd : D → List P → Option (D × D)} (i : Nat) (h : HasMeth X.prog X.w X.K X.mg X.base cm k m ps (spM X.K cm 0 fd)) (hr : Room k X.A)
    (hN : X.N[i]? = some x := by rfl) (hv : Vis X.env.scope x := by first | exact Or.inl rfl | exact Or.inr (Or.inl rfl) | exact Or.inr (Or.inr rfl)) (hd : (x == ("__debug__" : Str)) = false := by decide) (hcd : (x == ("__classdict__" : Str)) = false := by decide) {pl : Sem Bool}
    (ht : eval (.Call (.Attribute (.Name x p) m ap) [] [] pos) X.env = (do
      let ov ← eval (.Name x p) X.env
      standAt ap.atName
      let (f, first) ← holding [ov] (getMethod ov m pl)
      callWith pos f first (backTo pos (starEach [] X.env)) (backToKw pos (keywordEach [] X.env))) := by rfl) :
    PE X (.Call (.Attribute (.Name x p) m ap) [] [] pos) (tD X.K cm false (dMeth 0 i m fd fun ρ => some ([], ρ))) := by
  obtain ⟨C, fa, fdd, hC, cl, hm, ok, hb⟩ := h.ex
  exact HW.PE.imp (pe_meth0 (pl := pl) (pe_var hN hv hd hcd) cl hm ok hr hb .nil pass0 ht) (meth_imp (b := true) hC (fun σ H Q ⟨W, F, ρ, ps', ρ', r, e, k⟩ => by
    cases e
    exact k [] H F r (Same.refl F) Pu.refl .nil) fun σ H Q ⟨v, e1, e2⟩ => ⟨v, e1, e2⟩)
/-- C(..) -/
def dMake (n : Nat) (c : Str) (fd : D → List P → Option (D × D)) (f : EL) : ED := fun ρ => (f ρ).bind fun x => if x.1.length = n then (fd (.ob c []) x.1).bind fun y => match y.2 with
  | .pd .none => some (y.1, x.2)
  | _ => none
  else none
theorem make_imp {K : PySem.W.Frag} {n : Nat} {c : Str} {C : Addr} {fd : D → List P → Option (D × D)} {f : EL} (hc : cm c C) {ta : TA} (hta : ∀ σ H Q, tA K cm b f σ H Q → ta σ H Q) :
    ∀ σ H Q, tD K cm false (dMake n c fd f) σ H Q → tMake C (spM K cm n fd) [] E0 ta σ H Q := by
  rintro σ H Q ⟨W, F, ρ, d, ρ', r, e, k⟩
  simp only [dMake, Option.bind_eq_some_iff] at e
  obtain ⟨⟨ps', ρ1⟩, e1, e2⟩ := e
  split at e2
  · rename_i hn
    simp only [Option.bind_eq_some_iff] at e2
    obtain ⟨⟨d1, d2⟩, e3, e4⟩ := e2
    split at e4
    · rename_i hd2
      cases e4
      dsimp only at hd2
      subst hd2
      refine hta _ _ _ ⟨W, F, ρ, ps', ρ', r, e1, fun us H1 F1 r1 s1 u1 dd => fun x dx hx hdx ne => ?_⟩
      have rn := r1.newO hc hx hdx ne
      obtain ⟨u, W0, h7, r2, k2⟩ := rn.callM (i := 0) (d0 := .ob c []) rfl (by simp)
      cases h7
      refine ⟨by rw [List.append_nil, List.length_cons, dd.length]; exact congrArg (· + 1) hn, _, us, W0, F1, ps', _, _, _, by rw [List.append_nil], r2, dd, e3, fun v H' F' r' s' => ?_⟩
      have r3 := k2 v H' F' _ _ r' s'
      obtain ⟨v', q1, q2⟩ := r'.get (i := 0) rfl
      cases q1
      cases q2
      exact ⟨rfl, k _ H' F' r3.tail (s1.trans s') fun h => by cases h⟩
    · cases e4
  · cases e2
theorem x_make {x c : Str} {p : Pos} {e : Expr} {es : List Expr} {n k : Nat} {ps : List Str} {fd : D → List P → Option (D × D)} {f : EL} (h : HasMk X.prog X.w X.K X.mg X.base cm k x c ps (spM X.K cm n fd)) (hr : Room (k + 1) X.A) (ha : PA X (e :: es) (tA X.K cm b f)) (hg : Gl X x := by rfl)
    (hdb : (x == ("__debug__" : Str)) = false := by decide) (he : starEach (e :: es) X.env = (false, eval e X.env) :: starEach es X.env := by rfl) (hpl : (backTo pos (starEach es X.env)).any (·.1) = false := by rfl) :
    PE X (.Call (.Name x p) (e :: es) [] pos) (tD X.K cm false (dMake n c fd f)) := by
  obtain ⟨C, fa, fdd, hc, M, ok, hm, hb⟩ := h.ex
  exact HW.PE.imp (pe_make M ok hr hg hm hb .nil pass0 ha hdb he hpl) (make_imp hc fun _ _ _ z => z)
theorem x_make0 {x c : Str} {p : Pos} {k : Nat} {ps : List Str} {fd : D → List P → Option (D × D)} (h : HasMk X.prog X.w X.K X.mg X.base cm k x c ps (spM X.K cm 0 fd)) (hr : Room (k + 1) X.A) (hg : Gl X x := by rfl) (hdb : (x == ("__debug__" : Str)) = false := by decide) :
    PE X (.Call (.Name x p) [] [] pos) (tD X.K cm false (dMake 0 c fd fun ρ => some ([], ρ))) := by
  obtain ⟨C, fa, fdd, hc, M, ok, hm, hb⟩ := h.ex
  exact HW.PE.imp (pe_make0 M ok hr hg hm hb .nil pass0 hdb) (make_imp (b := true) hc fun σ H Q ⟨W, F, ρ, ps', ρ', r, e, k⟩ => by
    cases e
    exact k [] H F r (Same.refl F) Pu.refl .nil)
/-- an expression as a statement -/
def dDo (q : ED) : SF := fun ρ => (q ρ).map fun x => (.nx, x.2)
theorem s_do {e : Expr} {q : ED} (h : PE X e (tD X.K cm b q)) (hsw : swapsWith e none pos.line X.env = pure false := by rfl) : PS X (.Expr e pos) (tS X.K cm as (dDo q)) :=
  HW.PS.imp (ps_expr h hsw) fun Dn σ H ⟨W, F, ρ, fl, ρ', r, e0, k⟩ => by
    obtain ⟨⟨d, ρ1⟩, e1, e2⟩ := Option.map_eq_some_iff.mp e0
    cases e2
    exact ⟨W, F, ρ, d, ρ1, r, e1, fun v H1 F1 r1 s1 u1 => k σ H1 F1 r1.tail s1 Out.refl⟩
def dRetN : SF := fun ρ => some (.rt (.pd .none), ρ)
theorem s_retN : PS X (.Return none pos) (tS X.K cm as dRetN) := HW.PS.imp ps_retN fun Dn σ H ⟨W, F, ρ, fl, ρ', r, e0, k⟩ => by
  cases e0
  exact k .non σ H F (r.pd .non) (Same.refl F) Out.refl
end
end
end HW

namespace HW
open PySem PySem.Spec PyProof.Rows L2
noncomputable section
/-! ### dicts with whole numbers and texts as keys, in slots -/
def keyEq : P → P → Bool
  | .int i, .int j => decide (i = j)
  | .str x, .str y => decide (x = y)
  | _, _ => false
theorem keyEq_is (k j : Key) : keyEq (keyP k) (keyP j) = decide (k = j) := by
  cases k <;> cases j <;> simp [keyEq, keyP]
def keyOf : P → Option Key
  | .int i => some (.inl i)
  | .str x => some (.inr x)
  | _ => none
theorem keyOf_is {p : P} {k : Key} (h : keyOf p = some k) : p = keyP k := by
  cases p <;> simp [keyOf] at h <;> subst h <;> rfl
theorem DP.key {K : PySem.W.Frag} {F : Hp} {v : V} {k : Key} (d : DP K F v (keyP k)) : v = kV k := by
  cases k <;> cases d <;> rfl
def getDk : List (P × D) → P → Option D
  | [], _ => none
  | (q, d) :: r, k => if keyEq q k then some d else getDk r k
def putDk : List (P × D) → P → D → List (P × D)
  | [], k, e => [(k, e)]
  | (q, d) :: r, k, e => if keyEq q k then (q, e) :: r else (q, d) :: putDk r k e
theorem putK_pos {κ : Type} [DecidableEq κ] {p : κ × V} {r : List (κ × V)} {k : κ} {v : V} (e : p.1 = k) (hn : ∀ q ∈ r, q.1 ≠ k) : putK (p :: r) k v = (p.1, v) :: r := by
  unfold putK
  rw [if_pos (by simp [e]), List.map_cons, if_pos e]
  congr 1
  have e2 : r.map (fun kv => if kv.1 = k then (kv.1, v) else kv) = r.map id := List.map_congr_left fun q hq => if_neg (hn q hq)
  rw [e2, List.map_id]
theorem putK_neg {κ : Type} [DecidableEq κ] {p : κ × V} {r : List (κ × V)} {k : κ} {v : V} (e : p.1 ≠ k) : putK (p :: r) k v = p :: putK r k v := by
  unfold putK
  rw [List.any_cons, decide_eq_false e, Bool.false_or]
  split
  · rw [List.map_cons, if_neg e]
  · rfl
section
variable {K : PySem.W.Frag} {cm : Str → Addr → Prop} {W F F' H H' : Hp} {σ : L2.St} {ρ : Sl} {v u : V} {d e : D}
theorem RDs.getK {k : Key} : ∀ {ks : List Key} {vs : List V} {ds : List D} {fp : List Addr}, RDs K cm F H vs ds fp → ks.length = vs.length →
    (∀ d0, getDk ((ks.map keyP).zip ds) (keyP k) = some d0 → ∃ w g, valV (ks.zip vs) k = some w ∧ RD K cm F H w d0 g ∧ Sub g fp) ∧ (getDk ((ks.map keyP).zip ds) (keyP k) = none → valV (ks.zip vs) k = none)
  | [], [], _, _, .nil, _ => ⟨fun d0 h => by simp [getDk] at h, fun _ => rfl⟩
  | [], _ :: _, _, _, _, hl => by simp at hl
  | n :: ks, [], _, _, _, hl => by simp at hl
  | n :: ks, w :: vs, _, _, .cons (d := d1) (ds := ds1) (f := f1) (g := f2) a b, hl => by
    obtain ⟨h1, h2⟩ := RDs.getK b (k := k) (ks := ks) (by simpa using hl)
    rw [List.map_cons, List.zip_cons_cons, List.zip_cons_cons]
    unfold getDk
    rw [keyEq_is]
    by_cases hn : n = k
    · rw [decide_eq_true hn, if_pos rfl]
      exact ⟨fun d0 q => by cases q; exact ⟨w, f1, valV_pos hn, a, Sub.left _ _⟩, fun q => by cases q⟩
    · rw [decide_eq_false hn, if_neg Bool.false_ne_true]
      have e : valV ((n, w) :: ks.zip vs) k = valV (ks.zip vs) k := by simp [valV, List.find?_cons, hn]
      rw [e]
      exact ⟨fun d0 q => by obtain ⟨w', g, q1, q2, q3⟩ := h1 d0 q; exact ⟨w', g, q1, q2, q3.trans (Sub.right _ _)⟩, h2⟩
theorem RDs.putK {k : Key} {fe : List Addr} (t : RD K cm F H u e fe) : ∀ {ks : List Key} {vs : List V} {ds : List D} {fp : List Addr}, RDs K cm F H vs ds fp → ks.length = vs.length → ks.Nodup →
    ∃ (ks' : List Key) (vs' : List V) (ds' : List D) (fp' : List Addr), L2.putK (ks.zip vs) k u = ks'.zip vs' ∧ putDk ((ks.map keyP).zip ds) (keyP k) e = (ks'.map keyP).zip ds' ∧ ks'.length = vs'.length ∧ ks'.Nodup ∧ (∀ j ∈ ks', j = k ∨ j ∈ ks) ∧ RDs K cm F H vs' ds' fp' ∧ Sub fp' (fp ++ fe)
  | [], [], _, _, .nil, _, _ => ⟨[k], [u], [e], fe ++ [], rfl, rfl, rfl, by simp, by simp, .cons t .nil, by simpa using Sub.refl fe⟩
  | [], _ :: _, _, _, _, hl, _ => by simp at hl
  | n :: ks, [], _, _, _, hl, _ => by simp at hl
  | n :: ks, w :: vs, _, _, .cons (d := d1) (ds := ds1) (f := f1) (g := f2) a b, hl, hnd => by
    rw [List.nodup_cons] at hnd
    rw [List.map_cons, List.zip_cons_cons, List.zip_cons_cons]
    unfold putDk
    rw [keyEq_is]
    by_cases hn : n = k
    · rw [decide_eq_true hn, if_pos rfl, putK_pos hn fun q hq z => hnd.1 (by
        have := (List.of_mem_zip (show (q.1, q.2) ∈ ks.zip vs from hq)).1
        rw [z, ← hn] at this
        exact this)]
      refine ⟨n :: ks, u :: vs, e :: ds1, fe ++ f2, rfl, rfl, by simpa using hl, List.nodup_cons.mpr hnd, fun j hj => .inr hj, .cons t b, ⟨f1, ?_⟩⟩
      have : (f1 ++ f2 ++ fe).Perm (f1 ++ (fe ++ f2)) := by rw [List.append_assoc]; exact List.Perm.append_left f1 List.perm_append_comm
      exact this.trans List.perm_append_comm
    · rw [decide_eq_false hn, if_neg Bool.false_ne_true, putK_neg hn]
      obtain ⟨ks', vs', ds', fp', e1, e2, e3, e4, e5, e6, e7⟩ := RDs.putK t b (k := k) (ks := ks) (by simpa using hl) hnd.2
      refine ⟨n :: ks', w :: vs', d1 :: ds', f1 ++ fp', by rw [e1]; rfl, by rw [e2]; rfl, by simp [e3], List.nodup_cons.mpr ⟨fun z => ?_, e4⟩, fun j hj => ?_, .cons a e6, by rw [List.append_assoc]; exact (Sub.refl f1).app e7⟩
      · rcases e5 n z with z | z
        · exact hn z
        · exact hnd.1 z
      · rcases List.mem_cons.mp hj with rfl | hj
        · exact .inr (by simp)
        · rcases e5 j hj with z | z
          · exact .inl z
          · exact .inr (by simp [z])
theorem R.seeD (r : R K cm W σ H F ρ) {i : Nat} {kvs : List (P × D)} (h : ρ[i]? = some (.od kvs)) :
    ∃ (a : Addr) (ks : List Key) (vs : List V) (ds : List D) (fp : List Addr), σ[i]? = some (some (.ref a)) ∧ H a = some (.dK (ks.zip vs)) ∧ kvs = (ks.map keyP).zip ds ∧ ks.length = vs.length ∧ ks.Nodup ∧ RDs K cm F H vs ds fp := by
  obtain ⟨fp, e, nd, m⟩ := r.ex
  obtain ⟨v, f, g, h1, h2, h3, h4⟩ := e.take h (by simp)
  cases h2 with
  | odK h5 h6 h7 h8 => exact ⟨_, _, _, _, _, h1, h5, rfl, h6, h7, h8⟩
/-- d[k] = value in a slot -/
theorem R.modD {x : Option V} (r : R K cm W (x :: σ) H F (e :: ρ)) {i : Nat} {kvs : List (P × D)} (h : ρ[i]? = some (.od kvs)) :
    ∃ (a : Addr) (ks : List Key) (vs : List V), σ[i]? = some (some (.ref a)) ∧ H a = some (.dK (ks.zip vs)) ∧ (ks.zip vs).length = kvs.length ∧
    ∀ (k : Key) (u : V), x = some u → R K cm W σ (upd H a (.dK (L2.putK (ks.zip vs) k u))) F (ρ.set i (.od (putDk kvs (keyP k) e))) := by
  obtain ⟨fa, e0, nd, m⟩ := r.ex
  have E : ∃ fe g, (∀ u, x = some u → RD K cm F H u e fe) ∧ RE K cm F H σ ρ g ∧ Sub (g ++ fe) fa := by
    cases e0 with
    | no r1 => exact ⟨[], fa, fun u _ => .hole, r1, by simpa using Sub.refl fa⟩
    | @yes _ _ _ _ f g a r1 => exact ⟨f, g, fun u q => by cases q; exact a, r1, .of_perm List.perm_append_comm⟩
  obtain ⟨fe, g, hu, re, sg⟩ := E
  obtain ⟨v, f, g', h1, h2, h3, h4⟩ := re.take h (by simp)
  cases h2 with
  | @odK a ks vs ds fp h5 h6 h7 h8 =>
    refine ⟨a, ks, vs, h1, h5, by simp [h6, h8.length], fun k u ux => ?_⟩
    obtain ⟨ks', vs', ds', fp', k1, k2, k3, k4, _, k5, k6⟩ := RDs.putK (hu u ux) h8 h6 h7 (k := k)
    rw [k1, k2]
    have S : Sub (a :: fp ++ g' ++ fe) fa := ((h4.app (Sub.refl fe))).trans sg
    have nd2 := S.nodup nd
    simp only [List.cons_append, List.nodup_cons, List.mem_append, not_or] at nd2
    obtain ⟨na, _⟩ := nd2
    have ha : F a = none ∧ W a = none := m a (S.mem (by simp))
    have np : a ∉ fp' := fun z => by
      have := k6.mem z
      simp only [List.mem_append] at this
      rcases this with q | q
      · exact na.1.1 q
      · exact na.2 q
    have mv : ∀ {l : List Addr}, a ∉ l → ∀ b ∈ l, ∀ o, H b = some o → upd H a (.dK (ks'.zip vs')) b = some o := fun hl b hb o q => by
      rw [upd_ne (fun z => by subst z; exact hl hb)]
      exact q
    have r2 : RD K cm F (upd H a (.dK (ks'.zip vs'))) (.ref a) (.od ((ks'.map keyP).zip ds')) (a :: fp') := .odK upd_same k3 k4 (k5.mono (Same.refl F) (mv np))
    have r3 : RE K cm F (upd H a (.dK (ks'.zip vs'))) σ (ρ.set i .hole) g' := h3.mono (Same.refl F) (mv na.1.2)
    have hi : i < σ.length := (List.getElem?_eq_some_iff.mp h1).1
    obtain ⟨gg, k7, k8⟩ := r3.put hi r2
    have e3 : σ.set i (some (.ref a)) = σ := by
      obtain ⟨hi, q⟩ := List.getElem?_eq_some_iff.mp h1
      rw [← q]
      exact List.set_getElem_self hi
    rw [e3, set_twice] at k7
    refine .ofRE (fun b o q => ?_) (fun b o q => ?_) r.wf nd m k7 (k8.trans (Sub.trans ?_ S))
    · rw [upd_ne (ne_of_none q ha.1)]
      exact r.fh b o q
    · rw [upd_ne (ne_of_none q ha.2)]
      exact r.wh b o q
    · show Sub (a :: fp' ++ g') (a :: fp ++ g' ++ fe)
      obtain ⟨y, py⟩ := k6
      refine ⟨y, ?_⟩
      simp only [List.cons_append]
      refine List.Perm.cons a ?_
      have q1 : (fp ++ g' ++ fe).Perm (fp ++ fe ++ g') := by
        rw [List.append_assoc, List.append_assoc fp]
        exact List.Perm.append_left fp List.perm_append_comm
      refine q1.trans ((py.append_right g').trans ?_)
      rw [List.append_assoc, List.append_assoc]
      exact List.Perm.append_left fp' List.perm_append_comm
/-- a new dict without keys -/
theorem R.newD {p : Addr} (r : R K cm W σ H F ρ) (hp : H p = none) : R K cm W (some (.ref p) :: σ) (upd H p (.dK [])) F (.od [] :: ρ) := by
  obtain ⟨fp, h, nd, m⟩ := r.ex
  have nin : p ∉ fp := fun z => by
    obtain ⟨o, ho⟩ := h.there p z
    rw [hp] at ho
    cases ho
  refine .ofRE (fp := p :: fp) (fun a o q => same_upd hp _ _ (r.fh a o q)) (fun a o q => same_upd hp _ _ (r.wh a o q)) r.wf (List.nodup_cons.mpr ⟨nin, nd⟩) (fun b hb => ?_)
    (.yes (f := [p]) (.odK (ks := []) (vs := []) (ds := []) upd_same rfl (by simp) .nil) (h.mono (Same.refl F) fun b _ o q => same_upd hp b o q)) (Sub.refl _)
  rcases List.mem_cons.mp hb with rfl | hb
  · exact ⟨r.fh.free hp, r.wh.free hp⟩
  · exact m b hb
end
end
end HW

namespace HW
open PySem PySem.Spec PyProof.Rows L2
noncomputable section
theorem R.newDs {K : PySem.W.Frag} {cm : Str → Addr → Prop} {W F H : Hp} {σ : L2.St} {ρ : Sl} {p : Addr} {ks : List Key} {vs : List V} {ps : List P} (r : R K cm W σ H F ρ) (hp : H p = none) (d : DPs K F vs ps) (hl : ks.length = vs.length) (hn : ks.Nodup) :
    R K cm W (some (.ref p) :: σ) (upd H p (.dK (ks.zip vs))) F (.od ((ks.map keyP).zip (pds ps)) :: ρ) := by
  obtain ⟨fp, h, nd, m⟩ := r.ex
  have nin : p ∉ fp := fun z => by
    obtain ⟨o, ho⟩ := h.there p z
    rw [hp] at ho
    cases ho
  have go : ∀ {vs : List V} {ps : List P}, DPs K F vs ps → RDs K cm F (upd H p (.dK (ks.zip vs))) vs (pds ps) [] := fun {vs ps} d => by
    have : ∀ {H' : Hp} {vs : List V} {ps : List P}, DPs K F vs ps → RDs K cm F H' vs (pds ps) [] := fun {H' vs ps} d => by
      induction vs generalizing ps with
      | nil => cases d; exact .nil
      | cons v vs ih => cases d with | cons a b => exact .cons (f := []) (g := []) (.pd a) (ih b)
    exact this d
  refine .ofRE (fp := p :: fp) (fun a o q => same_upd hp _ _ (r.fh a o q)) (fun a o q => same_upd hp _ _ (r.wh a o q)) r.wf (List.nodup_cons.mpr ⟨nin, nd⟩) (fun b hb => ?_)
    (.yes (f := [p]) (.odK upd_same hl hn (go d)) (h.mono (Same.refl F) fun b _ o q => same_upd hp b o q)) (Sub.refl _)
  rcases List.mem_cons.mp hb with rfl | hb
  · exact ⟨r.fh.free hp, r.wh.free hp⟩
  · exact m b hb
/-- what a dict's keys are, if they are whole numbers -/
def intKeys : List (P × D) → Option (List Int)
  | [] => some []
  | (.int i, _) :: r => (intKeys r).map (i :: ·)
  | _ => none
theorem intKeys_is : ∀ {ks : List Key} {ds : List D} {is : List Int}, ks.length = ds.length → intKeys ((ks.map keyP).zip ds) = some is → ks = is.map Sum.inl
  | [], [], is, _, h => by simp [intKeys] at h; subst h; rfl
  | [], _ :: _, _, hl, _ => by simp at hl
  | _ :: _, [], _, hl, _ => by simp at hl
  | .inl i :: ks, d :: ds, is, hl, h => by
    rw [List.map_cons, List.zip_cons_cons] at h
    simp only [keyP, intKeys, Option.map_eq_some_iff] at h
    obtain ⟨js, h1, rfl⟩ := h
    rw [intKeys_is (by simpa using hl) h1]
    rfl
  | .inr x :: ks, d :: ds, is, _, h => by
    rw [List.map_cons, List.zip_cons_cons] at h
    simp [keyP, intKeys] at h
theorem perm_sorted {ys ks : List Int} (hp : ys.Perm ks) (hs : ys.Pairwise (· ≤ ·)) (hn : ks.Nodup) : ys = ssetI ks := by
  have hy : ys.Nodup := hp.nodup_iff.mpr hn
  have hlt : ys.Pairwise (· < ·) := by
    have := List.Pairwise.and hs hy
    exact this.imp fun h => by
      have h1 := h.1
      have h2 := h.2
      omega
  exact strict_unique hlt (ssetI_sorted ks) fun j => by rw [hp.mem_iff, ssetI_mem]
section
variable {X : Cx} {cm : Str → Addr → Prop} {as : Nat → Bool} {pos : Pos} {b b1 b2 : Bool}
/-- {} -/
def dDict0 : ED := fun ρ => some (.od [], ρ)
theorem d_dict0 : PE X (.Dict [] [] pos) (tD X.K cm true dDict0) := HW.PE.imp pe_dnewK fun σ H Q ⟨W, F, ρ, d, ρ', r, e, k⟩ p hp => by
  cases e
  exact k _ _ F (r.newD hp) (Same.refl F) (Pu.same (same_upd hp))
/-- {k: v} -/
def dDict1 (f g : EF) : ED := fun ρ => (f ρ).bind fun x => (g x.2).bind fun y => match keyOf x.1 with
  | some _ => some (.od [(x.1, .pd y.1)], y.2)
  | none => none
theorem d_dict1 {k v : Expr} {f g : EF} (hk : PE X k (tP X.K cm b1 f)) (hv : PE X v (tP X.K cm b2 g)) : PE X (.Dict [some k] [v] pos) (tD X.K cm false (dDict1 f g)) :=
  HW.PE.imp (pe_disp (pps_cons hk hv pps_nil) rfl rfl (by simp) (by simp)) fun σ H Q ⟨W, F, ρ, d, ρ', r, e, k⟩ p hp => by
    simp only [dDict1, Option.bind_eq_some_iff] at e
    obtain ⟨⟨p1, ρ1⟩, e1, ⟨p2, ρ2⟩, e2, e3⟩ := e
    split at e3
    · rename_i ky hky
      cases e3
      have hky := keyOf_is hky
      dsimp only at hky
      subst hky
      have wp : W p = none := r.wh.free hp
      refine ⟨_, F, ρ, _, ρ1, r.framed (o := .dK []) hp, e1, fun x H1 F1 r1 s1 u1 d1 => ⟨_, F1, ρ1, p2, ρ2, r1, e2, fun y H2 F2 r2 s2 u2 d2 => ?_⟩⟩
      have hx := d1.key
      subst hx
      have hw := r2.wh p _ upd_same
      refine ⟨hw, [(ky, y)], rfl, by simp, ?_⟩
      have r3 : R X.K cm W (some (.ref p) :: σ) (upd (del H2 p) p (.dK ([ky].zip [y]))) F2 (.od (([ky].map keyP).zip (pds [p2])) :: ρ2) := (r2.unframe wp).newDs del_same (.cons d2 .nil) rfl (by simp)
      have e4 : upd (del H2 p) p (.dK ([ky].zip [y])) = upd H2 p (.dK (mergeK [] [(ky, y)])) := by
        funext c
        by_cases hc : c = p
        · subst hc
          rw [upd_same, upd_same]
          rfl
        · rw [upd_ne hc, upd_ne hc, del_ne hc]
      rw [e4] at r3
      exact k _ _ F2 r3 (s1.trans s2) fun h => by cases h
    · cases e3
def someD (ρ : Sl) (i : Nat) : Bool := match ρ[i]? with
  | some (.od _) => true
  | _ => false
theorem someD_is {ρ : Sl} {i : Nat} (h : someD ρ i = true) : ∃ kvs, ρ[i]? = some (.od kvs) := by
  unfold someD at h
  split at h
  · exact ⟨_, by assumption⟩
  · cases h
/-- d[k] = value -/
def dDput (i : Nat) (f g : EF) : SF := fun ρ => (f ρ).bind fun x => if someD x.2 i = true then (g x.2).bind fun y => match keyOf y.1, y.2[i]? with
    | some _, some (.od kvs) => if kvs.length < 16777216 then some (.nx, y.2.set i (.od (putDk kvs y.1 (.pd x.1)))) else none
    | _, _ => none
  else none
theorem s_dput {x : Str} {e ix : Expr} {p tp : Pos} {f g : EF} (i : Nat) (hu : X.A.units + 1 < cLine) (he : PE X e (tP X.K cm b1 f)) (hi : PE X ix (tP X.K cm b2 g)) (hN : X.N[i]? = some x := by rfl) (hv : Vis X.env.scope x := by first | exact Or.inl rfl | exact Or.inr (Or.inl rfl) | exact Or.inr (Or.inr rfl)) (hd : (x == ("__debug__" : Str)) = false := by decide)
    (hcd : (x == ("__classdict__" : Str)) = false := by decide) (hs : swapsWith e (some (.Subscript (.Name x p) ix tp)) pos.line X.env = pure false := by rfl) : PS X (.Assign [.Subscript (.Name x p) ix tp] e pos) (tS X.K cm as (dDput i f g)) :=
  HW.PS.imp (ps_dput hu (pe_var hN hv hd hcd) hi he hs) fun Dn σ H ⟨W, F, ρ, fl, ρ', r, e0, k⟩ => by
    simp only [dDput, Option.bind_eq_some_iff] at e0
    obtain ⟨⟨pv, ρ1⟩, e1, e2⟩ := e0
    refine ⟨W, F, ρ, pv, ρ1, r, e1, fun v H1 F1 r1 s1 u1 d1 => ?_⟩
    split at e2
    · rename_i h0
      obtain ⟨kvs0, h0⟩ := someD_is h0
      obtain ⟨a0, ks0, vs0, ds0, fp0, h1, h2, _⟩ := r1.seeD h0
      simp only [Option.bind_eq_some_iff] at e2
      obtain ⟨⟨pk, ρ2⟩, e3, e4⟩ := e2
      refine ⟨_, h1, W, F1, ρ1, pk, ρ2, r1, e3, fun kv H2 F2 r2 s2 u2 d2 => ?_⟩
      split at e4
      · rename_i ky kvs hky h4
        split at e4
        · rename_i hz
          cases e4
          have hky := keyOf_is hky
          dsimp only at hky
          subst hky
          have hx := d2.key
          subst hx
          obtain ⟨a, ks, vs, h5, h6, h7, h8⟩ := (r2.pd (DP.mono d1 s2)).modD h4
          rw [h1] at h5
          cases h5
          exact ⟨_, _, rfl, DPut.k h6 (by rw [h7, sizeLine_eq]; exact hz), k σ _ F2 (h8 ky v rfl) (s1.trans s2) Out.refl⟩
        · cases e4
      · cases e4
    · cases e2
/-- k in d -/
def dDin (i : Nat) (f : EF) : EB := fun ρ => (f ρ).bind fun x => match keyOf x.1, x.2[i]? with
  | some _, some (.od kvs) => some ((getDk kvs x.1).isSome, x.2)
  | _, _ => none
theorem din_imp {K : PySem.W.Frag} (i : Nat) {f : EF} {td : TE} (hg : ∀ σ H Q, (∃ v, σ[i]? = some (some v) ∧ Q v H) → td σ H Q) {g : Bool → Bool} : ∀ σ H (Q : Bool → Hp → Prop), (∃ W F ρ c ρ', R K cm W σ H F ρ ∧ dDin i f ρ = some (c, ρ') ∧ ∀ H' F', R K cm W σ H' F' ρ' → Same F F' → Pu b ρ ρ' H H' → Q (g c) H') →
    tP K cm b f σ H fun y H1 => td σ H1 fun x H2 => ∃ a o, x = .ref a ∧ DGet H2 a y o ∧ Q (g o.isSome) H2 := by
  rintro σ H Q ⟨W, F, ρ, c, ρ', r, e, k⟩
  simp only [dDin, Option.bind_eq_some_iff] at e
  obtain ⟨⟨q, ρ1⟩, e1, e2⟩ := e
  refine ⟨W, F, ρ, q, ρ1, r, e1, fun y H1 F1 r1 s1 u1 d1 => ?_⟩
  split at e2
  · rename_i ky kvs hky h0
    cases e2
    have hky := keyOf_is hky
    dsimp only at hky
    subst hky
    have hx := d1.key
    subst hx
    obtain ⟨a, ks, vs, ds, fp, h1, h2, rfl, h3, h4, h5⟩ := r1.seeD h0
    refine hg _ _ _ ⟨_, h1, a, _, rfl, DGet.k h2, ?_⟩
    obtain ⟨g1, g2⟩ := h5.getK h3 (k := ky)
    have e5 : (valV (ks.zip vs) ky).isSome = (getDk ((ks.map keyP).zip ds) (keyP ky)).isSome := by
      cases hgd : getDk ((ks.map keyP).zip ds) (keyP ky) with
      | none => rw [g2 hgd]; rfl
      | some d0 =>
        obtain ⟨w, _, q1, _⟩ := g1 d0 hgd
        rw [q1]
        rfl
    rw [e5]
    exact k H1 F1 r1 s1 u1
  · cases e2
theorem t_din {x : Str} {e : Expr} {p : Pos} {f : EF} (i : Nat) (hu : X.A.units + 1 < cLine) (he : PE X e (tP X.K cm b f)) (hN : X.N[i]? = some x := by rfl) (hv : Vis X.env.scope x := by first | exact Or.inl rfl | exact Or.inr (Or.inl rfl) | exact Or.inr (Or.inr rfl)) (hd : (x == ("__debug__" : Str)) = false := by decide)
    (hcd : (x == ("__classdict__" : Str)) = false := by decide) (hm : behindInMarks .In (.Name x p) = false := by first | exact nobehind _ (by decide) (by decide) | rfl) : PT X (.Compare e [.In] [.Name x p] pos) (tT X.K cm b (dDin i f)) :=
  PT.imp (pt_cmp (pc_din hu he (pe_var hN hv hd hcd)) hm) fun σ H Q h => by
    have := din_imp (b := b) (td := tVar i) i (fun _ _ _ z => z) (g := fun c => c) σ H (fun c H' => ∃ d, (.bl c : V) = .bl d ∧ Q d H') (by
      obtain ⟨W, F, ρ, c, ρ', r, e, k⟩ := h
      exact ⟨W, F, ρ, c, ρ', r, e, fun H' F' r' s' u' => ⟨_, rfl, k H' F' r' s' u'⟩⟩)
    exact this
/-- d[k] -/
def dDget (i : Nat) (f : EF) : EF := fun ρ => if someD ρ i = true then (f ρ).bind fun x => match keyOf x.1, x.2[i]? with
    | some _, some (.od kvs) => match getDk kvs x.1 with
      | some (.pd p) => some (p, x.2)
      | _ => none
    | _, _ => none
  else none
theorem x_dget {x : Str} {e : Expr} {p : Pos} {f : EF} (i : Nat) (hu : X.A.units + 1 < cLine) (he : PE X e (tP X.K cm b f)) (hns : NoSl e) (hN : X.N[i]? = some x := by rfl) (hv : Vis X.env.scope x := by first | exact Or.inl rfl | exact Or.inr (Or.inl rfl) | exact Or.inr (Or.inr rfl)) (hd : (x == ("__debug__" : Str)) = false := by decide)
    (hcd : (x == ("__classdict__" : Str)) = false := by decide) : PE X (.Subscript (.Name x p) e pos) (tP X.K cm b (dDget i f)) :=
  HW.PE.imp (pe_dget hu (pe_var hN hv hd hcd) he hns) fun σ H Q ⟨W, F, ρ, q, ρ', r, e, k⟩ => by
    unfold dDget at e
    split at e
    · rename_i h0
      obtain ⟨kvs0, h0⟩ := someD_is h0
      obtain ⟨a0, ks0, vs0, ds0, fp0, h1, _⟩ := r.seeD h0
      simp only [Option.bind_eq_some_iff] at e
      obtain ⟨⟨pk, ρ1⟩, e1, e2⟩ := e
      refine ⟨_, h1, W, F, ρ, pk, ρ1, r, e1, fun kv H1 F1 r1 s1 u1 d1 => ?_⟩
      split at e2
      · rename_i ky kvs hky h4
        split at e2
        · rename_i pp hg
          cases e2
          have hky := keyOf_is hky
          dsimp only at hky
          subst hky
          have hx := d1.key
          subst hx
          obtain ⟨a, ks, vs, ds, fp, h5, h6, rfl, h7, h8, h9⟩ := r1.seeD h4
          rw [h1] at h5
          cases h5
          obtain ⟨w, g, q1, q2, _⟩ := (h9.getK h7 (k := ky)).1 _ hg
          refine ⟨_, w, rfl, ?_, k w H1 F1 r1 s1 u1 (by cases q2 with | pd d => exact d)⟩
          have := DGet.k (k := ky) h6
          rw [q1] at this
          exact this
        · cases e2
      · cases e2
    · cases e
/-- sorted(d), the keys whole numbers -/
def dSortD (i : Nat) : EL := fun ρ => match ρ[i]? with
  | some (.od kvs) => (intKeys kvs).bind fun is => if is.length < 64 then some (intsL (ssetI is), ρ) else none
  | _ => none
theorem l_sortD {x : Str} {p p2 : Pos} (i : Nat) (hc : X.calm = true) (hm : MgN X "sorted") (hg : Gl X "sorted" := by rfl) (hN : X.N[i]? = some x := by rfl) (hv : Vis X.env.scope x := by first | exact Or.inl rfl | exact Or.inr (Or.inl rfl) | exact Or.inr (Or.inr rfl)) (hd : (x == ("__debug__" : Str)) = false := by decide)
    (hcd : (x == ("__classdict__" : Str)) = false := by decide) (he : starEach [.Name x p2] X.env = (false, eval (.Name x p2) X.env) :: starEach [] X.env := by rfl) (hpl : (backTo pos (starEach [] X.env)).any (·.1) = false := by rfl) :
    PE X (.Call (.Name "sorted" p) [.Name x p2] [] pos) (tL X.K cm true (dSortD i)) :=
  PE.imp (pe_callB (call_sortedDI hc) hg hm (by decide +kernel) (pa_cons (pe_var hN hv hd hcd) pa_nil he) (by decide) (by decide) he hpl) fun σ H Q ⟨W, F, ρ, ps, ρ', r, e0, k⟩ => by
    unfold dSortD at e0
    split at e0
    · rename_i kvs h0
      simp only [Option.bind_eq_some_iff] at e0
      obtain ⟨is, e1, e2⟩ := e0
      split at e2
      · rename_i hz
        cases e2
        obtain ⟨a, ks, vs, ds, fp, h1, h2, rfl, h3, h4, h5⟩ := r.seeD h0
        have hl : ks.length = ds.length := by rw [h3, h5.length]
        have hk := intKeys_is hl e1
        refine ⟨_, h1, a, ks.zip vs, is, rfl, .inl h2, by rw [List.map_fst_zip (by omega), hk], hz, fun ys l hp hs hn => ?_⟩
        have hnd : is.Nodup := by
          rw [hk] at h4
          exact List.Pairwise.of_map Sum.inl (fun a b hab e => hab (congrArg Sum.inl e)) h4
        have : ys = ssetI is := perm_sorted hp hs hnd
        subst this
        exact k l _ _ _ F r (Same.refl F) Pu.refl (DPs.ints _) hn rfl
      · cases e2
    · cases e0
end
end
end HW
namespace HW
open PySem
/-- the statements of a class's body -/
def clsBody : Stmt → List Stmt
  | .ClassDef _ _ _ body _ _ _ _ _ _ _ => body
  | _ => []
end HW

namespace HW
open PySem PySem.Spec PyProof.Rows L2
noncomputable section
theorem wipe2_get (ρ : Sl) (a b j : Nat) (h1 : j ≠ a) (h2 : j ≠ b) : (wipeR ρ [a, b])[j]? = ρ[j]? := by
  rw [wipeR_get, if_neg (by simp [h1, h2])]
theorem anyP_bools (bs : List Bool) : anyP [.list (bs.map .bool)] = some (.bool (bs.any id)) := by
  simp [anyP, bolsP_map]
theorem rng1P_eq (j : Int) : rng1P [.int j] = @ite _ (-(2 ^ 62) ≤ j ∧ j < 2 ^ 62) (Classical.propDecidable _) (some (rngL 0 j.toNat)) none := rfl
theorem rngL_nat (n : Nat) : rngL 0 n = (List.range n).map fun (i : Nat) => .int (i : Int) := by
  unfold rngL
  congr 1
  funext i
  rw [Int.zero_add]
theorem rng1P_nat (n : Nat) (h : n < 1000000) : rng1P [.int (n : Int)] = some ((List.range n).map fun (i : Nat) => .int (i : Int)) := by
  rw [rng1P_eq, if_pos (by omega), ← rngL_nat]
  rfl
theorem neP_int (i j : Int) : neP (.int i) (.int j) = some (!decide (i = j)) := by simp [neP]
theorem insI_len (k : Int) : ∀ r : List Int, (insI k r).length ≤ r.length + 1
  | [] => by simp [insI]
  | x :: r => by
    unfold insI
    split
    · simp
    · split
      · simp
      · have := insI_len k r; simp; omega
theorem ssetI_len (ns : List Int) : (ssetI ns).length ≤ ns.length := by
  unfold ssetI
  induction ns with
  | nil => simp
  | cons n ns ih => have := insI_len n (ns.foldr insI []); simp at ih ⊢; omega
theorem cutL_one (es : List P) : cutL es (some 1) none = es.tail := by
  unfold cutL
  have e1 : HT.sIx es.length 0 (some 1) = min 1 es.length := HT.sIx_nat es.length 0 1
  rw [e1, HT.sIx_none]
  cases es with
  | nil => rfl
  | cons x r =>
    rw [show min 1 (x :: r).length = 1 by simp]
    simp
theorem modP_pos {i j : Int} (h : 0 < j) : modP (.int i) (.int j) = some (.int (i % j)) := by
  show @ite _ (0 < j) (Classical.propDecidable _) _ _ = _
  rw [if_pos h]
theorem fdivP_pos {i j : Int} (h : 0 < j) (h2 : j < 1000000) : fdivP (.int i) (.int j) = some (.int (i / j)) := by
  show @ite _ (0 < j ∧ j < 1073741824) (Classical.propDecidable _) _ _ = _
  rw [if_pos ⟨h, by omega⟩]
theorem mulP_two {i : Int} : mulP (.int 2) (.int i) = some (.int (2 * i)) := by
  show @ite _ _ (Classical.propDecidable _) _ _ = _
  rw [if_pos (Or.inl ⟨by omega, by omega⟩)]
def encO : Option Int → P
  | none => .none
  | some i => .int i
theorem rng2P_eq (i j : Int) : rng2P [.int i, .int j] = @ite _ (-(2 ^ 62) ≤ i ∧ i < 2 ^ 62 ∧ -(2 ^ 62) ≤ j ∧ j < 2 ^ 62) (Classical.propDecidable _) (some (rngL i (j - i).toNat)) none := rfl
theorem rng2P_one (n : Nat) (h : n < 1000000) : rng2P [.int 1, .int ((n : Int) + 1)] = some (((List.range n).map (· + 1)).map fun (i : Nat) => .int (i : Int)) := by
  rw [rng2P_eq, if_pos (by omega)]
  have e : ((n : Int) + 1 - 1).toNat = n := by omega
  rw [e]
  unfold rngL
  rw [List.map_map]
  congr 1
  apply List.map_congr_left
  intro i _
  show PyData.int _ = PyData.int _
  congr 1
  push_cast
  omega
@[simp] theorem isN_encO (b : Option Int) : isNP (encO b) = b.isNone := by cases b <;> rfl
theorem way_ne {a b : Str} (h : decide (a = b) = false) : eqP (.str a) (.str b) = some false := by rw [eqP_str, h]
theorem way_eq (a : Str) : eqP (.str a) (.str a) = some true := by rw [eqP_str]; simp
theorem seq_nx {s1 s2 : SF} {ρ ρ1 : Sl} (h : s1 ρ = some (.nx, ρ1)) : dSeq s1 s2 ρ = s2 ρ1 := by rw [dSeq_, h]; rfl
def strsL (xs : List Str) : List P := xs.map .str
@[simp] theorem strsL_len (xs : List Str) : (strsL xs).length = xs.length := by simp [strsL]
theorem eqv_strs : ∀ a b : List Str, PyData.eqvAll (strsL a) (strsL b) = decide (a = b)
  | [], [] => by simp [strsL, PyData.eqvAll]
  | [], _ :: _ => by simp [strsL, PyData.eqvAll]
  | _ :: _, [] => by simp [strsL, PyData.eqvAll]
  | x :: a, y :: b => by
    show PyData.eqvAll (.str x :: strsL a) (.str y :: strsL b) = _
    simp only [PyData.eqvAll, eqv_strs a b, PyData.eqv, List.cons.injEq]
    by_cases h : x = y
    · subst h
      by_cases h2 : a = b <;> simp [h2]
    · simp [h]
theorem eqP_strs (a b : List Str) : eqP (.list (strsL a)) (.list (strsL b)) = some (decide (a = b)) := by
  unfold eqP
  have : PyData.depthAll (strsL a) ≤ 0 := depthAll_le fun x hx => by
    obtain ⟨r, _, rfl⟩ := List.mem_map.mp hx
    simp
  rw [shal_of (by simp only [PyData.depth]; omega)]
  simp only [PyData.eqv, eqv_strs, if_true]
theorem cutL_to (xs : List P) (k : Nat) : cutL xs none (some (k : Int)) = xs.take k := by
  unfold cutL
  rw [HT.sIx_none, HT.sIx_nat]
  simp only [List.drop_zero, Nat.sub_zero]
  rw [List.take_eq_take_iff]
  omega
theorem cutL_from (xs : List P) (k : Nat) : cutL xs (some (k : Int)) none = xs.drop k := by
  unfold cutL
  rw [HT.sIx_none, HT.sIx_nat]
  by_cases h : k ≤ xs.length
  · rw [Nat.min_eq_left h]
    exact List.take_of_length_le (by simp)
  · rw [Nat.min_eq_right (by omega), List.drop_of_length_le (Nat.le_refl _), List.drop_of_length_le (by omega)]
    simp
theorem strs_take (xs : List Str) (k : Nat) : (strsL xs).take k = strsL (xs.take k) := by simp [strsL]
theorem strs_drop (xs : List Str) (k : Nat) : (strsL xs).drop k = strsL (xs.drop k) := by simp [strsL]
theorem strs_app (xs ys : List Str) : strsL xs ++ strsL ys = strsL (xs ++ ys) := by simp [strsL]
theorem slA_to (xs : List P) (k : Nat) : sliceA (.list xs) none (some (k : Int)) = some (.list (xs.take k)) := by
  show some (PyData.list (cutL xs none (some (k : Int)))) = _
  rw [cutL_to]
theorem slA_from (xs : List P) (k : Nat) : sliceA (.list xs) (some (k : Int)) none = some (.list (xs.drop k)) := by
  show some (PyData.list (cutL xs (some (k : Int)) none)) = _
  rw [cutL_from]
theorem mulP_list (xs : List P) (k : Nat) (h : k < 1000000) (h2 : xs.length * k < 1000000) : mulP (.list xs) (.int (k : Int)) = some (.list (List.replicate k xs).flatten) := by
  show @ite _ _ (Classical.propDecidable _) _ _ = _
  rw [if_pos ⟨by omega, by omega, by simp; omega⟩]
  simp
theorem strs_rep (xs : List Str) (k : Nat) : (List.replicate k (strsL xs)).flatten = strsL (List.replicate k xs).flatten := by simp [strsL]
theorem addP_list {xs ys : List P} (h : xs.length + ys.length < 1000000) : addP (.list xs) (.list ys) = some (.list (xs ++ ys)) := by
  show (if _ then _ else _) = _
  rw [if_pos (by omega)]
theorem comp_state {S β : Type} {vs : List Nat} {tg : Tg} {el : EF} (enc : β → P) (st : S → Sl) (I : S → Prop) (good : P → Prop)
    (h : ∀ s x, I s → ∃ ρ1 y ρ2 s', bindT tg (enc x) (st s) = some ρ1 ∧ el ρ1 = some (y, ρ2) ∧ wipeR ρ2 vs = st s' ∧ I s' ∧ good y) :
    ∀ (xs : List β) (s : S), I s → ∃ ys s', compL vs tg dYes el (xs.map enc) (st s) = some (ys, st s') ∧ I s' ∧ ys.length = xs.length ∧ ∀ y ∈ ys, good y
  | [], s, hs => ⟨[], s, rfl, hs, rfl, by simp⟩
  | x :: xs, s, hs => by
    obtain ⟨ρ1, y, ρ2, s1, e1, e2, e3, i1, g1⟩ := h s x hs
    obtain ⟨ys, s2, e4, i2, l2, g2⟩ := comp_state enc st I good h xs s1 i1
    refine ⟨y :: ys, s2, ?_, i2, by simp [l2], fun z hz => ?_⟩
    · rw [List.map_cons]
      unfold compL
      rw [e1, Option.bind_some, dYes_, Option.bind_some, if_pos rfl, e2, Option.bind_some]
      dsimp only
      rw [e3, e4]
      rfl
    · rcases List.mem_cons.mp hz with rfl | hz
      · exact g1
      · exact g2 z hz
theorem goodInts {m : Int} : ∀ {ys : List P}, (∀ y ∈ ys, ∃ v : Int, y = .int v ∧ 0 ≤ v ∧ v < m) → ∃ ns : List Int, ys = intsL ns ∧ ∀ v ∈ ns, 0 ≤ v ∧ v < m
  | [], _ => ⟨[], rfl, by simp⟩
  | y :: ys, h => by
    obtain ⟨v, rfl, h1, h2⟩ := h y (by simp)
    obtain ⟨ns, e, h3⟩ := goodInts (ys := ys) fun z hz => h z (by simp [hz])
    subst e
    exact ⟨v :: ns, rfl, fun w hw => by
      rcases List.mem_cons.mp hw with rfl | hw
      · exact ⟨h1, h2⟩
      · exact h3 w hw⟩
theorem at_int {v : Int} {n : Nat} (h0 : 0 ≤ v) (h1 : v < n) : ∃ k : Nat, v = k ∧ k < n := by
  obtain ⟨k, rfl⟩ := Int.eq_ofNat_of_zero_le h0
  exact ⟨k, rfl, by exact_mod_cast h1⟩
theorem ints_app (a b : List Int) : intsL a ++ intsL b = intsL (a ++ b) := by simp [intsL]
/-! ### what is like itself -/
mutual
def plainP : P → Bool
  | .list xs => plainAll xs
  | .tuple xs => plainAll xs
  | .dict _ => false
  | _ => true
def plainAll : List P → Bool
  | [] => true
  | x :: xs => plainP x && plainAll xs
end
mutual
theorem eqv_refl : ∀ p : P, plainP p = true → PyData.eqv p p = true
  | .none, _ => by simp [PyData.eqv]
  | .bool b, _ => by simp [PyData.eqv]
  | .int i, _ => by simp [PyData.eqv]
  | .str s, _ => by simp [PyData.eqv]
  | .list xs, h => by simp only [PyData.eqv]; exact eqvAll_refl xs (by simpa [plainP] using h)
  | .tuple xs, h => by simp only [PyData.eqv]; exact eqvAll_refl xs (by simpa [plainP] using h)
  | .dict _, h => by simp [plainP] at h
theorem eqvAll_refl : ∀ xs : List P, plainAll xs = true → PyData.eqvAll xs xs = true
  | [], _ => by simp [PyData.eqvAll]
  | x :: xs, h => by
    simp only [plainAll, Bool.and_eq_true] at h
    simp only [PyData.eqvAll, Bool.and_eq_true]
    exact ⟨eqv_refl x h.1, eqvAll_refl xs h.2⟩
end
theorem plain_map {α : Type} (f : α → P) (h : ∀ x, plainP (f x) = true) : ∀ xs : List α, plainAll (xs.map f) = true
  | [] => rfl
  | x :: xs => by simp [plainAll, h x, plain_map f h xs]
theorem neP_refl {p : P} (h : plainP p = true) (hd : p.depth ≤ 100) : neP p p = some false := by
  unfold neP eqP
  rw [shal_of hd]
  simp [eqv_refl p h]
theorem depth_map {α : Type} (f : α → P) (n : Nat) (h : ∀ x, (f x).depth ≤ n) (xs : List α) : (PyData.list (xs.map f)).depth ≤ n + 1 := by
  have : PyData.depthAll (xs.map f) ≤ n := depthAll_le fun x hx => by
    obtain ⟨y, _, rfl⟩ := List.mem_map.mp hx
    exact h y
  simp only [PyData.depth]
  omega
theorem depth_ints (xs : List Int) : (PyData.list (intsL xs)).depth ≤ 1 := depth_map _ 0 (fun x => by simp) xs
theorem plain_ints (xs : List Int) : plainP (.list (intsL xs)) = true := by
  simp only [plainP]
  exact plain_map _ (fun _ => rfl) xs
theorem eqv_ints : ∀ a b : List Int, PyData.eqvAll (intsL a) (intsL b) = decide (a = b)
  | [], [] => by simp [intsL, PyData.eqvAll]
  | [], _ :: _ => by simp [intsL, PyData.eqvAll]
  | _ :: _, [] => by simp [intsL, PyData.eqvAll]
  | x :: a, y :: b => by
    show PyData.eqvAll (.int x :: intsL a) (.int y :: intsL b) = _
    simp only [PyData.eqvAll, eqv_ints a b, PyData.eqv, List.cons.injEq]
    by_cases h : x = y <;> by_cases h2 : a = b <;> simp [h, h2]
theorem eqP_ints (a b : List Int) : eqP (.list (intsL a)) (.list (intsL b)) = some (decide (a = b)) := by
  unfold eqP
  rw [shal_of (by have := depth_ints a; omega)]
  simp only [PyData.eqv, eqv_ints, if_true]
/-! ### sums, the least -/
theorem intsP_ints : ∀ xs : List Int, intsP (intsL xs) = some xs
  | [] => rfl
  | x :: xs => by
    show (intsP (intsL xs)).map (x :: ·) = _
    rw [intsP_ints xs]
    rfl
theorem sumP_ints (xs : List Int) : sumP [.list (intsL xs)] = some (.int xs.sum) := by
  show (intsP (intsL xs)).map _ = _
  rw [intsP_ints]
  rfl
theorem minD_ints : ∀ (xs : List Int) (x : Int), ∃ m, PySem.W.minD (.int x) (intsL xs) = .int m ∧ m ∈ x :: xs ∧ ∀ y ∈ x :: xs, m ≤ y
  | [], x => ⟨x, rfl, by simp, by simp⟩
  | y :: ys, x => by
    have e : (if PySem.W.dataLt (.int y) (.int x) = true then PyData.int y else .int x) = .int (if y < x then y else x) := by
      rw [PySem.W.dataLt_int]
      by_cases h : y < x <;> simp [h]
    obtain ⟨m, h1, h2, h3⟩ := minD_ints ys (if y < x then y else x)
    refine ⟨m, ?_, ?_, fun z hz => ?_⟩
    · unfold PySem.W.minD at h1 ⊢
      show List.foldl _ (PyData.int x) (PyData.int y :: intsL ys) = _
      rw [List.foldl_cons, e]
      exact h1
    · rcases List.mem_cons.mp h2 with rfl | h
      · split <;> simp
      · simp [h]
    · have h4 : m ≤ (if y < x then y else x) := h3 _ (by simp)
      have h5 : (if y < x then y else x) ≤ x ∧ (if y < x then y else x) ≤ y := by split <;> constructor <;> omega
      rcases List.mem_cons.mp hz with rfl | hz
      · omega
      · rcases List.mem_cons.mp hz with rfl | hz
        · omega
        · exact h3 z (by simp [hz])
theorem ordOk_ints (xs : List Int) : ordOk (intsL xs) = true := by
  unfold ordOk alikeB
  have hd : PyData.depthAll (intsL xs) ≤ 0 := depthAll_le fun x hx => by
    obtain ⟨y, _, rfl⟩ := List.mem_map.mp hx
    simp
  rw [Bool.and_eq_true]
  refine ⟨List.all_eq_true.mpr fun x hx => ?_, Nat.ble_eq_true_of_le (by omega)⟩
  obtain ⟨y, _, rfl⟩ := List.mem_map.mp hx
  rw [Bool.and_eq_true]
  refine ⟨rfl, List.all_eq_true.mpr fun z hz => ?_⟩
  obtain ⟨w, _, rfl⟩ := List.mem_map.mp hz
  rfl
theorem minP_ints (x : Int) (xs : List Int) : ∃ m, minP [.list (intsL (x :: xs))] = some (.int m) ∧ m ∈ x :: xs ∧ ∀ y ∈ x :: xs, m ≤ y := by
  obtain ⟨m, h1, h2, h3⟩ := minD_ints xs x
  refine ⟨m, ?_, h2, h3⟩
  show (if ordOk (intsL (x :: xs)) = true then some (PySem.W.minD (.int x) (intsL xs)) else none) = _
  rw [if_pos (ordOk_ints _), h1]
theorem idx_vv {ρ : Sl} {i j : Nat} {xs : List P} {k : Int} {p : P} (h1 : ρ[i]? = some (.pd (.list xs))) (h2 : ρ[j]? = some (.pd (.int k))) (a : atI xs k = some p) : dBin idxP (dV i) (dV j) ρ = some (p, ρ) := by
  simp [h1, h2, a]
theorem flat_rep {α : Type} (x : α) : ∀ n : Nat, (List.replicate n [x]).flatten = List.replicate n x
  | 0 => rfl
  | n + 1 => by rw [List.replicate_succ, List.flatten_cons, flat_rep x n]; rfl
theorem mulP_rep {x : P} {n : Nat} (h : n < 1000000) : mulP (.list [x]) (.int (n : Int)) = some (.list (List.replicate n x)) := by
  show (@ite _ _ (Classical.propDecidable _) (some (PyData.list (List.replicate ((n : Int)).toNat [x]).flatten)) none) = _
  rw [if_pos ⟨by omega, by omega, by simp; omega⟩, flat_rep]
  rfl
theorem rngLP_nat {n : Nat} (h : n < 1000000) : rngLP (.int (n : Int)) = some ((List.range n).map fun (i : Nat) => .int (i : Int)) := by
  show (@ite _ _ (Classical.propDecidable _) (some (rngL 0 ((n : Int)).toNat)) none) = _
  rw [if_pos ⟨by omega, by omega⟩]
  show some (rngL 0 n) = _
  rw [rngL_nat]
theorem find_head (p : Nat → Bool) : ∀ xs : List Nat, xs.find? p = (xs.filter p).head?
  | [] => rfl
  | x :: xs => by
    rw [List.find?_cons, List.filter_cons]
    cases p x with
    | true => rfl
    | false => simpa using find_head p xs
theorem plain_strs (xs : List Str) : plainP (.list (strsL xs)) = true := by
  simp only [plainP]
  exact plain_map _ (fun _ => rfl) xs
theorem depth_strs (xs : List Str) : (PyData.list (strsL xs)).depth ≤ 1 := depth_map _ 0 (fun x => by simp) xs
def absI (i : Int) : Int := if i < 0 then -i else i
theorem absI_nonneg (i : Int) : 0 ≤ absI i := by unfold absI; split <;> omega
def cells0 (script : List Int) : List Int := (script.take 63).map absI
theorem flat_get {α : Type} (b : List α) (s : Nat) (hs : 0 < s) (hb : b.length = s) : ∀ (q k : Nat), k < q * s → (List.replicate q b).flatten[k]? = b[k % s]?
  | 0, k, h => by simp at h
  | q + 1, k, h => by
    rw [List.replicate_succ, List.flatten_cons]
    by_cases hk : k < s
    · rw [List.getElem?_append_left (by omega), Nat.mod_eq_of_lt hk]
    · rw [List.getElem?_append_right (by omega), hb, flat_get b s hs hb q (k - s) (by have e : (q + 1) * s = q * s + s := Nat.succ_mul q s; omega)]
      rw [← Nat.mod_eq_sub_mod (by omega : k ≥ s)]
theorem flat_len {α : Type} (b : List α) (q : Nat) : (List.replicate q b).flatten.length = q * b.length := by simp
theorem period_iff {α : Type} (xs : List α) (s : Nat) (hs : 0 < s) (hd : xs.length % s = 0) (hle : s ≤ xs.length) : (List.replicate (xs.length / s) (xs.take s)).flatten = xs ↔ ∀ k, k < xs.length → xs[k]? = xs[k % s]? := by
  have hq : xs.length / s * s = xs.length := Nat.div_mul_cancel (Nat.dvd_of_mod_eq_zero hd)
  have hl : (xs.take s).length = s := by rw [List.length_take]; omega
  have g : ∀ k, k < xs.length → (List.replicate (xs.length / s) (xs.take s)).flatten[k]? = xs[k % s]? := fun k hk => by
    rw [flat_get (xs.take s) s hs hl _ k (by rw [hq]; exact hk), List.getElem?_take_of_lt (Nat.mod_lt _ hs)]
  constructor
  · intro h k hk
    rw [← g k hk, h]
  · intro h
    apply List.ext_getElem?
    intro k
    by_cases hk : k < xs.length
    · rw [g k hk, ← h k hk]
    · rw [List.getElem?_eq_none (by rw [flat_len, hl, hq]; omega), List.getElem?_eq_none (by omega)]
theorem range_one (p : Nat → Bool) (n t : Nat) (ht : t < n) (h : ∀ u, u < n → (p u = true ↔ u = t)) : (List.range n).filter p = [t] := by
  induction n with
  | zero => omega
  | succ n ih =>
    rw [List.range_succ, List.filter_append]
    by_cases e : t = n
    · subst e
      have h0 : (List.range t).filter p = [] := List.filter_eq_nil_iff.mpr fun u hu => by
        have hu' := List.mem_range.mp hu
        intro q
        have := (h u (by omega)).mp q
        omega
      rw [h0, List.filter_cons, if_pos ((h t (by omega)).mpr rfl)]
      rfl
    · rw [ih (by omega) fun u hu => h u (by omega), List.filter_cons, if_neg (fun q => e ((h n (by omega)).mp q).symm)]
      rfl
theorem flat_congr {α β : Type} {f g : α → List β} : ∀ {xs : List α}, (∀ x ∈ xs, f x = g x) → xs.flatMap f = xs.flatMap g
  | [], _ => rfl
  | x :: xs, h => by rw [List.flatMap_cons, List.flatMap_cons, h x (by simp), flat_congr fun y hy => h y (by simp [hy])]
end
end HW

namespace HW
open PySem PySem.Spec PyProof.Rows L2
noncomputable section
/-! ### loops that count up while a test holds -/
/-- from k on, at most d steps, as long as p -/
def runTo (p : Nat → Bool) : Nat → Nat → Nat
  | 0, k => k
  | d + 1, k => if p k then runTo p d (k + 1) else k
theorem runTo_is (p : Nat → Bool) : ∀ (d k : Nat), k ≤ runTo p d k ∧ runTo p d k ≤ k + d ∧ (∀ j, k ≤ j → j < runTo p d k → p j = true) ∧ (runTo p d k < k + d → p (runTo p d k) = false)
  | 0, k => ⟨Nat.le_refl _, Nat.le_refl _, fun j h1 h2 => by simp [runTo] at h2; omega, fun h => by simp [runTo] at h⟩
  | d + 1, k => by
    unfold runTo
    cases hp : p k with
    | false => exact ⟨by simp, by simp, fun j h1 h2 => by simp at h2; omega, fun _ => by simpa using hp⟩
    | true =>
      obtain ⟨h1, h2, h3, h4⟩ := runTo_is p d (k + 1)
      simp only [if_true]
      refine ⟨by omega, by omega, fun j q1 q2 => ?_, fun q => h4 (by omega)⟩
      by_cases hj : j = k
      · subst hj; exact hp
      · exact h3 j (by omega) q2
/-- a while loop that goes on from state k to state k + 1 -/
theorem while_up {c : EB} {body : SF} (st : Nat → Sl) (p : Nat → Bool) (most : Nat) (hc : ∀ k, k ≤ most → c (st k) = some (decide (k < most) && p k, st k)) (hb : ∀ k, k < most → p k = true → body (st k) = some (.nx, st (k + 1))) :
    ∀ (d k n : Nat), k + d = most → d < n → whileL c body n (st k) = some (.nx, st (runTo p d k))
  | 0, k, 0, _, hn => by omega
  | d + 1, k, 0, _, hn => by omega
  | 0, k, n + 1, hk, _ => by
    unfold whileL
    rw [hc k (by omega), Option.bind_some]
    dsimp only
    rw [decide_eq_false (by omega), Bool.false_and, if_neg Bool.false_ne_true]
    rfl
  | d + 1, k, n + 1, hk, hn => by
    unfold whileL
    rw [hc k (by omega), Option.bind_some]
    dsimp only
    rw [decide_eq_true (by omega : k < most), Bool.true_and]
    unfold runTo
    cases hp : p k with
    | false => rfl
    | true =>
      rw [if_pos rfl, hb k (by omega) hp, Option.bind_some]
      exact while_up st p most hc hb d (k + 1) n (by omega) (by omega)
theorem dWhile_up {c : EB} {body : SF} (st : Nat → Sl) (p : Nat → Bool) (most : Nat) (hc : ∀ k, k ≤ most → c (st k) = some (decide (k < most) && p k, st k)) (hb : ∀ k, k < most → p k = true → body (st k) = some (.nx, st (k + 1))) (hm : most < 1000000) :
    dWhile c body (st 0) = some (.nx, st (runTo p most 0)) := by
  unfold dWhile
  exact while_up st p most hc hb most 0 FU (by omega) (by unfold FU; omega)
end
end HW

namespace HW
open PySem PySem.Spec PyProof.Rows L2
noncomputable section
section
variable {ρ : Sl} {i n : Nat} {f : Str} {g : EF} {e : EL} {q : ED} {fd : D → List P → Option (D × D)} {c : Str}
@[simp] theorem dFld_ : dFld i f ρ = match ρ[i]? with
  | some (.ob _ fs) => match fs.lookup f with
    | some (.pd p) => some (p, ρ)
    | _ => none
  | _ => none := Eq.trans rfl rfl
@[simp] theorem dSFld_ : dSFld i f g ρ = (g ρ).bind fun x => match x.2[i]? with
  | some (.ob c fs) => if fs.length < 1000 then some (.nx, x.2.set i (.ob c (putD f (.pd x.1) fs))) else none
  | _ => none := Eq.trans rfl rfl
@[simp] theorem dMeth_ : dMeth n i f fd e ρ = match ρ[i]? with
  | some (.ob _ fs) => if (fs.lookup f).isNone = true then (e ρ).bind fun x => if x.1.length = n then match x.2[i]? with
      | some .hole => none
      | none => none
      | some d0 => (fd d0 x.1).map fun y => (y.2, x.2.set i y.1)
      else none
    else none
  | _ => none := Eq.trans rfl rfl
@[simp] theorem dMake_ : dMake n c fd e ρ = (e ρ).bind fun x => if x.1.length = n then (fd (.ob c []) x.1).bind fun y => match y.2 with
  | .pd .none => some (y.1, x.2)
  | _ => none
  else none := Eq.trans rfl rfl
@[simp] theorem dDo_ : dDo q ρ = (q ρ).map fun x => (.nx, x.2) := Eq.trans rfl rfl
@[simp] theorem dRetN_ : dRetN ρ = some (.rt (.pd .none), ρ) := Eq.trans rfl rfl
end
end
end HW

namespace HW
open PySem PySem.Spec PyProof.Rows L2
noncomputable section
/-! ### steps -/
theorem seq_rt {s1 s2 : SF} {ρ ρ1 : Sl} {d : D} (h : s1 ρ = some (.rt d, ρ1)) : dSeq s1 s2 ρ = some (.rt d, ρ1) := by rw [dSeq_, h]; rfl
theorem if_t {c : EB} {s1 s2 : SF} {ρ ρ1 : Sl} (h : c ρ = some (true, ρ1)) : dIfS c s1 s2 ρ = s1 ρ1 := by rw [dIfS_, h]; rfl
theorem if_f {c : EB} {s1 s2 : SF} {ρ ρ1 : Sl} (h : c ρ = some (false, ρ1)) : dIfS c s1 s2 ρ = s2 ρ1 := by rw [dIfS_, h]; rfl
theorem set_of {i : Nat} {f : EF} {ρ ρ1 : Sl} {p : P} (h : f ρ = some (p, ρ1)) : dSet i (dPd f) ρ = some (.nx, ρ1.set i (.pd p)) := by rw [dSet_, dPd_, h]; rfl
theorem ret_of {f : EF} {ρ ρ1 : Sl} {p : P} (h : f ρ = some (p, ρ1)) : dRet (dPd f) ρ = some (.rt (.pd p), ρ1) := by rw [dRet_, dPd_, h]; rfl
theorem arg_of {f : EF} {fs : List EF} {ρ ρ1 ρ2 : Sl} {p : P} {ps : List P} (h : f ρ = some (p, ρ1)) (h2 : dArgs fs ρ1 = some (ps, ρ2)) : dArgs (f :: fs) ρ = some (p :: ps, ρ2) := by rw [dArgs_cons, h, Option.bind_some, h2]; rfl
theorem tup_of {fs : List EF} {ρ ρ2 : Sl} {ps : List P} (h2 : dArgs fs ρ = some (ps, ρ2)) : dTup fs ρ = some (.tuple ps, ρ2) := by rw [dTup_, h2]; rfl
theorem lst_of {e : EL} {ρ ρ2 : Sl} {ps : List P} (h2 : e ρ = some (ps, ρ2)) : dLst e ρ = some (.list ps, ρ2) := by rw [dLst_, h2]; rfl
theorem bin_of {o : P → P → Option P} {f g : EF} {ρ ρ1 ρ2 : Sl} {p q r : P} (h1 : f ρ = some (p, ρ1)) (h2 : g ρ1 = some (q, ρ2)) (h : o p q = some r) : dBin o f g ρ = some (r, ρ2) := by rw [dBin_, h1, Option.bind_some, h2, Option.bind_some, h]; rfl
theorem cmp_of {o : P → P → Option Bool} {f g : EF} {ρ ρ1 ρ2 : Sl} {p q : P} {r : Bool} (h1 : f ρ = some (p, ρ1)) (h2 : g ρ1 = some (q, ρ2)) (h : o p q = some r) : dCmp o f g ρ = some (r, ρ2) := by rw [dCmp_, h1, Option.bind_some, h2, Option.bind_some, h]; rfl
theorem call_of {o : List P → Option P} {e : EL} {ρ ρ1 : Sl} {ps : List P} {p : P} (h1 : e ρ = some (ps, ρ1)) (h : o ps = some p) : dCall o e ρ = some (p, ρ1) := by rw [dCall_, h1, Option.bind_some, h]; rfl
theorem callN_of {n : Nat} {o : List P → Option P} {e : EL} {ρ ρ1 : Sl} {ps : List P} {p : P} (h1 : e ρ = some (ps, ρ1)) (hl : ps.length = n) (h : o ps = some p) : dCallN n o e ρ = some (p, ρ1) := by rw [dCallN_, h1, Option.bind_some, if_pos hl, h]; rfl
theorem v_of {i : Nat} {ρ : Sl} {p : P} (h : ρ[i]? = some (.pd p)) : dV i ρ = some (p, ρ) := by rw [dV_, h]
theorem and_t {c d : EB} {ρ ρ1 : Sl} (h : c ρ = some (true, ρ1)) : dAnd c d ρ = d ρ1 := by rw [dAnd_, h]; rfl
theorem and_f {c d : EB} {ρ ρ1 : Sl} (h : c ρ = some (false, ρ1)) : dAnd c d ρ = some (false, ρ1) := by rw [dAnd_, h]; rfl
theorem or_t {c d : EB} {ρ ρ1 : Sl} (h : c ρ = some (true, ρ1)) : dOr c d ρ = some (true, ρ1) := by rw [dOr_, h]; rfl
theorem or_f {c d : EB} {ρ ρ1 : Sl} (h : c ρ = some (false, ρ1)) : dOr c d ρ = d ρ1 := by rw [dOr_, h]; rfl
theorem not_of {c : EB} {ρ ρ1 : Sl} {b : Bool} (h : c ρ = some (b, ρ1)) : dNot c ρ = some (!b, ρ1) := by rw [dNot_, h]; rfl
theorem isN_by {f : EF} {ρ ρ1 : Sl} {p : P} (h : f ρ = some (p, ρ1)) : dIsN f ρ = some (isNP p, ρ1) := by rw [dIsN_, h]; rfl
theorem isN_y {f : EF} {ρ ρ1 : Sl} {p : P} (h : f ρ = some (p, ρ1)) (hp : isNP p = true) : dIsN f ρ = some (true, ρ1) := by rw [isN_by h, hp]
theorem isN_n {f : EF} {ρ ρ1 : Sl} {p : P} (h : f ρ = some (p, ρ1)) (hp : isNP p = false) : dIsN f ρ = some (false, ρ1) := by rw [isN_by h, hp]
theorem notN_y {f : EF} {ρ ρ1 : Sl} {p : P} (h : f ρ = some (p, ρ1)) (hp : isNP p = true) : dNot (dIsN f) ρ = some (false, ρ1) := by rw [not_of (isN_y h hp)]; rfl
theorem notN_n {f : EF} {ρ ρ1 : Sl} {p : P} (h : f ρ = some (p, ρ1)) (hp : isNP p = false) : dNot (dIsN f) ρ = some (true, ρ1) := by rw [not_of (isN_n h hp)]; rfl
theorem b_of {c : EB} {ρ ρ1 : Sl} {b : Bool} (h : c ρ = some (b, ρ1)) : dB c ρ = some (.bool b, ρ1) := by rw [dB_, h]; rfl
theorem tru_by {f : EF} {ρ ρ1 : Sl} {p : P} {b : Bool} (h : f ρ = some (p, ρ1)) (h2 : truP p = some b) : dTru f ρ = some (b, ρ1) := by rw [dTru_, h, Option.bind_some, h2]; rfl
theorem ife_t {c : EB} {f g : EF} {ρ ρ1 : Sl} (h : c ρ = some (true, ρ1)) : dIf c f g ρ = f ρ1 := by rw [dIf_, h]; rfl
theorem ife_f {c : EB} {f g : EF} {ρ ρ1 : Sl} (h : c ρ = some (false, ρ1)) : dIf c f g ρ = g ρ1 := by rw [dIf_, h]; rfl
theorem callL_of {o : List P → Option (List P)} {e : EL} {ρ ρ1 : Sl} {ps : List P} {xs : List P} (h1 : e ρ = some (ps, ρ1)) (h : o ps = some xs) : dCallL o e ρ = some (xs, ρ1) := by rw [dCallL_, h1, Option.bind_some, h]; rfl
theorem for_of {e : EL} {t : Tg} {s1 : SF} {ρ ρ1 : Sl} {xs : List P} (h : e ρ = some (xs, ρ1)) : dFor e t s1 ρ = forL t s1 xs ρ1 := by rw [dFor_, h]; rfl
theorem it_of {f : EF} {ρ ρ1 : Sl} {p : P} {xs : List P} (h : f ρ = some (p, ρ1)) (h2 : itP p = some xs) : dIt f ρ = some (xs, ρ1) := by rw [dIt_, h, Option.bind_some, h2]; rfl
theorem itA_of {o : List P → Option (List P)} {e : EL} {ρ ρ1 : Sl} {ps xs : List P} (h : e ρ = some (ps, ρ1)) (h2 : o ps = some xs) : dItA o e ρ = some (xs, ρ1) := by rw [dItA_, h, Option.bind_some, h2]; rfl
theorem app_of {i : Nat} {f : EF} {ρ ρ1 : Sl} {p : P} {ds : List D} (h0 : ρ[i]? = some (.ol ds)) (h : f ρ = some (p, ρ1)) (h1 : ρ1[i]? = some (.ol ds)) (hl : ds.length < 16777216) : dApp i (dPd f) ρ = some (.nx, ρ1.set i (.ol (ds ++ [.pd p]))) := by
  have e : someL ρ i = true := by rw [someL_, h0]
  rw [dApp_, if_pos e, dPd_, h, Option.map_some, Option.bind_some]
  dsimp only
  rw [h1]
  dsimp only
  rw [if_pos hl]
theorem fr_of {q : ED} {ρ ρ1 : Sl} {d : D} {p : P} (h : q ρ = some (d, ρ1)) (hd : frz d = some p) : dFr q ρ = some (p, ρ1) := by rw [dFr_, h, Option.bind_some, hd]; rfl
theorem runQ_of {np n : Nat} {f : SF} {ps : List P} {p : P} {d : D} {ρ : Sl} (hn : ps.length = np) (h : f (ps.map .pd ++ List.replicate (n - ps.length) .hole) = some (.rt d, ρ)) (hd : frz d = some p) : runQ np n f ps = some p := by
  unfold runQ runP
  rw [if_pos hn, h]
  exact hd
/-! ### loops over states that are told by a relation -/
theorem forL_rel {α β : Type} {t : Tg} {body : SF} (enc : β → P) (S : α → Sl → Prop) (step : α → β → α) (I : List β → α → Prop)
    (h : ∀ x r a ρ, I (x :: r) a → S a ρ → I r (step a x) ∧ ∃ ρ1 ρ2, bindT t (enc x) ρ = some ρ1 ∧ body ρ1 = some (.nx, ρ2) ∧ S (step a x) ρ2) :
    ∀ (xs : List β) (a : α) (ρ : Sl), I xs a → S a ρ → ∃ ρ', forL t body (xs.map enc) ρ = some (.nx, ρ') ∧ S (xs.foldl step a) ρ'
  | [], a, ρ, _, hs => ⟨ρ, rfl, hs⟩
  | x :: r, a, ρ, hI, hs => by
    obtain ⟨i2, ρ1, ρ2, e1, e2, s2⟩ := h x r a ρ hI hs
    obtain ⟨ρ', e3, s3⟩ := forL_rel enc S step I h r (step a x) ρ2 i2 s2
    refine ⟨ρ', ?_, s3⟩
    rw [List.map_cons]
    unfold forL
    rw [e1, Option.bind_some, e2, Option.bind_some]
    exact e3
theorem forL_all {β : Type} {t : Tg} {body : SF} (enc : β → P) (S : Sl → Prop) (xs : List β)
    (h : ∀ x ρ, x ∈ xs → S ρ → ∃ ρ1 ρ2, bindT t (enc x) ρ = some ρ1 ∧ body ρ1 = some (.nx, ρ2) ∧ S ρ2) (ρ : Sl) (hs : S ρ) : ∃ ρ', forL t body (xs.map enc) ρ = some (.nx, ρ') ∧ S ρ' := by
  obtain ⟨ρ', e, s⟩ := forL_rel (t := t) (body := body) enc (fun (_ : Unit) ρ => S ρ) (fun _ _ => ()) (fun r _ => ∀ y ∈ r, y ∈ xs) (fun x r a ρ hi hs => by
    obtain ⟨ρ1, ρ2, e1, e2, s2⟩ := h x ρ (hi x (by simp)) hs
    exact ⟨fun y hy => hi y (by simp [hy]), ρ1, ρ2, e1, e2, s2⟩) xs () ρ (fun y hy => hy) hs
  exact ⟨ρ', e, s⟩
/-- .. that may end before with an answer -/
theorem forL_ans {α β : Type} {t : Tg} {body : SF} (enc : β → P) (S : α → Sl → Prop) (T : D → Sl → Prop) (step : α → β → α ⊕ D) (I : List β → α → Prop)
    (h : ∀ x r a ρ, I (x :: r) a → S a ρ → match step a x with
      | .inl a' => I r a' ∧ ∃ ρ1 ρ2, bindT t (enc x) ρ = some ρ1 ∧ body ρ1 = some (.nx, ρ2) ∧ S a' ρ2
      | .inr d => ∃ ρ1 ρ2, bindT t (enc x) ρ = some ρ1 ∧ body ρ1 = some (.rt d, ρ2) ∧ T d ρ2) :
    ∀ (xs : List β) (a : α) (ρ : Sl), I xs a → S a ρ → match stepL step xs a with
      | .inl a' => ∃ ρ', forL t body (xs.map enc) ρ = some (.nx, ρ') ∧ S a' ρ'
      | .inr d => ∃ ρ', forL t body (xs.map enc) ρ = some (.rt d, ρ') ∧ T d ρ'
  | [], a, ρ, _, hs => ⟨ρ, rfl, hs⟩
  | x :: r, a, ρ, hI, hs => by
    have h1 := h x r a ρ hI hs
    rw [List.map_cons]
    unfold stepL forL
    cases e : step a x with
    | inl a' =>
      rw [e] at h1
      obtain ⟨i2, ρ1, ρ2, e1, e2, s2⟩ := h1
      have ih := forL_ans enc S T step I h r a' ρ2 i2 s2
      rw [e1, Option.bind_some, e2, Option.bind_some]
      exact ih
    | inr d =>
      rw [e] at h1
      obtain ⟨ρ1, ρ2, e1, e2, s2⟩ := h1
      rw [e1, Option.bind_some, e2, Option.bind_some]
      exact ⟨ρ2, rfl, s2⟩
end
end HW

namespace HW
open PySem PySem.Spec PyProof.Rows L2
noncomputable section
def at_d : SF := (dRet (dPd (dBin idxP (dV 0) (dBin modP (dV 1) (dCall lenP (dArgs [(dV 0)]))))))
def at_s : List P → Option P := runQ 2 2 at_d
def least_turn_b1 : SF := (dIfS (dAnd (dCmp eqP (dBin modP (dCall lenP (dArgs [(dV 0)])) (dV 1)) (dC (.int 0))) (dCmp eqP (dBin mulP (dSlA (dV 0) dNo (dSo (dV 1))) (dBin fdivP (dCall lenP (dArgs [(dV 0)])) (dV 1))) (dV 0))) (dRet (dPd (dSlA (dV 0) dNo (dSo (dV 1))))) dNx)
def least_turn_d : SF := (dSeq (dFor (dItA rng2P (dArgs [(dC (.int 1)), (dBin addP (dCall lenP (dArgs [(dV 0)])) (dC (.int 1)))])) (.nm 1) least_turn_b1)
  (dRet (dPd (dLst (dCallL listP (dArgs [(dV 0)]))))))
def least_turn_s : List P → Option P := runQ 1 2 least_turn_d
def turned_d : SF := (dSeq (dSet 2 (dPd (dBin modP (dV 1) (dCall lenP (dArgs [(dV 0)])))))
  (dRet (dPd (dBin addP (dSlA (dV 0) (dSo (dV 2)) dNo) (dSlA (dV 0) dNo (dSo (dV 2)))))))
def turned_s : List P → Option P := runQ 2 3 turned_d
def same_but_for_begin_b1 : SF := (dIfS (dCmp eqP (dCallN 2 turned_s (dArgs [(dV 2), (dV 4)])) (dV 3)) (dRet (dPd (dV 4))) dNx)
def same_but_for_begin_d : SF := (dSeq (dPar 2 3 (dArgs [(dCallN 1 least_turn_s (dArgs [(dV 0)])), (dCallN 1 least_turn_s (dArgs [(dV 1)]))]))
  (dSeq (dIfS (dCmp neP (dCall lenP (dArgs [(dV 2)])) (dCall lenP (dArgs [(dV 3)]))) (dRet (dPd (dC .none))) dNx)
  (dSeq (dFor (dItA rng1P (dArgs [(dCall lenP (dArgs [(dV 2)]))])) (.nm 4) same_but_for_begin_b1)
  (dRet (dPd (dC .none))))))
def same_but_for_begin_s : List P → Option P := runQ 2 5 same_but_for_begin_d
def stretch_from_b1 : SF := (dSet 5 (dPd (dBin addP (dV 5) (dC (.int 1)))))
def stretch_from_d : SF := (dSeq (dSet 5 (dPd (dC (.int 0))))
  (dSeq (dWhile (dAnd (dCmp ltP (dV 5) (dV 4)) (dCmp eqP (dCallN 2 at_s (dArgs [(dV 0), (dBin addP (dV 2) (dV 5))])) (dCallN 2 at_s (dArgs [(dV 1), (dBin addP (dV 3) (dV 5))])))) stretch_from_b1)
  (dRet (dPd (dV 5)))))
def stretch_from_s : List P → Option P := runQ 5 6 stretch_from_d
def bound_for_d : SF := (dRet (dPd (dBin addP (dCall lenP (dArgs [(dCallN 1 least_turn_s (dArgs [(dV 0)]))])) (dCall lenP (dArgs [(dCallN 1 least_turn_s (dArgs [(dV 1)]))])))))
def bound_for_s : List P → Option P := runQ 2 2 bound_for_d
def common_b1 : SF := (dSeq (dSet 7 (dPd (dCallN 5 stretch_from_s (dArgs [(dV 0), (dV 1), (dV 5), (dV 6), (dV 4)]))))
  (dIfS (dCmp gtP (dV 7) (dBin idxP (dV 3) (dC (.int 0)))) (dSet 3 (dPd (dTup [(dV 7), (dV 5), (dV 6)]))) dNx))
def common_b2 : SF := (dFor (dItA rng1P (dArgs [(dCall lenP (dArgs [(dCallN 1 least_turn_s (dArgs [(dV 1)]))]))])) (.nm 6) common_b1)
def common_d : SF := (dSeq (dSet 2 (dPd (dCallN 2 same_but_for_begin_s (dArgs [(dV 0), (dV 1)]))))
  (dSeq (dIfS (dNot (dIsN (dV 2))) (dRet (dPd (dTup [(dC (.str "same")), (dV 2)]))) dNx)
  (dSeq (dSet 3 (dPd (dTup [(dC (.int 0)), (dC (.int 0)), (dC (.int 0))])))
  (dSeq (dSet 4 (dPd (dCallN 2 bound_for_s (dArgs [(dV 0), (dV 1)]))))
  (dSeq (dFor (dItA rng1P (dArgs [(dCall lenP (dArgs [(dCallN 1 least_turn_s (dArgs [(dV 0)]))]))])) (.nm 5) common_b2)
  (dRet (dPd (dBin addP (dTup [(dC (.str "longest"))]) (dV 3)))))))))
def common_s : List P → Option P := runQ 2 8 common_d
def told_apart_b1 : SF := (dSeq (dSet 6 (dPd (dCallN 2 common_s (dArgs [(dV 3), (dV 5)]))))
  (dApp 4 (dPd (dB (dAnd (dCmp eqP (dBin idxP (dV 6) (dC (.int 0))) (dC (.str "longest"))) (dCmp ltP (dBin idxP (dV 6) (dC (.int 1))) (dV 1)))))))
def told_apart_b2 : SF := (dSeq (dSet 4 (dOl (dArgs [])))
  (dSeq (dFor (dIt (dV 0)) (.nm 5) told_apart_b1)
  (dFz 4 (dApp 2 (dPd (dV 4))))))
def told_apart_d : SF := (dSeq (dSet 2 (dOl (dArgs [])))
  (dSeq (dFor (dIt (dV 0)) (.nm 3) told_apart_b2)
  (dFz 2 (dRet (dPd (dV 2))))))
def told_apart_s : List P → Option P := runQ 2 7 told_apart_d
def clash_with_b1 : SF := (dIfS (dAnd (dOr (dCmp inP (dTup [(dV 5), (dV 3)]) (dV 0)) (dCmp inP (dTup [(dV 3), (dV 5)]) (dV 0))) (dNot (dTru (dBin idxP (dBin idxP (dV 1) (dBin idxP (dV 2) (dV 5))) (dV 4))))) (dRet (dPd (dV 5))) dNx)
def clash_with_d : SF := (dSeq (dFor (dItA rng1P (dArgs [(dV 3)])) (.nm 5) clash_with_b1)
  (dRet (dPd (dC .none))))
def clash_with_s : List P → Option P := runQ 5 6 clash_with_d
def Giving_init_d : SF := (dSeq (dSFld 0 "count" (dV 1))
  (dSeq (dSFld 0 "near" (dV 2))
  (dSeq (dSFld 0 "good" (dV 3))
  (dSeq (dSFld 0 "costs" (dV 4))
  (dSeq (dSFld 0 "limit" (dV 5))
  (dSeq (dSFld 0 "places" (dC (.int 0)))
  (dSFld 0 "best" (dC .none))))))))
def Giving_init_s : D → List P → Option (D × D) := runM 6 Giving_init_d
def Giving_step_d : SF := (dSeq (dSFld 0 "places" (dBin addP (dFld 0 "places") (dC (.int 1))))
  (dIfS (dCmp gtP (dFld 0 "places") (dFld 0 "limit")) dNever dNx))
def Giving_step_s : D → List P → Option (D × D) := runM 1 Giving_step_d
def Giving_go_b1 (rec : D → List P → Option (D × D)) : SF := (dIfS (dIsN (dCallN 5 clash_with_s (dArgs [(dFld 0 "near"), (dFld 0 "good"), (dV 1), (dCall lenP (dArgs [(dV 1)])), (dV 3)]))) (dDo (dMeth 2 0 "go" rec (dArgs [(dBin addP (dV 1) (dLst (dArgs [(dV 3)]))), (dBin addP (dV 2) (dBin idxP (dFld 0 "costs") (dV 3)))]))) dNx)
def Giving_go_d (rec : D → List P → Option (D × D)) : SF := (dSeq (dDo (dMeth 0 0 "step" Giving_step_s fun ρ => some ([], ρ)))
  (dSeq (dIfS (dAnd (dNot (dIsN (dFld 0 "best"))) (dCmp geP (dV 2) (dBin idxP (dFld 0 "best") (dC (.int 0))))) dRetN dNx)
  (dSeq (dIfS (dCmp eqP (dCall lenP (dArgs [(dV 1)])) (dFld 0 "count")) (dSeq (dSFld 0 "best" (dTup [(dV 2), (dV 1)]))
  dRetN) dNx)
  (dFor (dItA rng1P (dArgs [(dCall lenP (dArgs [(dFld 0 "costs")]))])) (.nm 3) (Giving_go_b1 rec)))))
def Giving_go_s : Nat → D → List P → Option (D × D)
  | 0 => fun _ _ => none
  | n + 1 => runM 4 (Giving_go_d (Giving_go_s n))
def Giving_tree_b1 (rec : D → List P → Option (D × D)) : SF := (dSeq (dSet 6 (dPd (dCallN 5 clash_with_s (dArgs [(dFld 0 "near"), (dFld 0 "good"), (dV 1), (dCall lenP (dArgs [(dV 1)])), (dV 5)]))))
  (dIfS (dNot (dIsN (dV 6))) (dApp 4 (dPd (dTup [(dC (.str "near")), (dV 6)]))) (dApp 4 (dPd (dFr (dMeth 3 0 "tree" rec (dArgs [(dBin addP (dV 1) (dLst (dArgs [(dV 5)]))), (dBin addP (dV 2) (dBin idxP (dFld 0 "costs") (dV 5))), (dV 3)])))))))
def Giving_tree_d (rec : D → List P → Option (D × D)) : SF := (dSeq (dIfS (dAnd (dNot (dIsN (dV 3))) (dCmp geP (dV 2) (dV 3))) (dRet (dPd (dTup [(dC (.str "cost"))]))) dNx)
  (dSeq (dSet 4 (dOl (dArgs [])))
  (dSeq (dFor (dItA rng1P (dArgs [(dCall lenP (dArgs [(dFld 0 "costs")]))])) (.nm 5) (Giving_tree_b1 rec))
  (dFz 4 (dRet (dPd (dTup [(dC (.str "each")), (dV 4)])))))))
def Giving_tree_s : Nat → D → List P → Option (D × D)
  | 0 => fun _ _ => none
  | n + 1 => runM 7 (Giving_tree_d (Giving_tree_s n))
def Giving_path_b1 (rec : D → List P → Option (D × D)) : SF := (dIfS (dCmp eqP (dBin idxP (dV 6) (dC (.int 0))) (dC (.str "near"))) (dSeq (dSet 7 (dPd (dBin idxP (dV 6) (dC (.int 1)))))
  (dSeq (dSet 8 (dPd (dB (dOr (dCmp inP (dTup [(dV 7), (dCall lenP (dArgs [(dV 1)]))]) (dFld 0 "near")) (dCmp inP (dTup [(dCall lenP (dArgs [(dV 1)])), (dV 7)]) (dFld 0 "near"))))))
  (dIfS (dOr (dNot (dChn leP ltP (dC (.int 0)) (dV 7) (dCall lenP (dArgs [(dV 1)])))) (dOr (dNot (dTru (dV 8))) (dTru (dBin idxP (dBin idxP (dFld 0 "good") (dBin idxP (dV 1) (dV 7))) (dV 5))))) (dRet (dPd (dLst (dArgs [(dV 5)])))) dNx))) (dSeq (dSet 9 (dPd (dFr (dMeth 4 0 "path" rec (dArgs [(dBin addP (dV 1) (dLst (dArgs [(dV 5)]))), (dBin addP (dV 2) (dBin idxP (dFld 0 "costs") (dV 5))), (dV 3), (dV 6)])))))
  (dIfS (dNot (dIsN (dV 9))) (dRet (dPd (dBin addP (dLst (dArgs [(dV 5)])) (dV 9)))) dNx)))
def Giving_path_d (rec : D → List P → Option (D × D)) : SF := (dSeq (dIfS (dCmp eqP (dBin idxP (dV 4) (dC (.int 0))) (dC (.str "cost"))) (dRet (dPd (dIf (dAnd (dNot (dIsN (dV 3))) (dCmp geP (dV 2) (dV 3))) (dC .none) (dLst (dArgs []))))) dNx)
  (dSeq (dIfS (dOr (dCmp neP (dBin idxP (dV 4) (dC (.int 0))) (dC (.str "each"))) (dOr (dCmp eqP (dCall lenP (dArgs [(dV 1)])) (dFld 0 "count")) (dCmp neP (dCall lenP (dArgs [(dBin idxP (dV 4) (dC (.int 1)))])) (dCall lenP (dArgs [(dFld 0 "costs")]))))) (dRet (dPd (dLst (dArgs [])))) dNx)
  (dSeq (dFor (dItA enumAP (dArgs [(dBin idxP (dV 4) (dC (.int 1)))])) (.tcons (.nm 5) (.tcons (.nm 6) .tnil)) (Giving_path_b1 rec))
  (dRet (dPd (dC .none))))))
def Giving_path_s : Nat → D → List P → Option (D × D)
  | 0 => fun _ _ => none
  | n + 1 => runM 10 (Giving_path_d (Giving_path_s n))
def choice_of_d : SF := (dSeq (dSet 5 (dMake 5 "Giving" Giving_init_s (dArgs [(dV 0), (dV 1), (dV 2), (dV 3), (dV 4)])))
  (dSeq (dDo (dMeth 2 5 "go" (Giving_go_s 6) (dArgs [(dLst (dArgs [])), (dC (.int 0))])))
  (dSeq (dIfS (dIsN (dFld 5 "best")) (dRet (dPd (dTup [(dC (.str "never")), (dFr (dMeth 3 5 "tree" (Giving_tree_s 6) (dArgs [(dLst (dArgs [])), (dC (.int 0)), (dC .none)])))]))) dNx)
  (dSeq (dTgt (.tcons (.nm 6) (.tcons (.nm 7) .tnil)) (dFld 5 "best"))
  (dRet (dPd (dTup [(dC (.str "given")), (dV 7), (dV 6), (dFr (dMeth 3 5 "tree" (Giving_tree_s 6) (dArgs [(dLst (dArgs [])), (dC (.int 0)), (dV 6)])))])))))))
def choice_of_s : List P → Option P := runQ 5 8 choice_of_d
def choice_fault_b1 : SF := (dSeq (dSet 12 (dPd (dCallN 5 clash_with_s (dArgs [(dV 1), (dV 2), (dV 8), (dV 11), (dBin idxP (dV 8) (dV 11))]))))
  (dIfS (dNot (dIsN (dV 12))) (dRet (dPd (dTup [(dC (.str "near")), (dV 12), (dV 11)]))) dNx))
def choice_fault_d : SF := (dSeq (dSet 5 (dMake 5 "Giving" Giving_init_s (dArgs [(dV 0), (dV 1), (dV 2), (dV 3), (dC (.int 0))])))
  (dSeq (dIfS (dCmp eqP (dBin idxP (dV 4) (dC (.int 0))) (dC (.str "never"))) (dSeq (dSet 6 (dPd (dFr (dMeth 4 5 "path" (Giving_path_s 6) (dArgs [(dLst (dArgs [])), (dC (.int 0)), (dC .none), (dBin idxP (dV 4) (dC (.int 1)))])))))
  (dRet (dPd (dIf (dIsN (dV 6)) (dC .none) (dTup [(dC (.str "tree")), (dV 6)]))))) dNx)
  (dSeq (dTgt (.tcons (.nm 7) (.tcons (.nm 8) (.tcons (.nm 9) (.tcons (.nm 10) .tnil)))) (dV 4))
  (dSeq (dIfS (dOr (dCmp neP (dCall lenP (dArgs [(dV 8)])) (dV 0)) (dNot (dTru (dCall allP (dArgs [(dLst (dComp (dIt (dV 8)) [13] (.nm 13) dYes (dB (dChn leP ltP (dC (.int 0)) (dV 13) (dCall lenP (dArgs [(dV 3)]))))))]))))) (dRet (dPd (dTup [(dC (.str "choice"))]))) dNx)
  (dSeq (dFor (dItA rng1P (dArgs [(dV 0)])) (.nm 11) choice_fault_b1)
  (dSeq (dIfS (dCmp neP (dCall sumP (dArgs [(dLst (dComp (dIt (dV 8)) [13] (.nm 13) dYes (dBin idxP (dV 3) (dV 13))))])) (dV 9)) (dRet (dPd (dTup [(dC (.str "cost"))]))) dNx)
  (dSeq (dSet 6 (dPd (dFr (dMeth 4 5 "path" (Giving_path_s 6) (dArgs [(dLst (dArgs [])), (dC (.int 0)), (dV 9), (dV 10)])))))
  (dRet (dPd (dIf (dIsN (dV 6)) (dC .none) (dTup [(dC (.str "tree")), (dV 6)])))))))))))
def choice_fault_s : List P → Option P := runQ 5 14 choice_fault_d
def near_pairs_b1 : SF := (dSeq (dPar 5 6 (dArgs [(dBin subP (dBin idxP (dBin idxP (dV 0) (dV 3)) (dC (.int 0))) (dBin idxP (dBin idxP (dV 0) (dV 4)) (dC (.int 0)))), (dBin subP (dBin idxP (dBin idxP (dV 0) (dV 3)) (dC (.int 1))) (dBin idxP (dBin idxP (dV 0) (dV 4)) (dC (.int 1))))]))
  (dIfS (dCmp leP (dBin addP (dBin mulP (dV 5) (dV 5)) (dBin mulP (dV 6) (dV 6))) (dBin mulP (dV 1) (dV 1))) (dApp 2 (dPd (dTup [(dV 3), (dV 4)]))) dNx))
def near_pairs_b2 : SF := (dFor (dItA rng2P (dArgs [(dBin addP (dV 3) (dC (.int 1))), (dCall lenP (dArgs [(dV 0)]))])) (.nm 4) near_pairs_b1)
def near_pairs_d : SF := (dSeq (dSet 2 (dOl (dArgs [])))
  (dSeq (dFor (dItA rng1P (dArgs [(dCall lenP (dArgs [(dV 0)]))])) (.nm 3) near_pairs_b2)
  (dFz 2 (dRet (dPd (dV 2))))))
def near_pairs_s : List P → Option P := runQ 2 7 near_pairs_d
def least_time_b1 : SF := (dSeq (dSet 7 (dPd (dCallN 2 common_s (dArgs [(dV 5), (dV 6)]))))
  (dIfS (dCmp eqP (dBin idxP (dV 7) (dC (.int 0))) (dC (.str "longest"))) (dDput 4 (dC (.bool true)) (dBin addP (dBin idxP (dV 7) (dC (.int 1))) (dC (.int 1)))) dNx))
def least_time_b2 : SF := (dFor (dIt (dV 2)) (.nm 6) least_time_b1)
def least_time_b3 : SF := (dIfS (dCmp eqP (dBin idxP (dCallN 5 choice_of_s (dArgs [(dV 0), (dV 1), (dCallN 2 told_apart_s (dArgs [(dV 2), (dV 8)])), (dBin mulP (dLst (dArgs [(dC (.int 0))])) (dCall lenP (dArgs [(dV 2)]))), (dV 3)])) (dC (.int 0))) (dC (.str "given"))) (dRet (dPd (dV 8))) dNx)
def least_time_d : SF := (dSeq (dSet 4 (dDict1 (dC (.int 0)) (dC (.bool true))))
  (dSeq (dFor (dIt (dV 2)) (.nm 5) least_time_b2)
  (dSeq (dFor (dIt (dLst (dSortD 4))) (.nm 8) least_time_b3)
  (dRet (dPd (dC .none))))))
def least_time_s : List P → Option P := runQ 4 9 least_time_d
def starts_of_b1 : SF := (dExt 1 (dComp (dItA rng1P (dArgs [(dCall lenP (dArgs [(dCallN 1 least_turn_s (dArgs [(dV 3)]))]))])) [4] (.nm 4) dYes (dTup [(dV 2), (dV 4)])))
def starts_of_d : SF := (dSeq (dSet 1 (dOl (dArgs [])))
  (dSeq (dFor (dItA enumAP (dArgs [(dV 0)])) (.tcons (.nm 2) (.tcons (.nm 3) .tnil)) starts_of_b1)
  (dFz 1 (dRet (dPd (dV 1))))))
def starts_of_s : List P → Option P := runQ 1 5 starts_of_d
def bar_of_b1 : SF := (dIfS (dAnd (dNot (dIsN (dV 4))) (dCmp neP (dCallN 2 at_s (dArgs [(dV 0), (dBin addP (dV 1) (dV 3))])) (dV 4))) (dRet (dPd (dV 3))) dNx)
def bar_of_d : SF := (dSeq (dFor (dItA enumAP (dArgs [(dV 2)])) (.tcons (.nm 3) (.tcons (.nm 4) .tnil)) bar_of_b1)
  (dRet (dPd (dC .none))))
def bar_of_s : List P → Option P := runQ 3 5 bar_of_d
def fitting_b1 : SF := (dSeq (dSet 6 (dPd (dCallN 3 bar_of_s (dArgs [(dBin idxP (dV 0) (dV 4)), (dV 5), (dV 1)]))))
  (dIfS (dIsN (dV 6)) (dApp 2 (dPd (dTup [(dV 4), (dV 5)]))) (dApp 3 (dPd (dTup [(dV 4), (dV 5), (dV 6)])))))
def fitting_d : SF := (dSeq (dSet 2 (dOl (dArgs [])))
  (dSeq (dSet 3 (dOl (dArgs [])))
  (dSeq (dFor (dIt (dCallN 1 starts_of_s (dArgs [(dV 0)]))) (.tcons (.nm 4) (.tcons (.nm 5) .tnil)) fitting_b1)
  (dFz 3 (dFz 2 (dRet (dPd (dTup [(dV 2), (dV 3)]))))))))
def fitting_s : List P → Option P := runQ 2 7 fitting_d
def _law_state_d : SF := (dSeq (dSet 1 (dOl (dComp (dIt (dSlA (dV 0) dNo (dSo (dC (.int 63))))) [2] (.nm 2) dYes (dCall absP (dArgs [(dV 2)])))))
  (dSeq (dIfS (dCmp eqP (dPk 1 (dCall lenP (dArgs [(dV 1)]))) (dC (.int 0))) (dSet 1 (dOl (dArgs [(dC (.int 0))]))) dNx)
  (dRet (dLst2 (dC (.int 0)) 1))))
def _law_state_s : List P → Option D := runP 3 _law_state_d
abbrev _law_take_s : D → List P → Option (D × D) := takeS
def _law_runs_d : SF := (dSeq (dSet 1 (dPd (dLst (dComp (dItA rng1P (dArgs [(dBin addP (dC (.int 1)) (dFr (dFnM 1 0 _law_take_s (dArgs [(dC (.int 4))]))))])) [2] (.nm 2) dYes (dTup [(dBin idxP (dLst (dArgs [(dC (.str "")), (dC (.str "W")), (dC (.str "R"))])) (dFr (dFnM 1 0 _law_take_s (dArgs [(dC (.int 3))])))), (dBin addP (dC (.int 1)) (dFr (dFnM 1 0 _law_take_s (dArgs [(dC (.int 3))]))))])))))
  (dRet (dPd (dIf (dCmp gtP (dCall lenP (dArgs [(dLst (dComp (dIt (dV 1)) [3] (.nm 3) (dCmp neP (dBin idxP (dV 3) (dC (.int 0))) (dC (.str ""))) (dV 3)))])) (dC (.int 0))) (dV 1) (dBin addP (dLst (dArgs [(dTup [(dC (.str "W")), (dC (.int 1))])])) (dV 1))))))
def _law_runs_s : D → List P → Option (D × D) := runM 4 _law_runs_d
def _law_row_b1 : SF := (dSet 1 (dPd (dBin addP (dV 1) (dBin mulP (dLst (dArgs [(dV 2)])) (dV 3)))))
def _law_row_d : SF := (dSeq (dSet 1 (dPd (dLst (dArgs []))))
  (dSeq (dFor (dIt (dV 0)) (.tcons (.nm 2) (.tcons (.nm 3) .tnil)) _law_row_b1)
  (dRet (dPd (dV 1)))))
def _law_row_s : List P → Option P := runQ 1 4 _law_row_d
def _law_choices_b1 : SF := (dExt 4 (dComp (dItA rng1P (dArgs [(dV 0)])) [6] (.nm 6) dYes (dBin addP (dV 5) (dLst (dArgs [(dV 6)])))))
def _law_choices_b2 : SF := (dSeq (dSet 4 (dOl (dArgs [])))
  (dSeq (dFor (dIt (dV 2)) (.nm 5) _law_choices_b1)
  (dFz 4 (dSet 2 (dPd (dV 4))))))
def _law_choices_d : SF := (dSeq (dSet 2 (dPd (dLst (dArgs [(dLst (dArgs []))]))))
  (dSeq (dFor (dItA rng1P (dArgs [(dV 1)])) (.nm 3) _law_choices_b2)
  (dRet (dPd (dV 2)))))
def _law_choices_s : List P → Option P := runQ 2 7 _law_choices_d
def _law_stretch_b1 : SF := (dSet 6 (dPd (dBin addP (dV 6) (dC (.int 1)))))
def _law_stretch_b2 : SF := (dSeq (dSet 6 (dPd (dC (.int 0))))
  (dSeq (dWhile (dAnd (dCmp ltP (dV 6) (dV 2)) (dCmp eqP (dBin idxP (dV 0) (dBin modP (dBin addP (dV 4) (dV 6)) (dCall lenP (dArgs [(dV 0)])))) (dBin idxP (dV 1) (dBin modP (dBin addP (dV 5) (dV 6)) (dCall lenP (dArgs [(dV 1)])))))) _law_stretch_b1)
  (dSeq (dIfS (dCmp eqP (dV 6) (dV 2)) (dRet (dPd (dC .none))) dNx)
  (dSet 3 (dPd (dCall max2P (dArgs [(dV 3), (dV 6)])))))))
def _law_stretch_b3 : SF := (dFor (dItA rng1P (dArgs [(dCall lenP (dArgs [(dV 1)]))])) (.nm 5) _law_stretch_b2)
def _law_stretch_d : SF := (dSeq (dPar 2 3 (dArgs [(dBin addP (dCall lenP (dArgs [(dV 0)])) (dCall lenP (dArgs [(dV 1)]))), (dC (.int 0))]))
  (dSeq (dFor (dItA rng1P (dArgs [(dCall lenP (dArgs [(dV 0)]))])) (.nm 4) _law_stretch_b3)
  (dRet (dPd (dV 3)))))
def _law_stretch_s : List P → Option P := runQ 2 7 _law_stretch_d
def _law_less_d : SF := (dRet (dPd (dB (dAnd (dNot (dIsN (dV 0))) (dCmp ltP (dV 0) (dV 1))))))
def _law_less_s : List P → Option P := runQ 2 2 _law_less_d
def law_b1 : SF := (dSeq (dSet 9 (dPd (dTup [(dBin subP (dBin idxP (dBin idxP (dV 4) (dV 7)) (dC (.int 0))) (dBin idxP (dBin idxP (dV 4) (dV 8)) (dC (.int 0)))), (dBin subP (dBin idxP (dBin idxP (dV 4) (dV 7)) (dC (.int 1))) (dBin idxP (dBin idxP (dV 4) (dV 8)) (dC (.int 1))))])))
  (dSet 6 (dPd (dIf (dCmp leP (dBin addP (dBin mulP (dBin idxP (dV 9) (dC (.int 0))) (dBin idxP (dV 9) (dC (.int 0)))) (dBin mulP (dBin idxP (dV 9) (dC (.int 1))) (dBin idxP (dV 9) (dC (.int 1))))) (dBin mulP (dV 5) (dV 5))) (dBin addP (dV 6) (dLst (dArgs [(dTup [(dV 7), (dV 8)])]))) (dV 6)))))
def law_b2 : SF := (dFor (dItA rng2P (dArgs [(dBin addP (dV 7) (dC (.int 1))), (dV 3)])) (.nm 8) law_b1)
def law_b3 : SF := (dSeq (dSet 13 (dPd (dCallN 2 common_s (dArgs [(dBin idxP (dV 2) (dV 7)), (dBin idxP (dV 2) (dV 8))]))))
  (dIfS (dOr (dCmp neP (dB (dCmp eqP (dBin idxP (dV 13) (dC (.int 0))) (dC (.str "same")))) (dB (dIsN (dBin idxP (dBin idxP (dV 11) (dV 7)) (dV 8))))) (dAnd (dCmp eqP (dBin idxP (dV 13) (dC (.int 0))) (dC (.str "longest"))) (dCmp neP (dBin idxP (dV 13) (dC (.int 1))) (dBin idxP (dBin idxP (dV 11) (dV 7)) (dV 8))))) (dRet (dPd (dC (.bool false)))) dNx))
def law_b4 : SF := (dFor (dItA rng1P (dArgs [(dCall lenP (dArgs [(dV 2)]))])) (.nm 8) law_b3)
def law_b5 : SF := (dSeq (dSet 19 (dPd (dLst (dComp (dItA rng1P (dArgs [(dV 10)])) [25] (.nm 25) dYes (dBin idxP (dV 16) (dBin modP (dBin addP (dV 18) (dV 25)) (dCall lenP (dArgs [(dV 16)]))))))))
  (dIfS (dCmp gtP (dCall lenP (dArgs [(dLst (dComp (dIt (dBin idxP (dCallN 2 fitting_s (dArgs [(dLst (dArgs [(dV 16), (dV 17)])), (dV 19)])) (dC (.int 0)))) [29] (.nm 29) (dCmp eqP (dBin idxP (dV 29) (dC (.int 0))) (dC (.int 1))) (dV 29)))])) (dC (.int 0))) (dRet (dPd (dC (.bool false)))) dNx))
def law_b6 : SF := (dSeq (dTgt (.tcons (.nm 16) (.tcons (.nm 17) .tnil)) (dTup [(dBin idxP (dV 2) (dBin idxP (dBin idxP (dV 13) (dC (.int 1))) (dV 7))), (dBin idxP (dV 2) (dBin idxP (dBin idxP (dV 13) (dC (.int 1))) (dV 8)))]))
  (dFor (dItA rng1P (dArgs [(dCall lenP (dArgs [(dV 16)]))])) (.nm 18) law_b5))
def law_b7 : SF := (dSet 21 (dPd (dBin addP (dV 21) (dLst (dComp (dIt (dV 22)) [27] (.nm 27) (dNot (dIsN (dV 27))) (dBin addP (dV 27) (dC (.int 1))))))))
def law_b8 : SF := (dSeq (dSet 24 (dPd (dLst (dComp (dIt (dCallN 2 _law_choices_s (dArgs [(dCall lenP (dArgs [(dV 2)])), (dV 3)]))) [22] (.nm 22) (dCmp eqP (dCall lenP (dArgs [(dLst (dComp (dIt (dV 6)) [28] (.nm 28) (dNot (dTru (dCallN 2 _law_less_s (dArgs [(dBin idxP (dBin idxP (dV 11) (dBin idxP (dV 22) (dBin idxP (dV 28) (dC (.int 0))))) (dBin idxP (dV 22) (dBin idxP (dV 28) (dC (.int 1))))), (dV 23)])))) (dV 28)))])) (dC (.int 0))) (dV 22)))))
  (dSet 20 (dPd (dIf (dAnd (dIsN (dV 20)) (dCmp gtP (dCall lenP (dArgs [(dV 24)])) (dC (.int 0)))) (dV 23) (dV 20)))))
def law_d : SF := (dSeq (dSet 1 (dFnN 1 _law_state_s (dArgs [(dV 0)])))
  (dSeq (dSet 2 (dPd (dLst (dComp (dItA rng1P (dArgs [(dBin addP (dC (.int 1)) (dFr (dFnM 1 1 _law_take_s (dArgs [(dC (.int 3))]))))])) [25] (.nm 25) dYes (dCallN 1 _law_row_s (dArgs [(dFr (dFnM 0 1 _law_runs_s (dArgs [])))]))))))
  (dSeq (dSet 3 (dPd (dBin addP (dC (.int 1)) (dFr (dFnM 1 1 _law_take_s (dArgs [(dC (.int 4))]))))))
  (dSeq (dSet 4 (dPd (dLst (dComp (dItA rng1P (dArgs [(dV 3)])) [25] (.nm 25) dYes (dTup [(dFr (dFnM 1 1 _law_take_s (dArgs [(dC (.int 7))]))), (dFr (dFnM 1 1 _law_take_s (dArgs [(dC (.int 7))])))])))))
  (dSeq (dSet 5 (dPd (dFr (dFnM 1 1 _law_take_s (dArgs [(dC (.int 7))])))))
  (dSeq (dSet 6 (dPd (dLst (dArgs []))))
  (dSeq (dFor (dItA rng1P (dArgs [(dV 3)])) (.nm 7) law_b2)
  (dSeq (dIfS (dCmp neP (dCallN 2 near_pairs_s (dArgs [(dV 4), (dV 5)])) (dV 6)) (dRet (dPd (dC (.bool false)))) dNx)
  (dSeq (dSet 10 (dPd (dBin addP (dC (.int 1)) (dFr (dFnM 1 1 _law_take_s (dArgs [(dC (.int 8))]))))))
  (dSeq (dSet 11 (dPd (dLst (dComp (dIt (dV 2)) [16] (.nm 16) dYes (dLst (dComp (dIt (dV 2)) [17] (.nm 17) dYes (dCallN 2 _law_stretch_s (dArgs [(dV 16), (dV 17)]))))))))
  (dSeq (dSet 12 (dPd (dLst (dComp (dIt (dV 11)) [22] (.nm 22) dYes (dLst (dComp (dIt (dV 22)) [27] (.nm 27) dYes (dB (dAnd (dNot (dIsN (dV 27))) (dCmp ltP (dV 27) (dV 10))))))))))
  (dSeq (dIfS (dCmp neP (dCallN 2 told_apart_s (dArgs [(dV 2), (dV 10)])) (dV 12)) (dRet (dPd (dC (.bool false)))) dNx)
  (dSeq (dFor (dItA rng1P (dArgs [(dCall lenP (dArgs [(dV 2)]))])) (.nm 7) law_b4)
  (dSeq (dSet 14 (dPd (dLst (dComp (dIt (dV 2)) [26] (.nm 26) dYes (dFr (dFnM 1 1 _law_take_s (dArgs [(dC (.int 5))])))))))
  (dSeq (dSet 15 (dPd (dLst (dComp (dIt (dCallN 2 _law_choices_s (dArgs [(dCall lenP (dArgs [(dV 2)])), (dV 3)]))) [22] (.nm 22) (dCmp eqP (dCall lenP (dArgs [(dLst (dComp (dIt (dV 6)) [28] (.nm 28) (dNot (dTru (dBin idxP (dBin idxP (dV 12) (dBin idxP (dV 22) (dBin idxP (dV 28) (dC (.int 0))))) (dBin idxP (dV 22) (dBin idxP (dV 28) (dC (.int 1))))))) (dV 28)))])) (dC (.int 0))) (dV 22)))))
  (dSeq (dSet 13 (dPd (dCallN 5 choice_of_s (dArgs [(dV 3), (dV 6), (dV 12), (dV 14), (dC (.int 9999))]))))
  (dSeq (dIfS (dOr (dCmp neP (dBin idxP (dV 13) (dC (.int 0))) (dIf (dCmp gtP (dCall lenP (dArgs [(dV 15)])) (dC (.int 0))) (dC (.str "given")) (dC (.str "never")))) (dNot (dIsN (dCallN 5 choice_fault_s (dArgs [(dV 3), (dV 6), (dV 12), (dV 14), (dV 13)]))))) (dRet (dPd (dC (.bool false)))) dNx)
  (dSeq (dIfS (dCmp eqP (dBin idxP (dV 13) (dC (.int 0))) (dC (.str "given"))) (dSeq (dIfS (dOr (dCmp neP (dBin idxP (dV 13) (dC (.int 2))) (dCall minP (dArgs [(dLst (dComp (dIt (dV 15)) [22] (.nm 22) dYes (dCall sumP (dArgs [(dLst (dComp (dIt (dV 22)) [16] (.nm 16) dYes (dBin idxP (dV 14) (dV 16))))]))))]))) (dCmp ninP (dBin idxP (dV 13) (dC (.int 1))) (dV 15))) (dRet (dPd (dC (.bool false)))) dNx)
  (dFor (dIt (dV 6)) (.tcons (.nm 7) (.tcons (.nm 8) .tnil)) law_b6)) dNx)
  (dSeq (dSet 20 (dPd (dC .none)))
  (dSeq (dSet 21 (dPd (dLst (dArgs [(dC (.int 0))]))))
  (dSeq (dFor (dIt (dV 11)) (.nm 22) law_b7)
  (dSeq (dFor (dIt (dLst (dCallL ssetP (dArgs [(dV 21)])))) (.nm 23) law_b8)
  (dRet (dPd (dB (dCmp eqP (dCallN 4 least_time_s (dArgs [(dV 3), (dV 6), (dV 2), (dC (.int 9999))])) (dV 20)))))))))))))))))))))))))))
def law_s : List P → Option P := runQ 1 30 law_d
end
end HW

namespace HW
open PySem PySem.Spec PyProof.Rows L2

/-! ### at -/
abbrev st_at : Stmt := PySem.Challenge.pw_hornwright_k51_rhythms_given_and_heard.main.body.getD 1 (.Pass ⟨0, 0, 0, 0⟩)
def N_at : List Str := ["rhythm", "tick"]
theorem sc_at : FnScope N_at ["rhythm", "tick"] (defScope st_at) := ⟨rfl, rfl, rfl, by decide +kernel, rfl, by decide +kernel, by decide +kernel⟩
theorem ok_at {P : Program} {w : World} {K : PySem.W.Frag} {mg : Str → Option Value} {base : Heap} {cm : Str → Addr → Prop} {fa : Addr} {fd : FuncData} (B : Bs mg) (G : L2.Fun K "at" "at" st_at fa fd)  :
    FnOk P w K mg base CX0 1 fa fd ["rhythm", "tick"] (spQ K cm 2 at_s) :=
  fn_Q 2 G sc_at rfl fun cdv A outer s H E hr =>
  (ss_one (s_ret (d_ofP (x_ix (xv 0) (x_mod (xv 1) (x_len B.len (a_cons (xv 0) a_nil)))))))
/-! ### least_turn -/
abbrev st_least_turn : Stmt := PySem.Challenge.pw_hornwright_k51_rhythms_given_and_heard.main.body.getD 2 (.Pass ⟨0, 0, 0, 0⟩)
def N_least_turn : List Str := ["rhythm", "size"]
theorem sc_least_turn : FnScope N_least_turn ["rhythm"] (defScope st_least_turn) := ⟨rfl, rfl, rfl, by decide +kernel, rfl, by decide +kernel, by decide +kernel⟩
theorem ok_least_turn {P : Program} {w : World} {K : PySem.W.Frag} {mg : Str → Option Value} {base : Heap} {cm : Str → Addr → Prop} {fa : Addr} {fd : FuncData} (B : Bs mg) (G : L2.Fun K "least_turn" "least_turn" st_least_turn fa fd)  :
    FnOk P w K mg base CX0 1 fa fd ["rhythm"] (spQ K cm 1 least_turn_s) :=
  fn_Q 1 G sc_least_turn rfl fun cdv A outer s H E hr =>
  (ss_cons (s_for rfl (i_range2 B.range (a_cons x_int (a_cons (x_add (x_len B.len (a_cons (xv 0) a_nil)) x_int) a_nil))) (g_nm 1 sc_least_turn.nd) (ss_one (s_if ((w_and (t_eq (hu_room hr) (x_mod (x_len B.len (a_cons (xv 0) a_nil)) (xv 1)) x_int) (w_one_and (t_eq (hu_room hr) (x_mul (x_slA (xv 0) o_no (o_so (xv 1))) (x_fdiv (x_len B.len (a_cons (xv 0) a_nil)) (xv 1))) (xv 0))))).pt (ss_one (s_ret (d_ofP (x_slA (xv 0) o_no (o_so (xv 1)))))) ss_nil)))
  (ss_one (s_ret (d_ofP (x_ofL (l_list B.list (a_cons (xv 0) a_nil)))))))
/-! ### turned -/
abbrev st_turned : Stmt := PySem.Challenge.pw_hornwright_k51_rhythms_given_and_heard.main.body.getD 3 (.Pass ⟨0, 0, 0, 0⟩)
def N_turned : List Str := ["rhythm", "begin", "place"]
theorem sc_turned : FnScope N_turned ["rhythm", "begin"] (defScope st_turned) := ⟨rfl, rfl, rfl, by decide +kernel, rfl, by decide +kernel, by decide +kernel⟩
theorem ok_turned {P : Program} {w : World} {K : PySem.W.Frag} {mg : Str → Option Value} {base : Heap} {cm : Str → Addr → Prop} {fa : Addr} {fd : FuncData} (B : Bs mg) (G : L2.Fun K "turned" "turned" st_turned fa fd)  :
    FnOk P w K mg base CX0 1 fa fd ["rhythm", "begin"] (spQ K cm 2 turned_s) :=
  fn_Q 2 G sc_turned rfl fun cdv A outer s H E hr =>
  (ss_cons (s_set 2 (d_ofP (x_mod (xv 1) (x_len B.len (a_cons (xv 0) a_nil)))) sc_turned.nd)
  (ss_one (s_ret (d_ofP (x_add (x_slA (xv 0) (o_so (xv 2)) o_no) (x_slA (xv 0) o_no (o_so (xv 2))))))))
/-! ### same_but_for_begin -/
abbrev st_same_but_for_begin : Stmt := PySem.Challenge.pw_hornwright_k51_rhythms_given_and_heard.main.body.getD 4 (.Pass ⟨0, 0, 0, 0⟩)
def N_same_but_for_begin : List Str := ["one", "other", "left", "right", "begin"]
theorem sc_same_but_for_begin : FnScope N_same_but_for_begin ["one", "other"] (defScope st_same_but_for_begin) := ⟨rfl, rfl, rfl, by decide +kernel, rfl, by decide +kernel, by decide +kernel⟩
theorem ok_same_but_for_begin {P : Program} {w : World} {K : PySem.W.Frag} {mg : Str → Option Value} {base : Heap} {cm : Str → Addr → Prop} {fa : Addr} {fd : FuncData} (B : Bs mg) (G : L2.Fun K "same_but_for_begin" "same_but_for_begin" st_same_but_for_begin fa fd) (h_least_turn : HasFn P w K mg base 1 "least_turn" ["rhythm"] (spQ K cm 1 least_turn_s)) (h_turned : HasFn P w K mg base 1 "turned" ["rhythm", "begin"] (spQ K cm 2 turned_s)) :
    FnOk P w K mg base CX0 2 fa fd ["one", "other"] (spQ K cm 2 same_but_for_begin_s) :=
  fn_Q 2 G sc_same_but_for_begin rfl fun cdv A outer s H E hr =>
  (ss_cons (s_par 2 3 rfl sc_same_but_for_begin.nd (a_cons (x_callQ h_least_turn (hr.mono (by decide)) (a_cons (xv 0) a_nil)) (a_cons (x_callQ h_least_turn (hr.mono (by decide)) (a_cons (xv 1) a_nil)) a_nil)))
  (ss_cons (s_if (t_ne (hu_room hr) (x_len B.len (a_cons (xv 2) a_nil)) (x_len B.len (a_cons (xv 3) a_nil))) (ss_one (s_ret (d_ofP x_non))) ss_nil)
  (ss_cons (s_for rfl (i_range1 B.range (a_cons (x_len B.len (a_cons (xv 2) a_nil)) a_nil)) (g_nm 4 sc_same_but_for_begin.nd) (ss_one (s_if (t_eq (hu_room hr) (x_callQ h_turned (hr.mono (by decide)) (a_cons (xv 2) (a_cons (xv 4) a_nil))) (xv 3)) (ss_one (s_ret (d_ofP (xv 4)))) ss_nil)))
  (ss_one (s_ret (d_ofP x_non))))))
/-! ### stretch_from -/
abbrev st_stretch_from : Stmt := PySem.Challenge.pw_hornwright_k51_rhythms_given_and_heard.main.body.getD 5 (.Pass ⟨0, 0, 0, 0⟩)
def N_stretch_from : List Str := ["one", "other", "i", "j", "most", "length"]
theorem sc_stretch_from : FnScope N_stretch_from ["one", "other", "i", "j", "most"] (defScope st_stretch_from) := ⟨rfl, rfl, rfl, by decide +kernel, rfl, by decide +kernel, by decide +kernel⟩
theorem ok_stretch_from {P : Program} {w : World} {K : PySem.W.Frag} {mg : Str → Option Value} {base : Heap} {cm : Str → Addr → Prop} {fa : Addr} {fd : FuncData} (B : Bs mg) (G : L2.Fun K "stretch_from" "stretch_from" st_stretch_from fa fd) (h_at : HasFn P w K mg base 1 "at" ["rhythm", "tick"] (spQ K cm 2 at_s)) :
    FnOk P w K mg base CX0 2 fa fd ["one", "other", "i", "j", "most"] (spQ K cm 5 stretch_from_s) :=
  fn_Q 5 G sc_stretch_from rfl fun cdv A outer s H E hr =>
  (ss_cons (s_set 5 (d_ofP x_int) sc_stretch_from.nd)
  (ss_cons (s_while ((w_and (t_lt (hu_room hr) (xv 5) (xv 4)) (w_one_and (t_eq (hu_room hr) (x_callQ h_at (hr.mono (by decide)) (a_cons (xv 0) (a_cons (x_add (xv 2) (xv 5)) a_nil))) (x_callQ h_at (hr.mono (by decide)) (a_cons (xv 1) (a_cons (x_add (xv 3) (xv 5)) a_nil))))))).pt (ss_one (s_set 5 (d_ofP (x_add (xv 5) x_int)) sc_stretch_from.nd)))
  (ss_one (s_ret (d_ofP (xv 5))))))
/-! ### bound_for -/
abbrev st_bound_for : Stmt := PySem.Challenge.pw_hornwright_k51_rhythms_given_and_heard.main.body.getD 6 (.Pass ⟨0, 0, 0, 0⟩)
def N_bound_for : List Str := ["one", "other"]
theorem sc_bound_for : FnScope N_bound_for ["one", "other"] (defScope st_bound_for) := ⟨rfl, rfl, rfl, by decide +kernel, rfl, by decide +kernel, by decide +kernel⟩
theorem ok_bound_for {P : Program} {w : World} {K : PySem.W.Frag} {mg : Str → Option Value} {base : Heap} {cm : Str → Addr → Prop} {fa : Addr} {fd : FuncData} (B : Bs mg) (G : L2.Fun K "bound_for" "bound_for" st_bound_for fa fd) (h_least_turn : HasFn P w K mg base 1 "least_turn" ["rhythm"] (spQ K cm 1 least_turn_s)) :
    FnOk P w K mg base CX0 2 fa fd ["one", "other"] (spQ K cm 2 bound_for_s) :=
  fn_Q 2 G sc_bound_for rfl fun cdv A outer s H E hr =>
  (ss_one (s_ret (d_ofP (x_add (x_len B.len (a_cons (x_callQ h_least_turn (hr.mono (by decide)) (a_cons (xv 0) a_nil)) a_nil)) (x_len B.len (a_cons (x_callQ h_least_turn (hr.mono (by decide)) (a_cons (xv 1) a_nil)) a_nil))))))
/-! ### common -/
abbrev st_common : Stmt := PySem.Challenge.pw_hornwright_k51_rhythms_given_and_heard.main.body.getD 7 (.Pass ⟨0, 0, 0, 0⟩)
def N_common : List Str := ["one", "other", "begin", "best", "most", "i", "j", "length"]
theorem sc_common : FnScope N_common ["one", "other"] (defScope st_common) := ⟨rfl, rfl, rfl, by decide +kernel, rfl, by decide +kernel, by decide +kernel⟩
theorem ok_common {P : Program} {w : World} {K : PySem.W.Frag} {mg : Str → Option Value} {base : Heap} {cm : Str → Addr → Prop} {fa : Addr} {fd : FuncData} (B : Bs mg) (G : L2.Fun K "common" "common" st_common fa fd) (h_same_but_for_begin : HasFn P w K mg base 2 "same_but_for_begin" ["one", "other"] (spQ K cm 2 same_but_for_begin_s)) (h_bound_for : HasFn P w K mg base 2 "bound_for" ["one", "other"] (spQ K cm 2 bound_for_s)) (h_least_turn : HasFn P w K mg base 1 "least_turn" ["rhythm"] (spQ K cm 1 least_turn_s)) (h_stretch_from : HasFn P w K mg base 2 "stretch_from" ["one", "other", "i", "j", "most"] (spQ K cm 5 stretch_from_s)) :
    FnOk P w K mg base CX0 3 fa fd ["one", "other"] (spQ K cm 2 common_s) :=
  fn_Q 2 G sc_common rfl fun cdv A outer s H E hr =>
  (ss_cons (s_set 2 (d_ofP (x_callQ h_same_but_for_begin (hr.mono (by decide)) (a_cons (xv 0) (a_cons (xv 1) a_nil)))) sc_common.nd)
  (ss_cons (s_if (t_notN (xv 2)) (ss_one (s_ret (d_ofP (x_tup (a_cons x_str (a_cons (xv 2) a_nil)))))) ss_nil)
  (ss_cons (s_set 3 (d_ofP (x_tup (a_cons x_int (a_cons x_int (a_cons x_int a_nil))))) sc_common.nd)
  (ss_cons (s_set 4 (d_ofP (x_callQ h_bound_for (hr.mono (by decide)) (a_cons (xv 0) (a_cons (xv 1) a_nil)))) sc_common.nd)
  (ss_cons (s_for rfl (i_range1 B.range (a_cons (x_len B.len (a_cons (x_callQ h_least_turn (hr.mono (by decide)) (a_cons (xv 0) a_nil)) a_nil)) a_nil)) (g_nm 5 sc_common.nd) (ss_one (s_for rfl (i_range1 B.range (a_cons (x_len B.len (a_cons (x_callQ h_least_turn (hr.mono (by decide)) (a_cons (xv 1) a_nil)) a_nil)) a_nil)) (g_nm 6 sc_common.nd) (ss_cons (s_set 7 (d_ofP (x_callQ h_stretch_from (hr.mono (by decide)) (a_cons (xv 0) (a_cons (xv 1) (a_cons (xv 5) (a_cons (xv 6) (a_cons (xv 4) a_nil))))))) sc_common.nd)
  (ss_one (s_if (t_gt (hu_room hr) (xv 7) (x_ix (xv 3) x_int)) (ss_one (s_set 3 (d_ofP (x_tup (a_cons (xv 7) (a_cons (xv 5) (a_cons (xv 6) a_nil))))) sc_common.nd)) ss_nil))))))
  (ss_one (s_ret (d_ofP (x_add (x_tup (a_cons x_str a_nil)) (xv 3))))))))))
/-! ### told_apart -/
abbrev st_told_apart : Stmt := PySem.Challenge.pw_hornwright_k51_rhythms_given_and_heard.main.body.getD 12 (.Pass ⟨0, 0, 0, 0⟩)
def N_told_apart : List Str := ["rhythms", "time", "found", "one", "row", "other", "told"]
theorem sc_told_apart : FnScope N_told_apart ["rhythms", "time"] (defScope st_told_apart) := ⟨rfl, rfl, rfl, by decide +kernel, rfl, by decide +kernel, by decide +kernel⟩
theorem ok_told_apart {P : Program} {w : World} {K : PySem.W.Frag} {mg : Str → Option Value} {base : Heap} {cm : Str → Addr → Prop} {fa : Addr} {fd : FuncData} (B : Bs mg) (G : L2.Fun K "told_apart" "told_apart" st_told_apart fa fd) (h_common : HasFn P w K mg base 3 "common" ["one", "other"] (spQ K cm 2 common_s)) :
    FnOk P w K mg base CX0 4 fa fd ["rhythms", "time"] (spQ K cm 2 told_apart_s) :=
  fn_Q 2 G sc_told_apart rfl fun cdv A outer s H E hr =>
  (ss_cons (s_set 2 (d_ofL (l_lst a_nil)) sc_told_apart.nd)
  (ss_cons (s_for rfl (i_val (xv 0)) (g_nm 3 sc_told_apart.nd) (ss_cons (s_set 4 (d_ofL (l_lst a_nil)) sc_told_apart.nd)
  (ss_cons (s_for rfl (i_val (xv 0)) (g_nm 5 sc_told_apart.nd) (ss_cons (s_set 6 (d_ofP (x_callQ h_common (hr.mono (by decide)) (a_cons (xv 3) (a_cons (xv 5) a_nil)))) sc_told_apart.nd)
  (ss_one (s_app 4 (d_ofP (xb_and (x_eq (hu_room hr) (x_ix (xv 6) x_int) x_str) (xb_one (x_lt (hu_room hr) (x_ix (xv 6) x_int) (xv 1)))))))))
  (ss_one (s_fz 4 (s_app 2 (d_ofP (xv 4))))))))
  (ss_one (s_fz 2 (s_ret (d_ofP (xv 2)))))))
/-! ### clash_with -/
abbrev st_clash_with : Stmt := PySem.Challenge.pw_hornwright_k51_rhythms_given_and_heard.main.body.getD 13 (.Pass ⟨0, 0, 0, 0⟩)
def N_clash_with : List Str := ["near", "good", "choice", "mark", "rhythm", "one"]
theorem sc_clash_with : FnScope N_clash_with ["near", "good", "choice", "mark", "rhythm"] (defScope st_clash_with) := ⟨rfl, rfl, rfl, by decide +kernel, rfl, by decide +kernel, by decide +kernel⟩
theorem ok_clash_with {P : Program} {w : World} {K : PySem.W.Frag} {mg : Str → Option Value} {base : Heap} {cm : Str → Addr → Prop} {fa : Addr} {fd : FuncData} (B : Bs mg) (G : L2.Fun K "clash_with" "clash_with" st_clash_with fa fd)  :
    FnOk P w K mg base CX0 1 fa fd ["near", "good", "choice", "mark", "rhythm"] (spQ K cm 5 clash_with_s) :=
  fn_Q 5 G sc_clash_with rfl fun cdv A outer s H E hr =>
  (ss_cons (s_for rfl (i_range1 B.range (a_cons (xv 3) a_nil)) (g_nm 5 sc_clash_with.nd) (ss_one (s_if ((w_and ((w_or (t_in (hu_room hr) (x_tup (a_cons (xv 5) (a_cons (xv 3) a_nil))) (xv 0)) (w_one_or (t_in (hu_room hr) (x_tup (a_cons (xv 3) (a_cons (xv 5) a_nil))) (xv 0))))).pt (w_one_and (t_not (t_tru (x_ix (x_ix (xv 1) (x_ix (xv 2) (xv 5))) (xv 4))))))).pt (ss_one (s_ret (d_ofP (xv 5)))) ss_nil)))
  (ss_one (s_ret (d_ofP x_non))))
/-! ### Giving_init -/
abbrev st_Giving_init : Stmt := (clsBody (PySem.Challenge.pw_hornwright_k51_rhythms_given_and_heard.main.body.getD 14 (.Pass ⟨0, 0, 0, 0⟩))).getD 0 (.Pass ⟨0, 0, 0, 0⟩)
def N_Giving_init : List Str := ["self", "count", "near", "good", "costs", "limit"]
theorem sc_Giving_init : FnScope N_Giving_init ["self", "count", "near", "good", "costs", "limit"] (defScope st_Giving_init) := ⟨rfl, rfl, rfl, by decide +kernel, rfl, by decide +kernel, by decide +kernel⟩
theorem ok_Giving_init {P : Program} {w : World} {K : PySem.W.Frag} {mg : Str → Option Value} {base : Heap} {cm : Str → Addr → Prop} {fa : Addr} {fd : FuncData} (B : Bs mg) (G : L2.Fun K "__init__" "Giving.__init__" st_Giving_init fa fd) (hf_count : NoA K cm "count") (hf_near : NoA K cm "near") (hf_good : NoA K cm "good") (hf_costs : NoA K cm "costs") (hf_limit : NoA K cm "limit") (hf_places : NoA K cm "places") (hf_best : NoA K cm "best") :
    FnOk P w K mg base CX0 1 fa fd ["self", "count", "near", "good", "costs", "limit"] (spM K cm 5 Giving_init_s) :=
  fn_M (n := 5) G sc_Giving_init rfl fun cdv A outer s H E hr =>
  (ss_cons (s_fld 0 (xv 1) hf_count)
  (ss_cons (s_fld 0 (xv 2) hf_near)
  (ss_cons (s_fld 0 (xv 3) hf_good)
  (ss_cons (s_fld 0 (xv 4) hf_costs)
  (ss_cons (s_fld 0 (xv 5) hf_limit)
  (ss_cons (s_fld 0 x_int hf_places)
  (ss_one (s_fld 0 x_non hf_best))))))))
/-! ### Giving_step -/
abbrev st_Giving_step : Stmt := (clsBody (PySem.Challenge.pw_hornwright_k51_rhythms_given_and_heard.main.body.getD 14 (.Pass ⟨0, 0, 0, 0⟩))).getD 1 (.Pass ⟨0, 0, 0, 0⟩)
def N_Giving_step : List Str := ["self"]
theorem sc_Giving_step : FnScope N_Giving_step ["self"] (defScope st_Giving_step) := ⟨rfl, rfl, rfl, by decide +kernel, rfl, by decide +kernel, by decide +kernel⟩
theorem ok_Giving_step {P : Program} {w : World} {K : PySem.W.Frag} {mg : Str → Option Value} {base : Heap} {cm : Str → Addr → Prop} {fa : Addr} {fd : FuncData} (B : Bs mg) (G : L2.Fun K "step" "Giving.step" st_Giving_step fa fd) (hf_places : NoA K cm "places") (hf_limit : NoA K cm "limit") :
    FnOk P w K mg base CX0 1 fa fd ["self"] (spM K cm 0 Giving_step_s) :=
  fn_M (n := 0) G sc_Giving_step rfl fun cdv A outer s H E hr =>
  (ss_cons (s_fld 0 (x_add (x_fld 0 hf_places) x_int) hf_places)
  (ss_one (s_if (t_gt (hu_room hr) (x_fld 0 hf_places) (x_fld 0 hf_limit)) (ss_one s_never) ss_nil)))
/-! ### Giving_go -/
abbrev st_Giving_go : Stmt := (clsBody (PySem.Challenge.pw_hornwright_k51_rhythms_given_and_heard.main.body.getD 14 (.Pass ⟨0, 0, 0, 0⟩))).getD 2 (.Pass ⟨0, 0, 0, 0⟩)
def N_Giving_go : List Str := ["self", "choice", "cost", "rhythm"]
theorem sc_Giving_go : FnScope N_Giving_go ["self", "choice", "cost"] (defScope st_Giving_go) := ⟨rfl, rfl, rfl, by decide +kernel, rfl, by decide +kernel, by decide +kernel⟩
theorem ok_Giving_go {P : Program} {w : World} {K : PySem.W.Frag} {mg : Str → Option Value} {base : Heap} {cm : Str → Addr → Prop} {fa : Addr} {fd : FuncData} (B : Bs mg) (G : L2.Fun K "go" "Giving.go" st_Giving_go fa fd) {C : Addr} (hC : ∀ c C', cm c C' → C' = C) (cl : Cls K C) (hme : Meth K C "go" fa) (hbi : Binds K fd ["self", "choice", "cost"] []) (hf_best : NoA K cm "best") (hf_count : NoA K cm "count") (hf_costs : NoA K cm "costs") (hf_good : NoA K cm "good") (hf_near : NoA K cm "near") (h_clash_with : HasFn P w K mg base 1 "clash_with" ["near", "good", "choice", "mark", "rhythm"] (spQ K cm 5 clash_with_s)) (h_Giving_step : HasMeth P w K mg base cm 1 "step" ["self"] (spM K cm 0 Giving_step_s)) : ∀ n : Nat,
    FnOk P w K mg base CX0 (1 + n) fa fd ["self", "choice", "cost"] (spM K cm 2 (Giving_go_s n))
  | 0 => ⟨fun vs H Q E h => h.1, fun A outer s H args us vs Q E hr he hb hv hs => by
    obtain ⟨_, u, us, W, F, ps, d0, d1, d2, _, _, _, e, _⟩ := hs
    cases e⟩
  | n + 1 => fn_M (n := 2) G sc_Giving_go rfl fun cdv A outer s H E hr =>
    have h_Giving_go : HasMeth P w K mg base cm (1 + n) "go" ["self", "choice", "cost"] (spM K cm 2 (Giving_go_s n)) := ⟨C, fa, fd, hC, cl, hme, ok_Giving_go B G hC cl hme hbi hf_best hf_count hf_costs hf_good hf_near h_clash_with h_Giving_step n, hbi⟩
  (ss_cons (s_do (x_meth0 0 h_Giving_step (hr.mono (Nat.le_trans (m := 1) (by decide) (Nat.le_add_right _ _)))))
  (ss_cons (s_if ((w_and (t_notN (x_fld 0 hf_best)) (w_one_and (t_ge (hu_room hr) (xv 2) (x_ix (x_fld 0 hf_best) x_int))))).pt (ss_one s_retN) ss_nil)
  (ss_cons (s_if (t_eq (hu_room hr) (x_len B.len (a_cons (xv 1) a_nil)) (x_fld 0 hf_count)) (ss_cons (s_fld 0 (x_tup (a_cons (xv 2) (a_cons (xv 1) a_nil))) hf_best)
  (ss_one s_retN)) ss_nil)
  (ss_one (s_for rfl (i_range1 B.range (a_cons (x_len B.len (a_cons (x_fld 0 hf_costs) a_nil)) a_nil)) (g_nm 3 sc_Giving_go.nd) (ss_one (s_if (t_isN (x_callQ h_clash_with (hr.mono (Nat.le_trans (m := 1) (by decide) (Nat.le_add_right _ _))) (a_cons (x_fld 0 hf_near) (a_cons (x_fld 0 hf_good) (a_cons (xv 1) (a_cons (x_len B.len (a_cons (xv 1) a_nil)) (a_cons (xv 3) a_nil))))))) (ss_one (s_do (x_meth 0 h_Giving_go hr (a_cons (x_add (xv 1) (x_ofL (l_lst (a_cons (xv 3) a_nil)))) (a_cons (x_add (xv 2) (x_ix (x_fld 0 hf_costs) (xv 3))) a_nil))))) ss_nil)))))))
/-! ### Giving_tree -/
abbrev st_Giving_tree : Stmt := (clsBody (PySem.Challenge.pw_hornwright_k51_rhythms_given_and_heard.main.body.getD 14 (.Pass ⟨0, 0, 0, 0⟩))).getD 3 (.Pass ⟨0, 0, 0, 0⟩)
def N_Giving_tree : List Str := ["self", "choice", "cost", "bound", "trees", "rhythm", "one"]
theorem sc_Giving_tree : FnScope N_Giving_tree ["self", "choice", "cost", "bound"] (defScope st_Giving_tree) := ⟨rfl, rfl, rfl, by decide +kernel, rfl, by decide +kernel, by decide +kernel⟩
theorem ok_Giving_tree {P : Program} {w : World} {K : PySem.W.Frag} {mg : Str → Option Value} {base : Heap} {cm : Str → Addr → Prop} {fa : Addr} {fd : FuncData} (B : Bs mg) (G : L2.Fun K "tree" "Giving.tree" st_Giving_tree fa fd) {C : Addr} (hC : ∀ c C', cm c C' → C' = C) (cl : Cls K C) (hme : Meth K C "tree" fa) (hbi : Binds K fd ["self", "choice", "cost", "bound"] []) (hf_costs : NoA K cm "costs") (hf_good : NoA K cm "good") (hf_near : NoA K cm "near") (h_clash_with : HasFn P w K mg base 1 "clash_with" ["near", "good", "choice", "mark", "rhythm"] (spQ K cm 5 clash_with_s)) : ∀ n : Nat,
    FnOk P w K mg base CX0 (1 + n) fa fd ["self", "choice", "cost", "bound"] (spM K cm 3 (Giving_tree_s n))
  | 0 => ⟨fun vs H Q E h => h.1, fun A outer s H args us vs Q E hr he hb hv hs => by
    obtain ⟨_, u, us, W, F, ps, d0, d1, d2, _, _, _, e, _⟩ := hs
    cases e⟩
  | n + 1 => fn_M (n := 3) G sc_Giving_tree rfl fun cdv A outer s H E hr =>
    have h_Giving_tree : HasMeth P w K mg base cm (1 + n) "tree" ["self", "choice", "cost", "bound"] (spM K cm 3 (Giving_tree_s n)) := ⟨C, fa, fd, hC, cl, hme, ok_Giving_tree B G hC cl hme hbi hf_costs hf_good hf_near h_clash_with n, hbi⟩
  (ss_cons (s_if ((w_and (t_notN (xv 3)) (w_one_and (t_ge (hu_room hr) (xv 2) (xv 3))))).pt (ss_one (s_ret (d_ofP (x_tup (a_cons x_str a_nil))))) ss_nil)
  (ss_cons (s_set 4 (d_ofL (l_lst a_nil)) sc_Giving_tree.nd)
  (ss_cons (s_for rfl (i_range1 B.range (a_cons (x_len B.len (a_cons (x_fld 0 hf_costs) a_nil)) a_nil)) (g_nm 5 sc_Giving_tree.nd) (ss_cons (s_set 6 (d_ofP (x_callQ h_clash_with (hr.mono (Nat.le_trans (m := 1) (by decide) (Nat.le_add_right _ _))) (a_cons (x_fld 0 hf_near) (a_cons (x_fld 0 hf_good) (a_cons (xv 1) (a_cons (x_len B.len (a_cons (xv 1) a_nil)) (a_cons (xv 5) a_nil))))))) sc_Giving_tree.nd)
  (ss_one (s_if (t_notN (xv 6)) (ss_one (s_app 4 (d_ofP (x_tup (a_cons x_str (a_cons (xv 6) a_nil)))))) (ss_one (s_app 4 (d_ofP (x_fr (x_meth 0 h_Giving_tree hr (a_cons (x_add (xv 1) (x_ofL (l_lst (a_cons (xv 5) a_nil)))) (a_cons (x_add (xv 2) (x_ix (x_fld 0 hf_costs) (xv 5))) (a_cons (xv 3) a_nil))))))))))))
  (ss_one (s_fz 4 (s_ret (d_ofP (x_tup (a_cons x_str (a_cons (xv 4) a_nil))))))))))
/-! ### Giving_path -/
abbrev st_Giving_path : Stmt := (clsBody (PySem.Challenge.pw_hornwright_k51_rhythms_given_and_heard.main.body.getD 14 (.Pass ⟨0, 0, 0, 0⟩))).getD 4 (.Pass ⟨0, 0, 0, 0⟩)
def N_Giving_path : List Str := ["self", "choice", "cost", "bound", "tree", "rhythm", "below", "one", "near", "path"]
theorem sc_Giving_path : FnScope N_Giving_path ["self", "choice", "cost", "bound", "tree"] (defScope st_Giving_path) := ⟨rfl, rfl, rfl, by decide +kernel, rfl, by decide +kernel, by decide +kernel⟩
theorem ok_Giving_path {P : Program} {w : World} {K : PySem.W.Frag} {mg : Str → Option Value} {base : Heap} {cm : Str → Addr → Prop} {fa : Addr} {fd : FuncData} (B : Bs mg) (G : L2.Fun K "path" "Giving.path" st_Giving_path fa fd) {C : Addr} (hC : ∀ c C', cm c C' → C' = C) (cl : Cls K C) (hme : Meth K C "path" fa) (hbi : Binds K fd ["self", "choice", "cost", "bound", "tree"] []) (hf_costs : NoA K cm "costs") (hf_count : NoA K cm "count") (hf_near : NoA K cm "near") (hf_good : NoA K cm "good") : ∀ n : Nat,
    FnOk P w K mg base CX0 (0 + n) fa fd ["self", "choice", "cost", "bound", "tree"] (spM K cm 4 (Giving_path_s n))
  | 0 => ⟨fun vs H Q E h => h.1, fun A outer s H args us vs Q E hr he hb hv hs => by
    obtain ⟨_, u, us, W, F, ps, d0, d1, d2, _, _, _, e, _⟩ := hs
    cases e⟩
  | n + 1 => fn_M (n := 4) G sc_Giving_path rfl fun cdv A outer s H E hr =>
    have h_Giving_path : HasMeth P w K mg base cm (0 + n) "path" ["self", "choice", "cost", "bound", "tree"] (spM K cm 4 (Giving_path_s n)) := ⟨C, fa, fd, hC, cl, hme, ok_Giving_path B G hC cl hme hbi hf_costs hf_count hf_near hf_good n, hbi⟩
  (ss_cons (s_if (t_eq (hu_room hr) (x_ix (xv 4) x_int) x_str) (ss_one (s_ret (d_ofP (x_if ((w_and (t_notN (xv 3)) (w_one_and (t_ge (hu_room hr) (xv 2) (xv 3))))).pt x_non (x_ofL (l_lst a_nil)))))) ss_nil)
  (ss_cons (s_if ((w_or (t_ne (hu_room hr) (x_ix (xv 4) x_int) x_str) (w_or (t_eq (hu_room hr) (x_len B.len (a_cons (xv 1) a_nil)) (x_fld 0 hf_count)) (w_one_or (t_ne (hu_room hr) (x_len B.len (a_cons (x_ix (xv 4) x_int) a_nil)) (x_len B.len (a_cons (x_fld 0 hf_costs) a_nil))))))).pt (ss_one (s_ret (d_ofP (x_ofL (l_lst a_nil))))) ss_nil)
  (ss_cons (s_for rfl (i_enumA B.enumerate (a_cons (x_ix (xv 4) x_int) a_nil)) (g_tup rfl (gs_cons (g_nm 5 sc_Giving_path.nd) (gs_cons (g_nm 6 sc_Giving_path.nd) gs_nil))) (ss_one (s_if (t_eq (hu_room hr) (x_ix (xv 6) x_int) x_str) (ss_cons (s_set 7 (d_ofP (x_ix (xv 6) x_int)) sc_Giving_path.nd)
  (ss_cons (s_set 8 (d_ofP (xb_or (x_in (hu_room hr) (x_tup (a_cons (xv 7) (a_cons (x_len B.len (a_cons (xv 1) a_nil)) a_nil))) (x_fld 0 hf_near)) (xb_one (x_in (hu_room hr) (x_tup (a_cons (x_len B.len (a_cons (xv 1) a_nil)) (a_cons (xv 7) a_nil))) (x_fld 0 hf_near))))) sc_Giving_path.nd)
  (ss_one (s_if ((w_or (t_not (t_chn (op_leD (hu_room hr)) (op_ltD (hu_room hr)) cop_dat cop_dat x_int (xv 7) (x_len B.len (a_cons (xv 1) a_nil)))) (w_or (t_not (t_tru (xv 8))) (w_one_or (t_tru (x_ix (x_ix (x_fld 0 hf_good) (x_ix (xv 1) (xv 7))) (xv 5))))))).pt (ss_one (s_ret (d_ofP (x_ofL (l_lst (a_cons (xv 5) a_nil)))))) ss_nil)))) (ss_cons (s_set 9 (d_ofP (x_fr (x_meth 0 h_Giving_path hr (a_cons (x_add (xv 1) (x_ofL (l_lst (a_cons (xv 5) a_nil)))) (a_cons (x_add (xv 2) (x_ix (x_fld 0 hf_costs) (xv 5))) (a_cons (xv 3) (a_cons (xv 6) a_nil))))))) sc_Giving_path.nd)
  (ss_one (s_if (t_notN (xv 9)) (ss_one (s_ret (d_ofP (x_add (x_ofL (l_lst (a_cons (xv 5) a_nil))) (xv 9))))) ss_nil))))))
  (ss_one (s_ret (d_ofP x_non))))))
/-! ### choice_of -/
abbrev st_choice_of : Stmt := PySem.Challenge.pw_hornwright_k51_rhythms_given_and_heard.main.body.getD 15 (.Pass ⟨0, 0, 0, 0⟩)
def N_choice_of : List Str := ["count", "near", "good", "costs", "limit", "work", "cost", "choice"]
theorem sc_choice_of : FnScope N_choice_of ["count", "near", "good", "costs", "limit"] (defScope st_choice_of) := ⟨rfl, rfl, rfl, by decide +kernel, rfl, by decide +kernel, by decide +kernel⟩
theorem ok_choice_of {P : Program} {w : World} {K : PySem.W.Frag} {mg : Str → Option Value} {base : Heap} {cm : Str → Addr → Prop} {fa : Addr} {fd : FuncData} (B : Bs mg) (G : L2.Fun K "choice_of" "choice_of" st_choice_of fa fd) (hf_best : NoA K cm "best") (h_Giving_go : HasMeth P w K mg base cm 7 "go" ["self", "choice", "cost"] (spM K cm 2 (Giving_go_s 6))) (h_Giving_tree : HasMeth P w K mg base cm 7 "tree" ["self", "choice", "cost", "bound"] (spM K cm 3 (Giving_tree_s 6))) (h_Giving : HasMk P w K mg base cm 1 "Giving" "Giving" ["self", "count", "near", "good", "costs", "limit"] (spM K cm 5 Giving_init_s)) :
    FnOk P w K mg base CX0 8 fa fd ["count", "near", "good", "costs", "limit"] (spQ K cm 5 choice_of_s) :=
  fn_Q 5 G sc_choice_of rfl fun cdv A outer s H E hr =>
  (ss_cons (s_set 5 (x_make h_Giving (hr.mono (by decide)) (a_cons (xv 0) (a_cons (xv 1) (a_cons (xv 2) (a_cons (xv 3) (a_cons (xv 4) a_nil)))))) sc_choice_of.nd)
  (ss_cons (s_do (x_meth 5 h_Giving_go (hr.mono (by decide)) (a_cons (x_ofL (l_lst a_nil)) (a_cons x_int a_nil))))
  (ss_cons (s_if (t_isN (x_fld 5 hf_best)) (ss_one (s_ret (d_ofP (x_tup (a_cons x_str (a_cons (x_fr (x_meth 5 h_Giving_tree (hr.mono (by decide)) (a_cons (x_ofL (l_lst a_nil)) (a_cons x_int (a_cons x_non a_nil))))) a_nil)))))) ss_nil)
  (ss_cons (s_tgt (x_fld 5 hf_best) (g_tup rfl (gs_cons (g_nm 6 sc_choice_of.nd) (gs_cons (g_nm 7 sc_choice_of.nd) gs_nil))))
  (ss_one (s_ret (d_ofP (x_tup (a_cons x_str (a_cons (xv 7) (a_cons (xv 6) (a_cons (x_fr (x_meth 5 h_Giving_tree (hr.mono (by decide)) (a_cons (x_ofL (l_lst a_nil)) (a_cons x_int (a_cons (xv 6) a_nil))))) a_nil))))))))))))
/-! ### choice_fault -/
abbrev st_choice_fault : Stmt := PySem.Challenge.pw_hornwright_k51_rhythms_given_and_heard.main.body.getD 16 (.Pass ⟨0, 0, 0, 0⟩)
def N_choice_fault : List Str := ["count", "near", "good", "costs", "told", "work", "path", "word", "choice", "cost", "tree", "mark", "one", "rhythm"]
theorem sc_choice_fault : FnScope N_choice_fault ["count", "near", "good", "costs", "told"] (defScope st_choice_fault) := ⟨rfl, rfl, rfl, by decide +kernel, rfl, by decide +kernel, by decide +kernel⟩
theorem ok_choice_fault {P : Program} {w : World} {K : PySem.W.Frag} {mg : Str → Option Value} {base : Heap} {cm : Str → Addr → Prop} {fa : Addr} {fd : FuncData} (B : Bs mg) (G : L2.Fun K "choice_fault" "choice_fault" st_choice_fault fa fd) (h_clash_with : HasFn P w K mg base 1 "clash_with" ["near", "good", "choice", "mark", "rhythm"] (spQ K cm 5 clash_with_s)) (h_Giving_path : HasMeth P w K mg base cm 6 "path" ["self", "choice", "cost", "bound", "tree"] (spM K cm 4 (Giving_path_s 6))) (h_Giving : HasMk P w K mg base cm 1 "Giving" "Giving" ["self", "count", "near", "good", "costs", "limit"] (spM K cm 5 Giving_init_s)) :
    FnOk P w K mg base CX0 7 fa fd ["count", "near", "good", "costs", "told"] (spQ K cm 5 choice_fault_s) :=
  fn_Q 5 G sc_choice_fault rfl fun cdv A outer s H E hr =>
  (ss_cons (s_set 5 (x_make h_Giving (hr.mono (by decide)) (a_cons (xv 0) (a_cons (xv 1) (a_cons (xv 2) (a_cons (xv 3) (a_cons x_int a_nil)))))) sc_choice_fault.nd)
  (ss_cons (s_if (t_eq (hu_room hr) (x_ix (xv 4) x_int) x_str) (ss_cons (s_set 6 (d_ofP (x_fr (x_meth 5 h_Giving_path (hr.mono (by decide)) (a_cons (x_ofL (l_lst a_nil)) (a_cons x_int (a_cons x_non (a_cons (x_ix (xv 4) x_int) a_nil))))))) sc_choice_fault.nd)
  (ss_one (s_ret (d_ofP (x_if (t_isN (xv 6)) x_non (x_tup (a_cons x_str (a_cons (xv 6) a_nil)))))))) ss_nil)
  (ss_cons (s_tgt (xv 4) (g_tup rfl (gs_cons (g_nm 7 sc_choice_fault.nd) (gs_cons (g_nm 8 sc_choice_fault.nd) (gs_cons (g_nm 9 sc_choice_fault.nd) (gs_cons (g_nm 10 sc_choice_fault.nd) gs_nil))))))
  (ss_cons (s_if ((w_or (t_ne (hu_room hr) (x_len B.len (a_cons (xv 8) a_nil)) (xv 0)) (w_one_or (t_not (t_tru (x_all rfl B.all (a_cons (x_ofL (l_comp (own := [("rhythm", 13)]) rfl sc_choice_fault.nd (blkOk_by (by rfl)) (i_val (xv 8)) (fun _ _ _ _ _ => (g_nm 13 sc_choice_fault.nd)) (fun _ _ _ _ _ => c_yes) (fun _ _ _ _ _ => (x_chn (op_leD (hu_room hr)) (op_ltD (hu_room hr)) cop_dat cop_dat x_int (xv 13) (x_len B.len (a_cons (xv 3) a_nil)))))) a_nil))))))).pt (ss_one (s_ret (d_ofP (x_tup (a_cons x_str a_nil))))) ss_nil)
  (ss_cons (s_for rfl (i_range1 B.range (a_cons (xv 0) a_nil)) (g_nm 11 sc_choice_fault.nd) (ss_cons (s_set 12 (d_ofP (x_callQ h_clash_with (hr.mono (by decide)) (a_cons (xv 1) (a_cons (xv 2) (a_cons (xv 8) (a_cons (xv 11) (a_cons (x_ix (xv 8) (xv 11)) a_nil))))))) sc_choice_fault.nd)
  (ss_one (s_if (t_notN (xv 12)) (ss_one (s_ret (d_ofP (x_tup (a_cons x_str (a_cons (xv 12) (a_cons (xv 11) a_nil))))))) ss_nil))))
  (ss_cons (s_if (t_ne (hu_room hr) (x_sum rfl B.sum (a_cons (x_ofL (l_comp (own := [("rhythm", 13)]) rfl sc_choice_fault.nd (blkOk_by (by rfl)) (i_val (xv 8)) (fun _ _ _ _ _ => (g_nm 13 sc_choice_fault.nd)) (fun _ _ _ _ _ => c_yes) (fun _ _ _ _ _ => (x_ix (xv 3) (xv 13))))) a_nil)) (xv 9)) (ss_one (s_ret (d_ofP (x_tup (a_cons x_str a_nil))))) ss_nil)
  (ss_cons (s_set 6 (d_ofP (x_fr (x_meth 5 h_Giving_path (hr.mono (by decide)) (a_cons (x_ofL (l_lst a_nil)) (a_cons x_int (a_cons (xv 9) (a_cons (xv 10) a_nil))))))) sc_choice_fault.nd)
  (ss_one (s_ret (d_ofP (x_if (t_isN (xv 6)) x_non (x_tup (a_cons x_str (a_cons (xv 6) a_nil))))))))))))))
/-! ### near_pairs -/
abbrev st_near_pairs : Stmt := PySem.Challenge.pw_hornwright_k51_rhythms_given_and_heard.main.body.getD 17 (.Pass ⟨0, 0, 0, 0⟩)
def N_near_pairs : List Str := ["places", "reach", "found", "one", "other", "x", "y"]
theorem sc_near_pairs : FnScope N_near_pairs ["places", "reach"] (defScope st_near_pairs) := ⟨rfl, rfl, rfl, by decide +kernel, rfl, by decide +kernel, by decide +kernel⟩
theorem ok_near_pairs {P : Program} {w : World} {K : PySem.W.Frag} {mg : Str → Option Value} {base : Heap} {cm : Str → Addr → Prop} {fa : Addr} {fd : FuncData} (B : Bs mg) (G : L2.Fun K "near_pairs" "near_pairs" st_near_pairs fa fd)  :
    FnOk P w K mg base CX0 1 fa fd ["places", "reach"] (spQ K cm 2 near_pairs_s) :=
  fn_Q 2 G sc_near_pairs rfl fun cdv A outer s H E hr =>
  (ss_cons (s_set 2 (d_ofL (l_lst a_nil)) sc_near_pairs.nd)
  (ss_cons (s_for rfl (i_range1 B.range (a_cons (x_len B.len (a_cons (xv 0) a_nil)) a_nil)) (g_nm 3 sc_near_pairs.nd) (ss_one (s_for rfl (i_range2 B.range (a_cons (x_add (xv 3) x_int) (a_cons (x_len B.len (a_cons (xv 0) a_nil)) a_nil))) (g_nm 4 sc_near_pairs.nd) (ss_cons (s_par 5 6 rfl sc_near_pairs.nd (a_cons (x_sub (x_ix (x_ix (xv 0) (xv 3)) x_int) (x_ix (x_ix (xv 0) (xv 4)) x_int)) (a_cons (x_sub (x_ix (x_ix (xv 0) (xv 3)) x_int) (x_ix (x_ix (xv 0) (xv 4)) x_int)) a_nil)))
  (ss_one (s_if (t_le (hu_room hr) (x_add (x_mul (xv 5) (xv 5)) (x_mul (xv 6) (xv 6))) (x_mul (xv 1) (xv 1))) (ss_one (s_app 2 (d_ofP (x_tup (a_cons (xv 3) (a_cons (xv 4) a_nil)))))) ss_nil))))))
  (ss_one (s_fz 2 (s_ret (d_ofP (xv 2)))))))
/-! ### least_time -/
abbrev st_least_time : Stmt := PySem.Challenge.pw_hornwright_k51_rhythms_given_and_heard.main.body.getD 18 (.Pass ⟨0, 0, 0, 0⟩)
def N_least_time : List Str := ["count", "near", "rhythms", "limit", "times", "one", "other", "told", "time"]
theorem sc_least_time : FnScope N_least_time ["count", "near", "rhythms", "limit"] (defScope st_least_time) := ⟨rfl, rfl, rfl, by decide +kernel, rfl, by decide +kernel, by decide +kernel⟩
theorem ok_least_time {P : Program} {w : World} {K : PySem.W.Frag} {mg : Str → Option Value} {base : Heap} {cm : Str → Addr → Prop} {fa : Addr} {fd : FuncData} (B : Bs mg) (G : L2.Fun K "least_time" "least_time" st_least_time fa fd) (h_common : HasFn P w K mg base 3 "common" ["one", "other"] (spQ K cm 2 common_s)) (h_told_apart : HasFn P w K mg base 4 "told_apart" ["rhythms", "time"] (spQ K cm 2 told_apart_s)) (h_choice_of : HasFn P w K mg base 8 "choice_of" ["count", "near", "good", "costs", "limit"] (spQ K cm 5 choice_of_s)) :
    FnOk P w K mg base CX0 9 fa fd ["count", "near", "rhythms", "limit"] (spQ K cm 4 least_time_s) :=
  fn_Q 4 G sc_least_time rfl fun cdv A outer s H E hr =>
  (ss_cons (s_set 4 (d_dict1 x_int x_bl) sc_least_time.nd)
  (ss_cons (s_for rfl (i_val (xv 2)) (g_nm 5 sc_least_time.nd) (ss_one (s_for rfl (i_val (xv 2)) (g_nm 6 sc_least_time.nd) (ss_cons (s_set 7 (d_ofP (x_callQ h_common (hr.mono (by decide)) (a_cons (xv 5) (a_cons (xv 6) a_nil)))) sc_least_time.nd)
  (ss_one (s_if (t_eq (hu_room hr) (x_ix (xv 7) x_int) x_str) (ss_one (s_dput 4 (hu_of hr) x_bl (x_add (x_ix (xv 7) x_int) x_int))) ss_nil))))))
  (ss_cons (s_for rfl (i_val (x_ofL (l_sortD 4 rfl B.sorted))) (g_nm 8 sc_least_time.nd) (ss_one (s_if (t_eq (hu_room hr) (x_ix (x_callQ h_choice_of (hr.mono (by decide)) (a_cons (xv 0) (a_cons (xv 1) (a_cons (x_callQ h_told_apart (hr.mono (by decide)) (a_cons (xv 2) (a_cons (xv 8) a_nil))) (a_cons (x_mul (x_ofL (l_lst (a_cons x_int a_nil))) (x_len B.len (a_cons (xv 2) a_nil))) (a_cons (xv 3) a_nil)))))) x_int) x_str) (ss_one (s_ret (d_ofP (xv 8)))) ss_nil)))
  (ss_one (s_ret (d_ofP x_non))))))
/-! ### starts_of -/
abbrev st_starts_of : Stmt := PySem.Challenge.pw_hornwright_k51_rhythms_given_and_heard.main.body.getD 20 (.Pass ⟨0, 0, 0, 0⟩)
def N_starts_of : List Str := ["rhythms", "found", "mark", "rhythm", "begin"]
theorem sc_starts_of : FnScope N_starts_of ["rhythms"] (defScope st_starts_of) := ⟨rfl, rfl, rfl, by decide +kernel, rfl, by decide +kernel, by decide +kernel⟩
theorem ok_starts_of {P : Program} {w : World} {K : PySem.W.Frag} {mg : Str → Option Value} {base : Heap} {cm : Str → Addr → Prop} {fa : Addr} {fd : FuncData} (B : Bs mg) (G : L2.Fun K "starts_of" "starts_of" st_starts_of fa fd) (h_least_turn : HasFn P w K mg base 1 "least_turn" ["rhythm"] (spQ K cm 1 least_turn_s)) :
    FnOk P w K mg base CX0 2 fa fd ["rhythms"] (spQ K cm 1 starts_of_s) :=
  fn_Q 1 G sc_starts_of rfl fun cdv A outer s H E hr =>
  (ss_cons (s_set 1 (d_ofL (l_lst a_nil)) sc_starts_of.nd)
  (ss_cons (s_for rfl (i_enumA B.enumerate (a_cons (xv 0) a_nil)) (g_tup rfl (gs_cons (g_nm 2 sc_starts_of.nd) (gs_cons (g_nm 3 sc_starts_of.nd) gs_nil))) (ss_one (s_ext 1 (l_comp (own := [("begin", 4)]) rfl sc_starts_of.nd (blkOk_by (by rfl)) (i_range1 B.range (a_cons (x_len B.len (a_cons (x_callQ h_least_turn (hr.mono (by decide)) (a_cons (xv 3) a_nil)) a_nil)) a_nil)) (fun _ _ _ _ _ => (g_nm 4 sc_starts_of.nd)) (fun _ _ _ _ _ => c_yes) (fun _ _ _ _ _ => (x_tup (a_cons (xv 2) (a_cons (xv 4) a_nil))))))))
  (ss_one (s_fz 1 (s_ret (d_ofP (xv 1)))))))
/-! ### bar_of -/
abbrev st_bar_of : Stmt := PySem.Challenge.pw_hornwright_k51_rhythms_given_and_heard.main.body.getD 21 (.Pass ⟨0, 0, 0, 0⟩)
def N_bar_of : List Str := ["rhythm", "begin", "heard", "step", "sounded"]
theorem sc_bar_of : FnScope N_bar_of ["rhythm", "begin", "heard"] (defScope st_bar_of) := ⟨rfl, rfl, rfl, by decide +kernel, rfl, by decide +kernel, by decide +kernel⟩
theorem ok_bar_of {P : Program} {w : World} {K : PySem.W.Frag} {mg : Str → Option Value} {base : Heap} {cm : Str → Addr → Prop} {fa : Addr} {fd : FuncData} (B : Bs mg) (G : L2.Fun K "bar_of" "bar_of" st_bar_of fa fd) (h_at : HasFn P w K mg base 1 "at" ["rhythm", "tick"] (spQ K cm 2 at_s)) :
    FnOk P w K mg base CX0 2 fa fd ["rhythm", "begin", "heard"] (spQ K cm 3 bar_of_s) :=
  fn_Q 3 G sc_bar_of rfl fun cdv A outer s H E hr =>
  (ss_cons (s_for rfl (i_enumA B.enumerate (a_cons (xv 2) a_nil)) (g_tup rfl (gs_cons (g_nm 3 sc_bar_of.nd) (gs_cons (g_nm 4 sc_bar_of.nd) gs_nil))) (ss_one (s_if ((w_and (t_notN (xv 4)) (w_one_and (t_ne (hu_room hr) (x_callQ h_at (hr.mono (by decide)) (a_cons (xv 0) (a_cons (x_add (xv 1) (xv 3)) a_nil))) (xv 4))))).pt (ss_one (s_ret (d_ofP (xv 3)))) ss_nil)))
  (ss_one (s_ret (d_ofP x_non))))
/-! ### fitting -/
abbrev st_fitting : Stmt := PySem.Challenge.pw_hornwright_k51_rhythms_given_and_heard.main.body.getD 22 (.Pass ⟨0, 0, 0, 0⟩)
def N_fitting : List Str := ["rhythms", "heard", "fits", "bars", "mark", "begin", "step"]
theorem sc_fitting : FnScope N_fitting ["rhythms", "heard"] (defScope st_fitting) := ⟨rfl, rfl, rfl, by decide +kernel, rfl, by decide +kernel, by decide +kernel⟩
theorem ok_fitting {P : Program} {w : World} {K : PySem.W.Frag} {mg : Str → Option Value} {base : Heap} {cm : Str → Addr → Prop} {fa : Addr} {fd : FuncData} (B : Bs mg) (G : L2.Fun K "fitting" "fitting" st_fitting fa fd) (h_starts_of : HasFn P w K mg base 2 "starts_of" ["rhythms"] (spQ K cm 1 starts_of_s)) (h_bar_of : HasFn P w K mg base 2 "bar_of" ["rhythm", "begin", "heard"] (spQ K cm 3 bar_of_s)) :
    FnOk P w K mg base CX0 3 fa fd ["rhythms", "heard"] (spQ K cm 2 fitting_s) :=
  fn_Q 2 G sc_fitting rfl fun cdv A outer s H E hr =>
  (ss_cons (s_set 2 (d_ofL (l_lst a_nil)) sc_fitting.nd)
  (ss_cons (s_set 3 (d_ofL (l_lst a_nil)) sc_fitting.nd)
  (ss_cons (s_for rfl (i_val (x_callQ h_starts_of (hr.mono (by decide)) (a_cons (xv 0) a_nil))) (g_tup rfl (gs_cons (g_nm 4 sc_fitting.nd) (gs_cons (g_nm 5 sc_fitting.nd) gs_nil))) (ss_cons (s_set 6 (d_ofP (x_callQ h_bar_of (hr.mono (by decide)) (a_cons (x_ix (xv 0) (xv 4)) (a_cons (xv 5) (a_cons (xv 1) a_nil))))) sc_fitting.nd)
  (ss_one (s_if (t_isN (xv 6)) (ss_one (s_app 2 (d_ofP (x_tup (a_cons (xv 4) (a_cons (xv 5) a_nil)))))) (ss_one (s_app 3 (d_ofP (x_tup (a_cons (xv 4) (a_cons (xv 5) (a_cons (xv 6) a_nil)))))))))))
  (ss_one (s_fz 3 (s_fz 2 (s_ret (d_ofP (x_tup (a_cons (xv 2) (a_cons (xv 3) a_nil)))))))))))
/-! ### _law_state -/
abbrev st__law_state : Stmt := PySem.Challenge.pw_hornwright_k51_rhythms_given_and_heard.main.body.getD 24 (.Pass ⟨0, 0, 0, 0⟩)
def N__law_state : List Str := ["script", "cells", "cell"]
theorem sc__law_state : FnScope N__law_state ["script"] (defScope st__law_state) := ⟨rfl, rfl, rfl, by decide +kernel, rfl, by decide +kernel, by decide +kernel⟩
theorem ok__law_state {P : Program} {w : World} {K : PySem.W.Frag} {mg : Str → Option Value} {base : Heap} {cm : Str → Addr → Prop} {fa : Addr} {fd : FuncData} (B : Bs mg) (G : L2.Fun K "_law_state" "_law_state" st__law_state fa fd)  :
    FnOk P w K mg base CX0 1 fa fd ["script"] (spP K cm 1 _law_state_s) :=
  fn_P G sc__law_state fun cdv A outer s H E hr =>
  (ss_cons (s_setLc (own := [("cell", 2)]) 1 ofL_imp rfl sc__law_state.nd (blkOk_by (by rfl)) (i_val (x_slA (xv 0) o_no (o_so x_int))) (fun _ _ _ _ _ => (g_nm 2 sc__law_state.nd)) (fun _ _ _ _ _ => c_yes) (fun _ _ _ _ _ => (x_abs B.abs (a_cons (xv 2) a_nil))))
  (ss_cons (s_if (t_eq (hu_room hr) (x_pk 1 (x_len B.len (a_cons (xv 1) a_nil))) x_int) (ss_one (s_set 1 (d_ofL (l_lst (a_cons x_int a_nil))) sc__law_state.nd)) ss_nil)
  (ss_one (s_ret (d_lst2 1 x_int)))))
/-! ### _law_take -/
abbrev st__law_take : Stmt := PySem.Challenge.pw_hornwright_k51_rhythms_given_and_heard.main.body.getD 25 (.Pass ⟨0, 0, 0, 0⟩)
theorem sc__law_take : FnScope ["state", "most", "cells", "at_v", "cell", "mixed"] ["state", "most"] (defScope st__law_take) := ⟨rfl, rfl, rfl, by decide +kernel, rfl, by decide +kernel, by decide +kernel⟩
theorem ok__law_take {P : Program} {w : World} {K : PySem.W.Frag} {mg : Str → Option Value} {base : Heap} {cm : Str → Addr → Prop} {fa : Addr} {fd : FuncData} (B : Bs mg) (G : L2.Fun K "_law_take" "_law_take" st__law_take fa fd) :
    FnOk P w K mg base CX0 1 fa fd ["state", "most"] (spM K cm 1 takeS) :=
  fn_take G sc__law_take rfl fun cdv A outer s H E hr => pss_cons (s_tk sc__law_take.nd)
  (ss_cons (s_set 3 (d_ofP (x_mod (x_getA 0 x_int) (x_pk 2 (x_len B.len (a_cons (xv 2) a_nil))))) sc__law_take.nd)
  (ss_cons (s_set 4 (d_ofP (x_getA 2 (xv 3))) sc__law_take.nd)
  (ss_cons (s_if (t_ge (hu_room hr) (xv 4) x_int) (ss_cons (s_setI 2 (x_fdiv (xv 4) (xv 1)) (xv 3))
  (ss_one (s_ret (d_ofP (x_mod (xv 4) (xv 1)))))) ss_nil)
  (ss_cons (s_setI 0 (x_add (x_getA 0 x_int) x_int) x_int)
  (ss_cons (s_set 5 (d_ofP (x_mod (x_int1 B.int (a_cons (x_add (x_mul (xv 4) x_int) (x_mul (x_getA 0 x_int) x_int)) a_nil)) x_int)) sc__law_take.nd)
  (ss_cons (s_set 5 (d_ofP (x_mod (x_int1 B.int (a_cons (x_add (x_mul (xv 5) x_int) (x_mul (x_getA 0 x_int) x_int)) a_nil)) x_int)) sc__law_take.nd)
  (ss_one (s_ret (d_ofP (x_mod (x_fdiv (xv 5) x_int) (xv 1)))))))))))
/-! ### _law_runs -/
abbrev st__law_runs : Stmt := PySem.Challenge.pw_hornwright_k51_rhythms_given_and_heard.main.body.getD 26 (.Pass ⟨0, 0, 0, 0⟩)
def N__law_runs : List Str := ["state", "runs", "k", "run"]
theorem sc__law_runs : FnScope N__law_runs ["state"] (defScope st__law_runs) := ⟨rfl, rfl, rfl, by decide +kernel, rfl, by decide +kernel, by decide +kernel⟩
theorem ok__law_runs {P : Program} {w : World} {K : PySem.W.Frag} {mg : Str → Option Value} {base : Heap} {cm : Str → Addr → Prop} {fa : Addr} {fd : FuncData} (B : Bs mg) (G : L2.Fun K "_law_runs" "_law_runs" st__law_runs fa fd) (h__law_take : HasFn P w K mg base 1 "_law_take" ["state", "most"] (spM K cm 1 _law_take_s)) :
    FnOk P w K mg base CX0 2 fa fd ["state"] (spM K cm 0 _law_runs_s) :=
  fn_M (n := 0) G sc__law_runs rfl fun cdv A outer s H E hr =>
  (ss_cons (s_setLc (own := [("k", 2)]) 1 ofLP_imp rfl sc__law_runs.nd (blkOk_by (by rfl)) (i_range1 B.range (a_cons (x_add x_int (x_fr (x_callM 0 h__law_take (hr.mono (by decide)) (a_cons x_int a_nil)))) a_nil)) (fun _ _ _ _ _ => (g_nm 2 sc__law_runs.nd)) (fun _ _ _ _ _ => c_yes) (fun _ _ _ _ _ => (x_tup (a_cons (x_ix (x_ofL (l_lst (a_cons x_str (a_cons x_str (a_cons x_str a_nil))))) (x_fr (x_callM 0 h__law_take (hr.mono (by decide)) (a_cons x_int a_nil)))) (a_cons (x_add x_int (x_fr (x_callM 0 h__law_take (hr.mono (by decide)) (a_cons x_int a_nil)))) a_nil)))))
  (ss_one (s_ret (d_ofP (x_if (t_gt (hu_room hr) (x_len B.len (a_cons (x_ofL (l_comp (own := [("run", 3)]) rfl sc__law_runs.nd (blkOk_by (by rfl)) (i_val (xv 1)) (fun _ _ _ _ _ => (g_nm 3 sc__law_runs.nd)) (fun _ _ _ _ _ => (c_one (t_ne (hu_room hr) (x_ix (xv 3) x_int) x_str))) (fun _ _ _ _ _ => (xv 3)))) a_nil)) x_int) (xv 1) (x_add (x_ofL (l_lst (a_cons (x_tup (a_cons x_str (a_cons x_int a_nil))) a_nil))) (xv 1)))))))
/-! ### _law_row -/
abbrev st__law_row : Stmt := PySem.Challenge.pw_hornwright_k51_rhythms_given_and_heard.main.body.getD 27 (.Pass ⟨0, 0, 0, 0⟩)
def N__law_row : List Str := ["character", "row", "colour", "ticks"]
theorem sc__law_row : FnScope N__law_row ["character"] (defScope st__law_row) := ⟨rfl, rfl, rfl, by decide +kernel, rfl, by decide +kernel, by decide +kernel⟩
theorem ok__law_row {P : Program} {w : World} {K : PySem.W.Frag} {mg : Str → Option Value} {base : Heap} {cm : Str → Addr → Prop} {fa : Addr} {fd : FuncData} (B : Bs mg) (G : L2.Fun K "_law_row" "_law_row" st__law_row fa fd)  :
    FnOk P w K mg base CX0 1 fa fd ["character"] (spQ K cm 1 _law_row_s) :=
  fn_Q 1 G sc__law_row rfl fun cdv A outer s H E hr =>
  (ss_cons (s_set 1 (d_ofP (x_ofL (l_lst a_nil))) sc__law_row.nd)
  (ss_cons (s_for rfl (i_val (xv 0)) (g_tup rfl (gs_cons (g_nm 2 sc__law_row.nd) (gs_cons (g_nm 3 sc__law_row.nd) gs_nil))) (ss_one (s_set 1 (d_ofP (x_add (xv 1) (x_mul (x_ofL (l_lst (a_cons (xv 2) a_nil))) (xv 3)))) sc__law_row.nd)))
  (ss_one (s_ret (d_ofP (xv 1))))))
/-! ### _law_choices -/
abbrev st__law_choices : Stmt := PySem.Challenge.pw_hornwright_k51_rhythms_given_and_heard.main.body.getD 28 (.Pass ⟨0, 0, 0, 0⟩)
def N__law_choices : List Str := ["many", "count", "found", "k", "more", "row", "one"]
theorem sc__law_choices : FnScope N__law_choices ["many", "count"] (defScope st__law_choices) := ⟨rfl, rfl, rfl, by decide +kernel, rfl, by decide +kernel, by decide +kernel⟩
theorem ok__law_choices {P : Program} {w : World} {K : PySem.W.Frag} {mg : Str → Option Value} {base : Heap} {cm : Str → Addr → Prop} {fa : Addr} {fd : FuncData} (B : Bs mg) (G : L2.Fun K "_law_choices" "_law_choices" st__law_choices fa fd)  :
    FnOk P w K mg base CX0 1 fa fd ["many", "count"] (spQ K cm 2 _law_choices_s) :=
  fn_Q 2 G sc__law_choices rfl fun cdv A outer s H E hr =>
  (ss_cons (s_set 2 (d_ofP (x_ofL (l_lst (a_cons (x_ofL (l_lst a_nil)) a_nil)))) sc__law_choices.nd)
  (ss_cons (s_for rfl (i_range1 B.range (a_cons (xv 1) a_nil)) (g_nm 3 sc__law_choices.nd) (ss_cons (s_set 4 (d_ofL (l_lst a_nil)) sc__law_choices.nd)
  (ss_cons (s_for rfl (i_val (xv 2)) (g_nm 5 sc__law_choices.nd) (ss_one (s_ext 4 (l_comp (own := [("one", 6)]) rfl sc__law_choices.nd (blkOk_by (by rfl)) (i_range1 B.range (a_cons (xv 0) a_nil)) (fun _ _ _ _ _ => (g_nm 6 sc__law_choices.nd)) (fun _ _ _ _ _ => c_yes) (fun _ _ _ _ _ => (x_add (xv 5) (x_ofL (l_lst (a_cons (xv 6) a_nil)))))))))
  (ss_one (s_fz 4 (s_set 2 (d_ofP (xv 4)) sc__law_choices.nd))))))
  (ss_one (s_ret (d_ofP (xv 2))))))
/-! ### _law_stretch -/
abbrev st__law_stretch : Stmt := PySem.Challenge.pw_hornwright_k51_rhythms_given_and_heard.main.body.getD 29 (.Pass ⟨0, 0, 0, 0⟩)
def N__law_stretch : List Str := ["one", "other", "size", "best", "i", "j", "long"]
theorem sc__law_stretch : FnScope N__law_stretch ["one", "other"] (defScope st__law_stretch) := ⟨rfl, rfl, rfl, by decide +kernel, rfl, by decide +kernel, by decide +kernel⟩
theorem ok__law_stretch {P : Program} {w : World} {K : PySem.W.Frag} {mg : Str → Option Value} {base : Heap} {cm : Str → Addr → Prop} {fa : Addr} {fd : FuncData} (B : Bs mg) (G : L2.Fun K "_law_stretch" "_law_stretch" st__law_stretch fa fd)  :
    FnOk P w K mg base CX0 1 fa fd ["one", "other"] (spQ K cm 2 _law_stretch_s) :=
  fn_Q 2 G sc__law_stretch rfl fun cdv A outer s H E hr =>
  (ss_cons (s_par 2 3 rfl sc__law_stretch.nd (a_cons (x_add (x_len B.len (a_cons (xv 0) a_nil)) (x_len B.len (a_cons (xv 1) a_nil))) (a_cons x_int a_nil)))
  (ss_cons (s_for rfl (i_range1 B.range (a_cons (x_len B.len (a_cons (xv 0) a_nil)) a_nil)) (g_nm 4 sc__law_stretch.nd) (ss_one (s_for rfl (i_range1 B.range (a_cons (x_len B.len (a_cons (xv 1) a_nil)) a_nil)) (g_nm 5 sc__law_stretch.nd) (ss_cons (s_set 6 (d_ofP x_int) sc__law_stretch.nd)
  (ss_cons (s_while ((w_and (t_lt (hu_room hr) (xv 6) (xv 2)) (w_one_and (t_eq (hu_room hr) (x_ix (xv 0) (x_mod (x_add (xv 4) (xv 6)) (x_len B.len (a_cons (xv 0) a_nil)))) (x_ix (xv 1) (x_mod (x_add (xv 5) (xv 6)) (x_len B.len (a_cons (xv 1) a_nil)))))))).pt (ss_one (s_set 6 (d_ofP (x_add (xv 6) x_int)) sc__law_stretch.nd)))
  (ss_cons (s_if (t_eq (hu_room hr) (xv 6) (xv 2)) (ss_one (s_ret (d_ofP x_non))) ss_nil)
  (ss_one (s_set 3 (d_ofP (x_max2 rfl B.max (a_cons (xv 3) (a_cons (xv 6) a_nil)))) sc__law_stretch.nd))))))))
  (ss_one (s_ret (d_ofP (xv 3))))))
/-! ### _law_less -/
abbrev st__law_less : Stmt := PySem.Challenge.pw_hornwright_k51_rhythms_given_and_heard.main.body.getD 30 (.Pass ⟨0, 0, 0, 0⟩)
def N__law_less : List Str := ["stretch", "most"]
theorem sc__law_less : FnScope N__law_less ["stretch", "most"] (defScope st__law_less) := ⟨rfl, rfl, rfl, by decide +kernel, rfl, by decide +kernel, by decide +kernel⟩
theorem ok__law_less {P : Program} {w : World} {K : PySem.W.Frag} {mg : Str → Option Value} {base : Heap} {cm : Str → Addr → Prop} {fa : Addr} {fd : FuncData} (B : Bs mg) (G : L2.Fun K "_law_less" "_law_less" st__law_less fa fd)  :
    FnOk P w K mg base CX0 1 fa fd ["stretch", "most"] (spQ K cm 2 _law_less_s) :=
  fn_Q 2 G sc__law_less rfl fun cdv A outer s H E hr =>
  (ss_one (s_ret (d_ofP (xb_and (x_notN (xv 0)) (xb_one (x_lt (hu_room hr) (xv 0) (xv 1)))))))
/-! ### law -/
abbrev st_law : Stmt := PySem.Challenge.pw_hornwright_k51_rhythms_given_and_heard.main.body.getD 31 (.Pass ⟨0, 0, 0, 0⟩)
def N_law : List Str := ["script", "state", "rhythms", "count", "places", "reach", "near", "i", "j", "away", "time", "stretches", "good", "told", "costs", "able", "one", "other", "begin", "heard", "due", "times", "row", "most", "fine", "k", "rhythm", "stretch", "pair", "start"]
theorem sc_law : FnScope N_law ["script"] (defScope st_law) := ⟨rfl, rfl, rfl, by decide +kernel, rfl, by decide +kernel, by decide +kernel⟩
theorem ok_law {P : Program} {w : World} {K : PySem.W.Frag} {mg : Str → Option Value} {base : Heap} {cm : Str → Addr → Prop} {fa : Addr} {fd : FuncData} (B : Bs mg) (G : L2.Fun K "law" "law" st_law fa fd) (h__law_state : HasFn P w K mg base 1 "_law_state" ["script"] (spP K cm 1 _law_state_s)) (h__law_take : HasFn P w K mg base 1 "_law_take" ["state", "most"] (spM K cm 1 _law_take_s)) (h__law_runs : HasFn P w K mg base 2 "_law_runs" ["state"] (spM K cm 0 _law_runs_s)) (h__law_row : HasFn P w K mg base 1 "_law_row" ["character"] (spQ K cm 1 _law_row_s)) (h_near_pairs : HasFn P w K mg base 1 "near_pairs" ["places", "reach"] (spQ K cm 2 near_pairs_s)) (h__law_stretch : HasFn P w K mg base 1 "_law_stretch" ["one", "other"] (spQ K cm 2 _law_stretch_s)) (h_told_apart : HasFn P w K mg base 4 "told_apart" ["rhythms", "time"] (spQ K cm 2 told_apart_s)) (h_common : HasFn P w K mg base 3 "common" ["one", "other"] (spQ K cm 2 common_s)) (h__law_choices : HasFn P w K mg base 1 "_law_choices" ["many", "count"] (spQ K cm 2 _law_choices_s)) (h_choice_of : HasFn P w K mg base 8 "choice_of" ["count", "near", "good", "costs", "limit"] (spQ K cm 5 choice_of_s)) (h_choice_fault : HasFn P w K mg base 7 "choice_fault" ["count", "near", "good", "costs", "told"] (spQ K cm 5 choice_fault_s)) (h_fitting : HasFn P w K mg base 3 "fitting" ["rhythms", "heard"] (spQ K cm 2 fitting_s)) (h__law_less : HasFn P w K mg base 1 "_law_less" ["stretch", "most"] (spQ K cm 2 _law_less_s)) (h_least_time : HasFn P w K mg base 9 "least_time" ["count", "near", "rhythms", "limit"] (spQ K cm 4 least_time_s)) :
    FnOk P w K mg base CX0 10 fa fd ["script"] (spQ K cm 1 law_s) :=
  fn_Q 1 G sc_law rfl fun cdv A outer s H E hr =>
  (ss_cons (s_set 1 (x_call h__law_state (hr.mono (by decide)) (a_cons (xv 0) a_nil)) sc_law.nd)
  (ss_cons (s_set 2 (d_ofP (x_ofL (l_comp (own := [("k", 25)]) rfl sc_law.nd (blkOk_by (by rfl)) (i_range1 B.range (a_cons (x_add x_int (x_fr (x_callM 1 h__law_take (hr.mono (by decide)) (a_cons x_int a_nil)))) a_nil)) (fun _ _ _ _ _ => (g_nm 25 sc_law.nd)) (fun _ _ _ _ _ => c_yes) (fun _ _ _ _ _ => (x_callQ h__law_row (hr.mono (by decide)) (a_cons (x_fr (x_callM 1 h__law_runs (hr.mono (by decide)) a_nil)) a_nil)))))) sc_law.nd)
  (ss_cons (s_set 3 (d_ofP (x_add x_int (x_fr (x_callM 1 h__law_take (hr.mono (by decide)) (a_cons x_int a_nil))))) sc_law.nd)
  (ss_cons (s_setLc (own := [("k", 25)]) 4 ofLP_imp rfl sc_law.nd (blkOk_by (by rfl)) (i_range1 B.range (a_cons (xv 3) a_nil)) (fun _ _ _ _ _ => (g_nm 25 sc_law.nd)) (fun _ _ _ _ _ => c_yes) (fun _ _ _ _ _ => (x_tup (a_cons (x_fr (x_callM 1 h__law_take (hr.mono (by decide)) (a_cons x_int a_nil))) (a_cons (x_fr (x_callM 1 h__law_take (hr.mono (by decide)) (a_cons x_int a_nil))) a_nil)))))
  (ss_cons (s_set 5 (d_ofP (x_fr (x_callM 1 h__law_take (hr.mono (by decide)) (a_cons x_int a_nil)))) sc_law.nd)
  (ss_cons (s_set 6 (d_ofP (x_ofL (l_lst a_nil))) sc_law.nd)
  (ss_cons (s_for rfl (i_range1 B.range (a_cons (xv 3) a_nil)) (g_nm 7 sc_law.nd) (ss_one (s_for rfl (i_range2 B.range (a_cons (x_add (xv 7) x_int) (a_cons (xv 3) a_nil))) (g_nm 8 sc_law.nd) (ss_cons (s_set 9 (d_ofP (x_tup (a_cons (x_sub (x_ix (x_ix (xv 4) (xv 7)) x_int) (x_ix (x_ix (xv 4) (xv 8)) x_int)) (a_cons (x_sub (x_ix (x_ix (xv 4) (xv 7)) x_int) (x_ix (x_ix (xv 4) (xv 8)) x_int)) a_nil)))) sc_law.nd)
  (ss_one (s_set 6 (d_ofP (x_if (t_le (hu_room hr) (x_add (x_mul (x_ix (xv 9) x_int) (x_ix (xv 9) x_int)) (x_mul (x_ix (xv 9) x_int) (x_ix (xv 9) x_int))) (x_mul (xv 5) (xv 5))) (x_add (xv 6) (x_ofL (l_lst (a_cons (x_tup (a_cons (xv 7) (a_cons (xv 8) a_nil))) a_nil)))) (xv 6))) sc_law.nd))))))
  (ss_cons (s_if (t_ne (hu_room hr) (x_callQ h_near_pairs (hr.mono (by decide)) (a_cons (xv 4) (a_cons (xv 5) a_nil))) (xv 6)) (ss_one (s_ret (d_ofP x_bl))) ss_nil)
  (ss_cons (s_set 10 (d_ofP (x_add x_int (x_fr (x_callM 1 h__law_take (hr.mono (by decide)) (a_cons x_int a_nil))))) sc_law.nd)
  (ss_cons (s_set 11 (d_ofP (x_ofL (l_comp (own := [("one", 16)]) rfl sc_law.nd (blkOk_by (by rfl)) (i_val (xv 2)) (fun _ _ _ _ _ => (g_nm 16 sc_law.nd)) (fun _ _ _ _ _ => c_yes) (fun _ _ _ _ _ => (x_ofL (l_comp (own := [("other", 17)]) rfl sc_law.nd (blkOk_by (by rfl)) (i_val (xv 2)) (fun _ _ _ _ _ => (g_nm 17 sc_law.nd)) (fun _ _ _ _ _ => c_yes) (fun _ _ _ _ _ => (x_callQ h__law_stretch (hr.mono (by decide)) (a_cons (xv 16) (a_cons (xv 17) a_nil)))))))))) sc_law.nd)
  (ss_cons (s_set 12 (d_ofP (x_ofL (l_comp (own := [("row", 22)]) rfl sc_law.nd (blkOk_by (by rfl)) (i_val (xv 11)) (fun _ _ _ _ _ => (g_nm 22 sc_law.nd)) (fun _ _ _ _ _ => c_yes) (fun _ _ _ _ _ => (x_ofL (l_comp (own := [("stretch", 27)]) rfl sc_law.nd (blkOk_by (by rfl)) (i_val (xv 22)) (fun _ _ _ _ _ => (g_nm 27 sc_law.nd)) (fun _ _ _ _ _ => c_yes) (fun _ _ _ _ _ => (xb_and (x_notN (xv 27)) (xb_one (x_lt (hu_room hr) (xv 27) (xv 10))))))))))) sc_law.nd)
  (ss_cons (s_if (t_ne (hu_room hr) (x_callQ h_told_apart (hr.mono (by decide)) (a_cons (xv 2) (a_cons (xv 10) a_nil))) (xv 12)) (ss_one (s_ret (d_ofP x_bl))) ss_nil)
  (ss_cons (s_for rfl (i_range1 B.range (a_cons (x_len B.len (a_cons (xv 2) a_nil)) a_nil)) (g_nm 7 sc_law.nd) (ss_one (s_for rfl (i_range1 B.range (a_cons (x_len B.len (a_cons (xv 2) a_nil)) a_nil)) (g_nm 8 sc_law.nd) (ss_cons (s_set 13 (d_ofP (x_callQ h_common (hr.mono (by decide)) (a_cons (x_ix (xv 2) (xv 7)) (a_cons (x_ix (xv 2) (xv 8)) a_nil)))) sc_law.nd)
  (ss_one (s_if ((w_or (t_ne (hu_room hr) (x_eq (hu_room hr) (x_ix (xv 13) x_int) x_str) (x_isN (x_ix (x_ix (xv 11) (xv 7)) (xv 8)))) (w_one_or ((w_and (t_eq (hu_room hr) (x_ix (xv 13) x_int) x_str) (w_one_and (t_ne (hu_room hr) (x_ix (xv 13) x_int) (x_ix (x_ix (xv 11) (xv 7)) (xv 8)))))).pt))).pt (ss_one (s_ret (d_ofP x_bl))) ss_nil))))))
  (ss_cons (s_set 14 (d_ofP (x_ofL (l_comp (own := [("rhythm", 26)]) rfl sc_law.nd (blkOk_by (by rfl)) (i_val (xv 2)) (fun _ _ _ _ _ => (g_nm 26 sc_law.nd)) (fun _ _ _ _ _ => c_yes) (fun _ _ _ _ _ => (x_fr (x_callM 1 h__law_take (hr.mono (by decide)) (a_cons x_int a_nil))))))) sc_law.nd)
  (ss_cons (s_setLc (own := [("row", 22)]) 15 ofLP_imp rfl sc_law.nd (blkOk_by (by rfl)) (i_val (x_callQ h__law_choices (hr.mono (by decide)) (a_cons (x_len B.len (a_cons (xv 2) a_nil)) (a_cons (xv 3) a_nil)))) (fun _ _ _ _ _ => (g_nm 22 sc_law.nd)) (fun _ _ _ _ _ => (c_one (t_eq (hu_room hr) (x_len B.len (a_cons (x_ofL (l_comp (own := [("pair", 28)]) rfl sc_law.nd (blkOk_by (by rfl)) (i_val (xv 6)) (fun _ _ _ _ _ => (g_nm 28 sc_law.nd)) (fun _ _ _ _ _ => (c_one (t_not (t_tru (x_ix (x_ix (xv 12) (x_ix (xv 22) (x_ix (xv 28) x_int))) (x_ix (xv 22) (x_ix (xv 28) x_int))))))) (fun _ _ _ _ _ => (xv 28)))) a_nil)) x_int))) (fun _ _ _ _ _ => (xv 22)))
  (ss_cons (s_set 13 (d_ofP (x_callQ h_choice_of (hr.mono (by decide)) (a_cons (xv 3) (a_cons (xv 6) (a_cons (xv 12) (a_cons (xv 14) (a_cons x_int a_nil))))))) sc_law.nd)
  (ss_cons (s_if ((w_or (t_ne (hu_room hr) (x_ix (xv 13) x_int) (x_if (t_gt (hu_room hr) (x_len B.len (a_cons (xv 15) a_nil)) x_int) x_str x_str)) (w_one_or (t_notN (x_callQ h_choice_fault (hr.mono (by decide)) (a_cons (xv 3) (a_cons (xv 6) (a_cons (xv 12) (a_cons (xv 14) (a_cons (xv 13) a_nil)))))))))).pt (ss_one (s_ret (d_ofP x_bl))) ss_nil)
  (ss_cons (s_if (t_eq (hu_room hr) (x_ix (xv 13) x_int) x_str) (ss_cons (s_if ((w_or (t_ne (hu_room hr) (x_ix (xv 13) x_int) (x_min rfl (hu_room hr) B.min (a_cons (x_ofL (l_comp (own := [("row", 22)]) rfl sc_law.nd (blkOk_by (by rfl)) (i_val (xv 15)) (fun _ _ _ _ _ => (g_nm 22 sc_law.nd)) (fun _ _ _ _ _ => c_yes) (fun _ _ _ _ _ => (x_sum rfl B.sum (a_cons (x_ofL (l_comp (own := [("one", 16)]) rfl sc_law.nd (blkOk_by (by rfl)) (i_val (xv 22)) (fun _ _ _ _ _ => (g_nm 16 sc_law.nd)) (fun _ _ _ _ _ => c_yes) (fun _ _ _ _ _ => (x_ix (xv 14) (xv 16))))) a_nil))))) a_nil))) (w_one_or (t_nin (hu_room hr) (x_ix (xv 13) x_int) (xv 15))))).pt (ss_one (s_ret (d_ofP x_bl))) ss_nil)
  (ss_one (s_for rfl (i_val (xv 6)) (g_tup rfl (gs_cons (g_nm 7 sc_law.nd) (gs_cons (g_nm 8 sc_law.nd) gs_nil))) (ss_cons (s_tgt (x_tup (a_cons (x_ix (xv 2) (x_ix (x_ix (xv 13) x_int) (xv 7))) (a_cons (x_ix (xv 2) (x_ix (x_ix (xv 13) x_int) (xv 8))) a_nil))) (g_tup rfl (gs_cons (g_nm 16 sc_law.nd) (gs_cons (g_nm 17 sc_law.nd) gs_nil))))
  (ss_one (s_for rfl (i_range1 B.range (a_cons (x_len B.len (a_cons (xv 16) a_nil)) a_nil)) (g_nm 18 sc_law.nd) (ss_cons (s_setLc (own := [("k", 25)]) 19 ofLP_imp rfl sc_law.nd (blkOk_by (by rfl)) (i_range1 B.range (a_cons (xv 10) a_nil)) (fun _ _ _ _ _ => (g_nm 25 sc_law.nd)) (fun _ _ _ _ _ => c_yes) (fun _ _ _ _ _ => (x_ix (xv 16) (x_mod (x_add (xv 18) (xv 25)) (x_len B.len (a_cons (xv 16) a_nil))))))
  (ss_one (s_if (t_gt (hu_room hr) (x_len B.len (a_cons (x_ofL (l_comp (own := [("start", 29)]) rfl sc_law.nd (blkOk_by (by rfl)) (i_val (x_ix (x_callQ h_fitting (hr.mono (by decide)) (a_cons (x_ofL (l_lst (a_cons (xv 16) (a_cons (xv 17) a_nil)))) (a_cons (xv 19) a_nil))) x_int)) (fun _ _ _ _ _ => (g_nm 29 sc_law.nd)) (fun _ _ _ _ _ => (c_one (t_eq (hu_room hr) (x_ix (xv 29) x_int) x_int))) (fun _ _ _ _ _ => (xv 29)))) a_nil)) x_int) (ss_one (s_ret (d_ofP x_bl))) ss_nil))))))))) ss_nil)
  (ss_cons (s_set 20 (d_ofP x_non) sc_law.nd)
  (ss_cons (s_set 21 (d_ofP (x_ofL (l_lst (a_cons x_int a_nil)))) sc_law.nd)
  (ss_cons (s_for rfl (i_val (xv 11)) (g_nm 22 sc_law.nd) (ss_one (s_set 21 (d_ofP (x_add (xv 21) (x_ofL (l_comp (own := [("stretch", 27)]) rfl sc_law.nd (blkOk_by (by rfl)) (i_val (xv 22)) (fun _ _ _ _ _ => (g_nm 27 sc_law.nd)) (fun _ _ _ _ _ => (c_one (t_notN (xv 27)))) (fun _ _ _ _ _ => (x_add (xv 27) x_int)))))) sc_law.nd)))
  (ss_cons (s_for rfl (i_val (x_ofL (l_sset rfl B.sorted B.set (a_cons (xv 21) a_nil)))) (g_nm 23 sc_law.nd) (ss_cons (s_setLc (own := [("row", 22)]) 24 ofLP_imp rfl sc_law.nd (blkOk_by (by rfl)) (i_val (x_callQ h__law_choices (hr.mono (by decide)) (a_cons (x_len B.len (a_cons (xv 2) a_nil)) (a_cons (xv 3) a_nil)))) (fun _ _ _ _ _ => (g_nm 22 sc_law.nd)) (fun _ _ _ _ _ => (c_one (t_eq (hu_room hr) (x_len B.len (a_cons (x_ofL (l_comp (own := [("pair", 28)]) rfl sc_law.nd (blkOk_by (by rfl)) (i_val (xv 6)) (fun _ _ _ _ _ => (g_nm 28 sc_law.nd)) (fun _ _ _ _ _ => (c_one (t_not (t_tru (x_callQ h__law_less (hr.mono (by decide)) (a_cons (x_ix (x_ix (xv 11) (x_ix (xv 22) (x_ix (xv 28) x_int))) (x_ix (xv 22) (x_ix (xv 28) x_int))) (a_cons (xv 23) a_nil))))))) (fun _ _ _ _ _ => (xv 28)))) a_nil)) x_int))) (fun _ _ _ _ _ => (xv 22)))
  (ss_one (s_set 20 (d_ofP (x_if ((w_and (t_isN (xv 20)) (w_one_and (t_gt (hu_room hr) (x_len B.len (a_cons (xv 24) a_nil)) x_int)))).pt (xv 23) (xv 20))) sc_law.nd))))
  (ss_one (s_ret (d_ofP (x_eq (hu_room hr) (x_callQ h_least_time (hr.mono (by decide)) (a_cons (xv 3) (a_cons (xv 6) (a_cons (xv 2) (a_cons x_int a_nil))))) (xv 20)))))))))))))))))))))))))))
end HW

namespace HW
open PySem PySem.Spec PyProof.Rows L2
noncomputable section
def isPeriod (xs : List Str) (s : Nat) : Bool := decide (xs.length % s = 0) && decide ((List.replicate (xs.length / s) (xs.take s)).flatten = xs)
def leastTurn (xs : List Str) : List Str := match ((List.range xs.length).map (· + 1)).find? (isPeriod xs) with
  | some s => xs.take s
  | none => xs
theorem least_turn_sem (xs : List Str) (h : xs.length < 1000) : least_turn_s [.list (strsL xs)] = some (.list (strsL (leastTurn xs))) := by
  have body : ∀ s : Nat, 0 < s → s ≤ xs.length → least_turn_b1 [.pd (.list (strsL xs)), .pd (.int s)] = if isPeriod xs s = true then some (.rt (.pd (.list (strsL (xs.take s)))), [.pd (.list (strsL xs)), .pd (.int s)]) else some (.nx, [.pd (.list (strsL xs)), .pd (.int s)]) := fun s hs hs2 => by
    have m := modP_pos (i := (xs.length : Int)) (j := (s : Int)) (by omega)
    have f := fdivP_pos (i := (xs.length : Int)) (j := (s : Int)) (by omega) (by omega)
    have hd : xs.length / s ≤ xs.length := Nat.div_le_self _ _
    have hm2 : s * (xs.length / s) ≤ xs.length := Nat.mul_div_le _ _
    have r := mulP_list (strsL (xs.take s)) (xs.length / s) (by omega) (by rw [strsL_len, List.length_take, Nat.min_eq_left hs2]; omega)
    rw [strs_rep] at r
    rw [← Int.natCast_emod] at m
    rw [← Int.natCast_ediv] at f
    unfold least_turn_b1 isPeriod
    generalize xs.length / s = q at *
    generalize xs.length % s = z at *
    by_cases hm : z = 0
    · subst hm
      by_cases he : (List.replicate q (xs.take s)).flatten = xs
      · have hq := eqP_strs (List.replicate q (xs.take s)).flatten xs
        have hq2 := eqP_strs xs xs
        rw [decide_eq_true rfl] at hq2
        simp [m, f, slA_to, strs_take, r, hq2, he]
      · have hq := eqP_strs (List.replicate q (xs.take s)).flatten xs
        rw [decide_eq_false he] at hq
        simp [m, f, slA_to, strs_take, r, hq, he]
    · have hz : ¬ ((z : Int) = 0) := by omega
      simp [m, hm, hz]
  have go : ∀ (ns : List Nat) (d : D), (∀ s ∈ ns, 0 < s ∧ s ≤ xs.length) → ∃ d', forL (.nm 1) least_turn_b1 (ns.map fun (i : Nat) => .int (i : Int)) [.pd (.list (strsL xs)), d] = match ns.find? (isPeriod xs) with
      | some s => some (.rt (.pd (.list (strsL (xs.take s)))), [.pd (.list (strsL xs)), d'])
      | none => some (.nx, [.pd (.list (strsL xs)), d']) := by
    intro ns
    induction ns with
    | nil => exact fun d _ => ⟨d, rfl⟩
    | cons n ns ih =>
      intro d hn
      rw [List.map_cons, List.find?_cons]
      unfold forL
      rw [bind_nm, Option.bind_some]
      show ∃ d', (least_turn_b1 [_, _]).bind _ = _
      rw [body n (hn n (by simp)).1 (hn n (by simp)).2]
      cases e : isPeriod xs n with
      | true => exact ⟨.pd (.int n), rfl⟩
      | false =>
        obtain ⟨d', hd⟩ := ih (.pd (.int n)) fun s hs => hn s (by simp [hs])
        exact ⟨d', hd⟩
  obtain ⟨d', G⟩ := go ((List.range xs.length).map (· + 1)) .hole (fun s hs => by
    obtain ⟨j, hj, rfl⟩ := List.mem_map.mp hs
    have := List.mem_range.mp hj
    exact ⟨Nat.succ_pos j, by show j + 1 ≤ _; omega⟩)
  have Rn := rng2P_one xs.length (by omega)
  unfold least_turn_s runQ runP least_turn_d leastTurn
  cases hf : ((List.range xs.length).map (· + 1)).find? (isPeriod xs) with
  | none =>
    rw [hf] at G
    simp only [] at G
    rw [List.map_map] at G Rn
    simp [Rn, G]
  | some s =>
    rw [hf] at G
    simp only [] at G
    rw [List.map_map] at G Rn
    simp [Rn, G]
def rot (xs : List Str) (b : Nat) : List Str := xs.drop (b % xs.length) ++ xs.take (b % xs.length)
theorem turned_sem (xs : List Str) (b : Nat) (h : 0 < xs.length) (h2 : xs.length < 1000) : turned_s [.list (strsL xs), .int b] = some (.list (strsL (rot xs b))) := by
  have m := modP_pos (i := (b : Int)) (j := (xs.length : Int)) (by omega)
  rw [← Int.natCast_emod] at m
  have hz : b % xs.length < xs.length := Nat.mod_lt _ h
  unfold turned_s runQ runP turned_d rot
  generalize b % xs.length = z at *
  have a := addP_list (xs := strsL (xs.drop z)) (ys := strsL (xs.take z)) (by simp; omega)
  rw [strs_app] at a
  simp [m, slA_to, slA_from, strs_take, strs_drop, a]
theorem leastTurn_len (xs : List Str) : (leastTurn xs).length ≤ xs.length := by
  unfold leastTurn
  split
  · simp; omega
  · exact Nat.le_refl _
def sbfb (one other : List Str) : Option Nat := if (leastTurn one).length = (leastTurn other).length then (List.range (leastTurn one).length).find? fun b => decide (rot (leastTurn one) b = leastTurn other) else none
theorem same_but_for_begin_sem (one other : List Str) (h1 : one.length < 1000) (h2 : other.length < 1000) :
    same_but_for_begin_s [.list (strsL one), .list (strsL other)] = some (encO ((sbfb one other).map fun n => (n : Int))) := by
  have l1 := least_turn_sem one h1
  have l2 := least_turn_sem other h2
  have k1 := leastTurn_len one
  unfold sbfb
  generalize leastTurn one = L at *
  generalize leastTurn other = R at *
  have body : ∀ s : Nat, s < L.length → same_but_for_begin_b1 [.pd (.list (strsL one)), .pd (.list (strsL other)), .pd (.list (strsL L)), .pd (.list (strsL R)), .pd (.int s)] = if rot L s = R then some (.rt (.pd (.int s)), [.pd (.list (strsL one)), .pd (.list (strsL other)), .pd (.list (strsL L)), .pd (.list (strsL R)), .pd (.int s)]) else some (.nx, [.pd (.list (strsL one)), .pd (.list (strsL other)), .pd (.list (strsL L)), .pd (.list (strsL R)), .pd (.int s)]) := fun s hs => by
    unfold same_but_for_begin_b1
    have t1 := turned_sem L s (by omega) (by omega)
    have q := eqP_strs (rot L s) R
    by_cases e : rot L s = R
    · rw [decide_eq_true e] at q
      rw [if_pos e]
      simp [t1, q]
    · rw [decide_eq_false e] at q
      rw [if_neg e]
      simp [t1, q]
  have go : ∀ (ns : List Nat) (d : D), (∀ s ∈ ns, s < L.length) → ∃ d', forL (.nm 4) same_but_for_begin_b1 (ns.map fun (i : Nat) => .int (i : Int)) [.pd (.list (strsL one)), .pd (.list (strsL other)), .pd (.list (strsL L)), .pd (.list (strsL R)), d] = match ns.find? fun s : Nat => decide (rot L s = R) with
      | some s => some (.rt (.pd (.int s)), [.pd (.list (strsL one)), .pd (.list (strsL other)), .pd (.list (strsL L)), .pd (.list (strsL R)), d'])
      | none => some (.nx, [.pd (.list (strsL one)), .pd (.list (strsL other)), .pd (.list (strsL L)), .pd (.list (strsL R)), d']) := by
    intro ns
    induction ns with
    | nil => exact fun d _ => ⟨d, rfl⟩
    | cons n ns ih =>
      intro d hn
      rw [List.map_cons, List.find?_cons]
      unfold forL
      rw [bind_nm, Option.bind_some]
      show ∃ d', (same_but_for_begin_b1 [_, _, _, _, _]).bind _ = _
      rw [body n (hn n (by simp))]
      by_cases e : rot L n = R
      · exact ⟨.pd (.int n), by simp [e]⟩
      · obtain ⟨d', hd⟩ := ih (.pd (.int n)) fun s hs => hn s (by simp [hs])
        exact ⟨d', by simpa [e] using hd⟩
  obtain ⟨d', G⟩ := go (List.range L.length) .hole (fun s hs => List.mem_range.mp hs)
  have Rn := rng1P_nat L.length (by omega)
  unfold same_but_for_begin_s runQ runP same_but_for_begin_d
  have nq := neP_int (L.length : Int) (R.length : Int)
  by_cases hl : L.length = R.length
  · rw [if_pos hl]
    have hl' : (L.length : Int) = (R.length : Int) := by omega
    rw [decide_eq_true hl'] at nq
    cases hf : (List.range L.length).find? fun s : Nat => decide (rot L s = R) with
    | none =>
      rw [hf] at G
      simp only [] at G
      simp [l1, l2, nq, Rn, G, encO]
    | some s =>
      rw [hf] at G
      simp only [] at G
      simp [l1, l2, nq, Rn, G, encO]
  · rw [if_neg hl]
    have hl' : ¬ (L.length : Int) = (R.length : Int) := by omega
    rw [decide_eq_false hl'] at nq
    simp [l1, l2, nq, encO]
abbrev Start := Nat × Nat
def encSt (z : Start) : P := .tuple [.int (z.1 : Int), .int (z.2 : Int)]
def encRh (rs : List (List Str)) : List P := rs.map fun r => .list (strsL r)
def startsAt (z : List Str × Nat) : List Start := (List.range (leastTurn z.1).length).map fun b => (z.2, b)
def startsOf (rs : List (List Str)) : List Start := rs.zipIdx.flatMap startsAt
theorem starts_step (p0 d4 : D) (acc : List Start) (r : List Str) (k : Nat) (hr : r.length < 1000) (ha : acc.length < 100000) (h4 : isPd d4 = true) :
    starts_of_b1 [p0, .ol (pds (acc.map encSt)), .pd (.int k), .pd (.list (strsL r)), d4] = some (.nx, [p0, .ol (pds ((acc ++ startsAt (r, k)).map encSt)), .pd (.int k), .pd (.list (strsL r)), d4]) := by
  have l := least_turn_sem r hr
  have hl := leastTurn_len r
  unfold startsAt
  generalize leastTurn r = L at *
  have Rn := rng1P_nat L.length (by omega)
  have C := dComp_map (it := dItA rng1P (dArgs [(dCall lenP (dArgs [(dCallN 1 least_turn_s (dArgs [(dV 3)]))]))])) (vs := [4]) (tg := .nm 4) (el := dTup [(dV 2), (dV 4)]) (fun i : Nat => .int (i : Int)) (fun i : Nat => encSt (k, i)) (List.range L.length)
    [p0, .ol (pds (acc.map encSt)), .pd (.int k), .pd (.list (strsL r)), d4] [p0, .ol (pds (acc.map encSt)), .pd (.int k), .pd (.list (strsL r)), d4]
    (by simp [l, Rn]) (by simp; omega) (by simp [ownOk, h4]) rfl (fun i _ => ⟨_, by simp only [bind_nm]; rfl, by simp [wipeR, encSt]⟩)
  unfold starts_of_b1
  rw [dExt_]
  simp only [C, Option.bind_some, someL_, List.getElem?_cons_succ, List.getElem?_cons_zero, if_true, pds_len, List.length_map, List.length_range]
  rw [if_pos (by omega)]
  simp [pds, Function.comp_def]
theorem startsAt_len (z : List Str × Nat) : (startsAt z).length ≤ z.1.length := by
  unfold startsAt
  rw [List.length_map, List.length_range]
  exact leastTurn_len _
theorem starts_loop (p0 : D) : ∀ (zs : List (List Str × Nat)) (acc : List Start) (d2 d3 d4 : D), (∀ z ∈ zs, z.1.length < 100) → acc.length + 100 * zs.length < 100000 → isPd d4 = true →
    ∃ e2 e3, forL (.tcons (.nm 2) (.tcons (.nm 3) .tnil)) starts_of_b1 (zs.map fun z => .tuple [.int (z.2 : Int), .list (strsL z.1)]) [p0, .ol (pds (acc.map encSt)), d2, d3, d4] = some (.nx, [p0, .ol (pds ((acc ++ zs.flatMap startsAt).map encSt)), e2, e3, d4])
  | [], acc, d2, d3, d4, _, _, _ => ⟨d2, d3, by simp⟩
  | z :: zs, acc, d2, d3, d4, hz, ha, h4 => by
    have h1 := hz z (by simp)
    have h2 := startsAt_len z
    have st := starts_step p0 d4 acc z.1 z.2 (by omega) (by simp at ha; omega) h4
    obtain ⟨e2, e3, ih⟩ := starts_loop p0 zs (acc ++ startsAt z) (.pd (.int z.2)) (.pd (.list (strsL z.1))) d4 (fun y hy => hz y (by simp [hy])) (by simp at ha ⊢; omega) h4
    refine ⟨e2, e3, ?_⟩
    rw [List.map_cons]
    unfold forL
    simp only [bind_cons, bind_nm, bind_nil, Option.bind_some, List.set_cons_succ, List.set_cons_zero]
    rw [st, Option.bind_some, List.flatMap_cons, ← List.append_assoc]
    exact ih
theorem starts_of_sem (rs : List (List Str)) (h : ∀ r ∈ rs, r.length < 100) (hn : rs.length < 900) : starts_of_s [.list (encRh rs)] = some (.list ((startsOf rs).map encSt)) := by
  obtain ⟨e2, e3, L⟩ := starts_loop (.pd (.list (encRh rs))) rs.zipIdx [] .hole .hole .hole (fun z hz => h z.1 (List.fst_mem_of_mem_zipIdx hz)) (by simp; omega) rfl
  have E : enumL 0 (encRh rs) = rs.zipIdx.map fun z => .tuple [.int (z.2 : Int), .list (strsL z.1)] := enumL_map _ rs 0
  simp only [List.map_nil, pds_nil, List.nil_append] at L
  unfold starts_of_s runQ runP starts_of_d startsOf
  generalize rs.zipIdx.flatMap startsAt = S at *
  simp [E, L]
theorem at_sem (xs : List Str) (i : Nat) (y : Str) (h : 0 < xs.length) (hy : xs[i % xs.length]? = some y) : at_s [.list (strsL xs), .int i] = some (.str y) := by
  have m := modP_pos (i := (i : Int)) (j := (xs.length : Int)) (by omega)
  rw [← Int.natCast_emod] at m
  unfold at_s runQ runP at_d
  generalize i % xs.length = z at *
  have g : atI (strsL xs) (z : Int) = some (.str y) := atI_natP (by unfold strsL; rw [List.getElem?_map, hy]; rfl)
  simp [m, g]
def encH : Option Str → P
  | none => .none
  | some x => .str x
@[simp] theorem isN_encH (b : Option Str) : isNP (encH b) = b.isNone := by cases b <;> rfl
def okAt (r : List Str) (b : Nat) (z : Option Str × Nat) : Bool := match z.1 with
  | none => true
  | some x => decide (r[(b + z.2) % r.length]? = some x)
def barOf (r : List Str) (b : Nat) (heard : List (Option Str)) : Option Nat := (heard.zipIdx.find? fun z => !okAt r b z).map (·.2)
theorem bar_of_sem (r : List Str) (b : Nat) (heard : List (Option Str)) (h : 0 < r.length) : bar_of_s [.list (strsL r), .int b, .list (heard.map encH)] = some (encO ((barOf r b heard).map fun n => (n : Int))) := by
  have body : ∀ z : Option Str × Nat, bar_of_b1 [.pd (.list (strsL r)), .pd (.int b), .pd (.list (heard.map encH)), .pd (.int z.2), .pd (encH z.1)] = if okAt r b z = true then some (.nx, [.pd (.list (strsL r)), .pd (.int b), .pd (.list (heard.map encH)), .pd (.int z.2), .pd (encH z.1)]) else some (.rt (.pd (.int z.2)), [.pd (.list (strsL r)), .pd (.int b), .pd (.list (heard.map encH)), .pd (.int z.2), .pd (encH z.1)]) := fun z => by
    obtain ⟨x, k⟩ := z
    unfold bar_of_b1 okAt
    cases x with
    | none => simp
    | some x =>
      have hlt : (b + k) % r.length < r.length := Nat.mod_lt _ h
      obtain ⟨y, e1⟩ : ∃ y, r[(b + k) % r.length]? = some y := ⟨_, List.getElem?_eq_getElem hlt⟩
      have a := at_sem r (b + k) y h e1
      rw [Int.natCast_add] at a
      have q := eqP_str y x
      rw [e1]
      by_cases e : y = x
      · rw [decide_eq_true e] at q
        simp [encH, a, neP, q, e]
      · rw [decide_eq_false e] at q
        simp [encH, a, neP, q, e]
  have go : ∀ (zs : List (Option Str × Nat)) (d3 d4 : D), ∃ e3 e4, forL (.tcons (.nm 3) (.tcons (.nm 4) .tnil)) bar_of_b1 (zs.map fun z => .tuple [.int (z.2 : Int), encH z.1]) [.pd (.list (strsL r)), .pd (.int b), .pd (.list (heard.map encH)), d3, d4] = match zs.find? (fun z => !okAt r b z) with
      | some z => some (.rt (.pd (.int z.2)), [.pd (.list (strsL r)), .pd (.int b), .pd (.list (heard.map encH)), e3, e4])
      | none => some (.nx, [.pd (.list (strsL r)), .pd (.int b), .pd (.list (heard.map encH)), e3, e4]) := by
    intro zs
    induction zs with
    | nil => exact fun d3 d4 => ⟨d3, d4, rfl⟩
    | cons z zs ih =>
      intro d3 d4
      rw [List.map_cons, List.find?_cons]
      unfold forL
      simp only [bind_cons, bind_nm, bind_nil, Option.bind_some, List.set_cons_succ, List.set_cons_zero]
      rw [body z]
      cases e : okAt r b z with
      | true =>
        obtain ⟨e3, e4, hd⟩ := ih (.pd (.int z.2)) (.pd (encH z.1))
        exact ⟨e3, e4, by simpa using hd⟩
      | false => exact ⟨.pd (.int z.2), .pd (encH z.1), by simp⟩
  obtain ⟨e3, e4, G⟩ := go heard.zipIdx .hole .hole
  have E : enumL 0 (heard.map encH) = heard.zipIdx.map fun z => .tuple [.int (z.2 : Int), encH z.1] := enumL_map _ heard 0
  unfold bar_of_s runQ runP bar_of_d barOf
  cases hf : heard.zipIdx.find? fun z => !okAt r b z with
  | none =>
    rw [hf] at G
    simp only [] at G
    simp [E, G, encO]
  | some z =>
    rw [hf] at G
    simp only [] at G
    simp [E, G, encO]
def fitStep (rs : List (List Str)) (heard : List (Option Str)) (s : List Start × List (Start × Nat)) (z : Start) : List Start × List (Start × Nat) := match barOf (rs.getD z.1 []) z.2 heard with
  | none => (s.1 ++ [z], s.2)
  | some k => (s.1, s.2 ++ [(z, k)])
def encBar (z : Start × Nat) : P := .tuple [.int (z.1.1 : Int), .int (z.1.2 : Int), .int (z.2 : Int)]
def fittingR (rs : List (List Str)) (heard : List (Option Str)) : List Start × List (Start × Nat) := (startsOf rs).foldl (fitStep rs heard) ([], [])
theorem fit_step (rs : List (List Str)) (heard : List (Option Str)) (s : List Start × List (Start × Nat)) (z : Start) (d6 : D) (r : List Str) (hr : rs[z.1]? = some r) (h0 : 0 < r.length) (ha : s.1.length < 100000) (hb : s.2.length < 100000) :
    ∃ e, fitting_b1 [.pd (.list (encRh rs)), .pd (.list (heard.map encH)), .ol (pds (s.1.map encSt)), .ol (pds (s.2.map encBar)), .pd (.int z.1), .pd (.int z.2), d6] =
      some (.nx, [.pd (.list (encRh rs)), .pd (.list (heard.map encH)), .ol (pds ((fitStep rs heard s z).1.map encSt)), .ol (pds ((fitStep rs heard s z).2.map encBar)), .pd (.int z.1), .pd (.int z.2), e]) := by
  have b := bar_of_sem r z.2 heard h0
  have g : atI (encRh rs) (z.1 : Int) = some (.list (strsL r)) := atI_natP (by unfold encRh; rw [List.getElem?_map, hr]; rfl)
  have e0 : rs.getD z.1 [] = r := by rw [List.getD_eq_getElem?_getD, hr]; rfl
  have h1 : s.1.length < 16777216 := by omega
  have h2 : s.2.length < 16777216 := by omega
  unfold fitting_b1 fitStep
  rw [e0]
  cases hB : barOf r z.2 heard with
  | none =>
    rw [hB] at b
    exact ⟨.pd .none, by simp [b, g, encO, h1, pds, encSt]⟩
  | some k =>
    rw [hB] at b
    exact ⟨.pd (.int k), by simp [b, g, encO, h2, pds, encBar]⟩
theorem fit_len (rs : List (List Str)) (heard : List (Option Str)) (s : List Start × List (Start × Nat)) (z : Start) : (fitStep rs heard s z).1.length ≤ s.1.length + 1 ∧ (fitStep rs heard s z).2.length ≤ s.2.length + 1 := by
  unfold fitStep
  split <;> simp
theorem fit_loop (rs : List (List Str)) (heard : List (Option Str)) : ∀ (zs : List Start) (s : List Start × List (Start × Nat)) (d4 d5 d6 : D), (∀ z ∈ zs, ∃ r, rs[z.1]? = some r ∧ 0 < r.length) → s.1.length + zs.length < 100000 → s.2.length + zs.length < 100000 →
    ∃ e4 e5 e6, forL (.tcons (.nm 4) (.tcons (.nm 5) .tnil)) fitting_b1 (zs.map encSt) [.pd (.list (encRh rs)), .pd (.list (heard.map encH)), .ol (pds (s.1.map encSt)), .ol (pds (s.2.map encBar)), d4, d5, d6] =
      some (.nx, [.pd (.list (encRh rs)), .pd (.list (heard.map encH)), .ol (pds ((zs.foldl (fitStep rs heard) s).1.map encSt)), .ol (pds ((zs.foldl (fitStep rs heard) s).2.map encBar)), e4, e5, e6])
  | [], s, d4, d5, d6, _, _, _ => ⟨d4, d5, d6, rfl⟩
  | z :: zs, s, d4, d5, d6, hz, h1, h2 => by
    obtain ⟨r, hr, h0⟩ := hz z (by simp)
    obtain ⟨e, st⟩ := fit_step rs heard s z d6 r hr h0 (by simp at h1; omega) (by simp at h2; omega)
    obtain ⟨l1, l2⟩ := fit_len rs heard s z
    obtain ⟨e4, e5, e6, ih⟩ := fit_loop rs heard zs (fitStep rs heard s z) (.pd (.int z.1)) (.pd (.int z.2)) e (fun y hy => hz y (by simp [hy])) (by simp at h1 ⊢; omega) (by simp at h2 ⊢; omega)
    refine ⟨e4, e5, e6, ?_⟩
    rw [List.map_cons, List.foldl_cons]
    unfold forL
    have : encSt z = .tuple [.int (z.1 : Int), .int (z.2 : Int)] := rfl
    rw [this]
    simp only [bind_cons, bind_nm, bind_nil, Option.bind_some, List.set_cons_succ, List.set_cons_zero]
    rw [st, Option.bind_some]
    exact ih
theorem startsOf_mem (rs : List (List Str)) (h : ∀ r ∈ rs, 0 < r.length) : ∀ z ∈ startsOf rs, ∃ r, rs[z.1]? = some r ∧ 0 < r.length := by
  intro z hz
  unfold startsOf at hz
  obtain ⟨w, hw, hz⟩ := List.mem_flatMap.mp hz
  unfold startsAt at hz
  obtain ⟨b, _, rfl⟩ := List.mem_map.mp hz
  have h1 := List.mem_zipIdx_iff_getElem?.mp hw
  exact ⟨w.1, h1, h w.1 (List.mem_of_getElem? h1)⟩
theorem startsOf_len (rs : List (List Str)) (h : ∀ r ∈ rs, r.length < 100) : (startsOf rs).length ≤ 100 * rs.length := by
  unfold startsOf
  have go : ∀ (zs : List (List Str × Nat)), (∀ z ∈ zs, z.1.length < 100) → (zs.flatMap startsAt).length ≤ 100 * zs.length := by
    intro zs
    induction zs with
    | nil => intro _; simp
    | cons z zs ih =>
      intro hz
      have h1 := hz z (by simp)
      have h2 := startsAt_len z
      have h3 := ih fun y hy => hz y (by simp [hy])
      rw [List.flatMap_cons, List.length_append, List.length_cons]
      omega
  have := go rs.zipIdx fun z hz => h z.1 (List.fst_mem_of_mem_zipIdx hz)
  rwa [List.length_zipIdx] at this
theorem fitting_sem (rs : List (List Str)) (heard : List (Option Str)) (h : ∀ r ∈ rs, r.length < 100 ∧ 0 < r.length) (hn : rs.length < 900) :
    fitting_s [.list (encRh rs), .list (heard.map encH)] = some (.tuple [.list ((fittingR rs heard).1.map encSt), .list ((fittingR rs heard).2.map encBar)]) := by
  have S := starts_of_sem rs (fun r hr => (h r hr).1) hn
  have hl := startsOf_len rs fun r hr => (h r hr).1
  obtain ⟨e4, e5, e6, L⟩ := fit_loop rs heard (startsOf rs) ([], []) .hole .hole .hole (startsOf_mem rs fun r hr => (h r hr).2) (by simp; omega) (by simp; omega)
  have e : List.foldl (fitStep rs heard) ([], []) (startsOf rs) = fittingR rs heard := rfl
  rw [e] at L
  generalize fittingR rs heard = fr at *
  simp only [List.map_nil, pds_nil] at L
  unfold fitting_s runQ runP fitting_d
  simp [S, L]
end
end HW

namespace HW
open PySem PySem.Spec PyProof.Rows L2
noncomputable section
/-- two rhythms sound alike k ticks on -/
def alikeAt (one other : List Str) (i j k : Nat) : Bool := decide (one[(i + k) % one.length]? = other[(j + k) % other.length]?)
def strLen (one other : List Str) (i j most : Nat) : Nat := runTo (alikeAt one other i j) most 0
theorem at_some (xs : List Str) (h : 0 < xs.length) (i : Nat) : ∃ y, xs[i % xs.length]? = some y ∧ at_s [.list (strsL xs), .int (i : Int)] = some (.str y) := by
  have hm : i % xs.length < xs.length := Nat.mod_lt _ h
  exact ⟨_, List.getElem?_eq_getElem hm, at_sem xs i _ h (List.getElem?_eq_getElem hm)⟩
theorem ltP_nat (a b : Nat) : ltP (.int (a : Int)) (.int (b : Int)) = some (decide (a < b)) := by
  rw [ltP_int]
  by_cases h : a < b
  · simp [h]
  · simp [h]
theorem stretch_from_sem (one other : List Str) (i j most : Nat) (h1 : 0 < one.length) (h2 : 0 < other.length) (hm : most < 1000000) :
    stretch_from_s [.list (strsL one), .list (strsL other), .int (i : Int), .int (j : Int), .int (most : Int)] = some (.int (strLen one other i j most : Int)) := by
  have W := dWhile_up (c := dAnd (dCmp ltP (dV 5) (dV 4)) (dCmp eqP (dCallN 2 at_s (dArgs [(dV 0), (dBin addP (dV 2) (dV 5))])) (dCallN 2 at_s (dArgs [(dV 1), (dBin addP (dV 3) (dV 5))])))) (body := stretch_from_b1)
    (fun k => [.pd (.list (strsL one)), .pd (.list (strsL other)), .pd (.int (i : Int)), .pd (.int (j : Int)), .pd (.int (most : Int)), .pd (.int (k : Int))]) (alikeAt one other i j) most
    (fun k _ => by
      obtain ⟨y, q1, e1⟩ := at_some one h1 (i + k)
      obtain ⟨z, q2, e2⟩ := at_some other h2 (j + k)
      have c1 : ((i + k : Nat) : Int) = (i : Int) + k := by omega
      have c2 : ((j + k : Nat) : Int) = (j : Int) + k := by omega
      rw [c1] at e1
      rw [c2] at e2
      have a : alikeAt one other i j k = decide (y = z) := by unfold alikeAt; rw [q1, q2]; simp
      rw [a]
      by_cases hk : k < most
      · simp [ltP_nat, hk, e1, e2]
      · simp [ltP_nat, hk])
    (fun k _ _ => by
      unfold stretch_from_b1
      simp) hm
  rw [show (((0 : Nat) : Int)) = 0 from rfl] at W
  unfold stretch_from_s runQ runP stretch_from_d
  simp [W, strLen]
theorem bound_for_sem (one other : List Str) (h1 : one.length < 1000) (h2 : other.length < 1000) : bound_for_s [.list (strsL one), .list (strsL other)] = some (.int (((leastTurn one).length + (leastTurn other).length : Nat) : Int)) := by
  have l1 := least_turn_sem one h1
  have l2 := least_turn_sem other h2
  unfold bound_for_s runQ runP bound_for_d
  simp [l1, l2]
/-- the longest stretch: length, and where it begins -/
abbrev Best := Nat × Nat × Nat
def bestStep (one other : List Str) (most i : Nat) (b : Best) (j : Nat) : Best := if strLen one other i j most > b.1 then (strLen one other i j most, i, j) else b
def bestAll (one other : List Str) (n m most : Nat) : Best := (List.range n).foldl (fun b i => (List.range m).foldl (bestStep one other most i) b) (0, 0, 0)
def encBest (b : Best) : P := .tuple [.int (b.1 : Int), .int (b.2.1 : Int), .int (b.2.2 : Int)]
def commonR (one other : List Str) : Nat ⊕ Best := match sbfb one other with
  | some b => .inl b
  | none => .inr (bestAll one other (leastTurn one).length (leastTurn other).length ((leastTurn one).length + (leastTurn other).length))
def encCommon : Nat ⊕ Best → P
  | .inl b => .tuple [.str "same", .int (b : Int)]
  | .inr b => .tuple [.str "longest", .int (b.1 : Int), .int (b.2.1 : Int), .int (b.2.2 : Int)]
section
variable {one other : List Str} {most : Nat}
theorem common_in (h1 : 0 < one.length) (h2 : 0 < other.length) (hm : most < 1000000) (d2 d5 : D) (i : Nat) : ∀ (js : List Nat) (b : Best) (d6 d7 : D), ∃ e6 e7, forL (.nm 6) common_b1 (js.map fun j : Nat => .int (j : Int)) [.pd (.list (strsL one)), .pd (.list (strsL other)), d2, .pd (encBest b), .pd (.int (most : Int)), .pd (.int (i : Int)), d6, d7] =
    some (.nx, [.pd (.list (strsL one)), .pd (.list (strsL other)), d2, .pd (encBest (js.foldl (bestStep one other most i) b)), .pd (.int (most : Int)), .pd (.int (i : Int)), e6, e7])
  | [], b, d6, d7 => ⟨d6, d7, rfl⟩
  | j :: js, b, d6, d7 => by
    have s := stretch_from_sem one other i j most h1 h2 hm
    have e1 : common_b1 [.pd (.list (strsL one)), .pd (.list (strsL other)), d2, .pd (encBest b), .pd (.int (most : Int)), .pd (.int (i : Int)), .pd (.int (j : Int)), d7] =
        some (.nx, [.pd (.list (strsL one)), .pd (.list (strsL other)), d2, .pd (encBest (bestStep one other most i b j)), .pd (.int (most : Int)), .pd (.int (i : Int)), .pd (.int (j : Int)), .pd (.int (strLen one other i j most : Int))]) := by
      unfold common_b1 bestStep
      by_cases hb : strLen one other i j most > b.1
      · have hb' : ((b.1 : Int) < (strLen one other i j most : Int)) := by omega
        simp [s, encBest, hb, hb']
      · have hb' : ¬ ((b.1 : Int) < (strLen one other i j most : Int)) := by omega
        simp [s, encBest, hb, hb']
    obtain ⟨e6, e7, e2⟩ := common_in h1 h2 hm d2 d5 i js (bestStep one other most i b j) (.pd (.int (j : Int))) (.pd (.int (strLen one other i j most : Int)))
    refine ⟨e6, e7, ?_⟩
    rw [List.map_cons, List.foldl_cons]
    unfold forL
    rw [bind_nm, Option.bind_some]
    show (common_b1 [_, _, _, _, _, _, _, _]).bind _ = _
    rw [e1, Option.bind_some]
    exact e2
theorem common_out (h1 : 0 < one.length) (h2 : 0 < other.length) (l2 : other.length < 1000) (hm : most < 1000000) (d2 : D) : ∀ (is : List Nat) (b : Best) (d5 d6 d7 : D), ∃ e5 e6 e7, forL (.nm 5) common_b2 (is.map fun i : Nat => .int (i : Int)) [.pd (.list (strsL one)), .pd (.list (strsL other)), d2, .pd (encBest b), .pd (.int (most : Int)), d5, d6, d7] =
    some (.nx, [.pd (.list (strsL one)), .pd (.list (strsL other)), d2, .pd (encBest (is.foldl (fun b i => (List.range (leastTurn other).length).foldl (bestStep one other most i) b) b)), .pd (.int (most : Int)), e5, e6, e7])
  | [], b, d5, d6, d7 => ⟨d5, d6, d7, rfl⟩
  | i :: is, b, d5, d6, d7 => by
    have lt := least_turn_sem other l2
    have ll := leastTurn_len other
    have r1 := rng1P_nat (leastTurn other).length (by omega)
    obtain ⟨e6, e7, e1⟩ := common_in h1 h2 hm d2 d5 i (List.range (leastTurn other).length) b d6 d7
    obtain ⟨e5', e6', e7', e2⟩ := common_out h1 h2 l2 hm d2 is ((List.range (leastTurn other).length).foldl (bestStep one other most i) b) (.pd (.int (i : Int))) e6 e7
    refine ⟨e5', e6', e7', ?_⟩
    rw [List.map_cons, List.foldl_cons]
    unfold forL
    rw [bind_nm, Option.bind_some]
    show (common_b2 [_, _, _, _, _, _, _, _]).bind _ = _
    have e0 : common_b2 [.pd (.list (strsL one)), .pd (.list (strsL other)), d2, .pd (encBest b), .pd (.int (most : Int)), .pd (.int (i : Int)), d6, d7] = some (.nx, [.pd (.list (strsL one)), .pd (.list (strsL other)), d2, .pd (encBest ((List.range (leastTurn other).length).foldl (bestStep one other most i) b)), .pd (.int (most : Int)), .pd (.int (i : Int)), e6, e7]) := by
      unfold common_b2
      rw [dFor_]
      have e3 : dItA rng1P (dArgs [(dCall lenP (dArgs [(dCallN 1 least_turn_s (dArgs [(dV 1)]))]))]) [.pd (.list (strsL one)), .pd (.list (strsL other)), d2, .pd (encBest b), .pd (.int (most : Int)), .pd (.int (i : Int)), d6, d7] = some ((List.range (leastTurn other).length).map fun j : Nat => .int (j : Int), [.pd (.list (strsL one)), .pd (.list (strsL other)), d2, .pd (encBest b), .pd (.int (most : Int)), .pd (.int (i : Int)), d6, d7]) := by
        simp [lt, r1]
      rw [e3]
      exact e1
    rw [e0, Option.bind_some]
    exact e2
end
theorem common_sem (one other : List Str) (h1 : 0 < one.length) (h2 : 0 < other.length) (l1 : one.length < 1000) (l2 : other.length < 1000) : common_s [.list (strsL one), .list (strsL other)] = some (encCommon (commonR one other)) := by
  have s := same_but_for_begin_sem one other l1 l2
  have b := bound_for_sem one other l1 l2
  have ll := leastTurn_len other
  have ll1 := leastTurn_len one
  have lt := least_turn_sem one l1
  have r1 := rng1P_nat (leastTurn one).length (by omega)
  unfold common_s runQ runP common_d commonR
  cases e : sbfb one other with
  | some n =>
    rw [e] at s
    simp [s, encO, encCommon]
  | none =>
    rw [e] at s
    obtain ⟨e5, e6, e7, L⟩ := common_out (one := one) (other := other) (most := (leastTurn one).length + (leastTurn other).length) h1 h2 l2 (by omega) (.pd .none) (List.range (leastTurn one).length) (0, 0, 0) .hole .hole .hole
    have eb : encBest (0, 0, 0) = .tuple [.int 0, .int 0, .int 0] := rfl
    rw [eb] at L
    have ap : ∀ xs : List P, xs.length < 1000 → addP (.tuple [.str "longest"]) (.tuple xs) = some (.tuple (.str "longest" :: xs)) := fun xs hx => by
      show (if _ then _ else _) = _
      rw [if_pos (by simp; omega)]
      rfl
    simp only [bestAll, encCommon]
    generalize List.foldl (fun b i => List.foldl (bestStep one other ((leastTurn one).length + (leastTurn other).length) i) b (List.range (leastTurn other).length)) (0, 0, 0) (List.range (leastTurn one).length) = z at *
    have ap2 := ap [.int (z.1 : Int), .int (z.2.1 : Int), .int (z.2.2 : Int)] (by simp)
    simp at L b
    simp [s, encO, b, lt, r1, L, encBest, ap2]
end
end HW

namespace HW
open PySem PySem.Spec PyProof.Rows L2
noncomputable section
/-! ### told_apart -/
def goodAt (time : Int) (one other : List Str) : Bool := match commonR one other with
  | .inl _ => false
  | .inr b => decide ((b.1 : Int) < time)
def boolsL (bs : List Bool) : List P := bs.map .bool
def encGood (g : List (List Bool)) : List P := g.map fun row => .list (boolsL row)
def goodOf (rs : List (List Str)) (time : Int) : List (List Bool) := rs.map fun one => rs.map fun other => goodAt time one other
def RhOk (rs : List (List Str)) : Prop := ∀ r ∈ rs, 0 < r.length ∧ r.length < 1000
theorem told_b1 {rs : List (List Str)} {time : Int} {one other : List Str} (ho : 0 < one.length ∧ one.length < 1000) (h2 : 0 < other.length ∧ other.length < 1000) (acc : List (List Bool)) (row : List Bool) (hr : row.length < 1000) (d6 : D) :
    ∃ e6, told_apart_b1 [.pd (.list (encRh rs)), .pd (.int time), .ol (pds (encGood acc)), .pd (.list (strsL one)), .ol (pds (boolsL row)), .pd (.list (strsL other)), d6] =
      some (.nx, [.pd (.list (encRh rs)), .pd (.int time), .ol (pds (encGood acc)), .pd (.list (strsL one)), .ol (pds (boolsL (row ++ [goodAt time one other]))), .pd (.list (strsL other)), e6]) := by
  have c := common_sem one other ho.1 h2.1 ho.2 h2.2
  refine ⟨.pd (encCommon (commonR one other)), ?_⟩
  have hz : row.length < 16777216 := by omega
  have e : pds (boolsL (row ++ [goodAt time one other])) = pds (boolsL row) ++ [.pd (.bool (goodAt time one other))] := by simp [boolsL, pds]
  rw [e]
  have hl : (boolsL row).length = row.length := by simp [boolsL]
  unfold told_apart_b1 goodAt
  cases hc : commonR one other with
  | inl n =>
    rw [hc] at c
    have ne : ¬ (Str.ofString "same" = Str.ofString "longest") := by decide
    simp [c, encCommon, hl, hz, ne]
  | inr b =>
    rw [hc] at c
    simp [c, encCommon, hl, hz]
theorem told_in {rs : List (List Str)} {time : Int} {one : List Str} (ho : 0 < one.length ∧ one.length < 1000) (acc : List (List Bool)) : ∀ (os : List (List Str)) (row : List Bool) (d5 d6 : D), RhOk os → row.length + os.length < 1000 →
    ∃ e5 e6, forL (.nm 5) told_apart_b1 (os.map fun r => .list (strsL r)) [.pd (.list (encRh rs)), .pd (.int time), .ol (pds (encGood acc)), .pd (.list (strsL one)), .ol (pds (boolsL row)), d5, d6] =
      some (.nx, [.pd (.list (encRh rs)), .pd (.int time), .ol (pds (encGood acc)), .pd (.list (strsL one)), .ol (pds (boolsL (row ++ os.map (goodAt time one)))), e5, e6])
  | [], row, d5, d6, _, _ => ⟨d5, d6, by simp⟩
  | o :: os, row, d5, d6, h, hl => by
    rw [List.length_cons] at hl
    obtain ⟨z6, e1⟩ := told_b1 (rs := rs) (time := time) ho (h o (by simp)) acc row (by omega) d6
    obtain ⟨e5, e6, e2⟩ := told_in ho acc os (row ++ [goodAt time one o]) (.pd (.list (strsL o))) z6 (fun r hr => h r (by simp [hr])) (by simp; omega)
    refine ⟨e5, e6, ?_⟩
    rw [List.map_cons]
    unfold forL
    rw [bind_nm, Option.bind_some]
    show (told_apart_b1 [_, _, _, _, _, _, _]).bind _ = _
    rw [e1, Option.bind_some]
    have e : row ++ (o :: os).map (goodAt time one) = (row ++ [goodAt time one o]) ++ os.map (goodAt time one) := by simp
    rw [e]
    exact e2
theorem told_out {rs : List (List Str)} {time : Int} (hr : RhOk rs) (hn : rs.length < 900) : ∀ (os : List (List Str)) (acc : List (List Bool)) (d3 d4 d5 d6 : D), RhOk os → acc.length + os.length < 1000 →
    ∃ e3 e4 e5 e6, forL (.nm 3) told_apart_b2 (os.map fun r => .list (strsL r)) [.pd (.list (encRh rs)), .pd (.int time), .ol (pds (encGood acc)), d3, d4, d5, d6] =
      some (.nx, [.pd (.list (encRh rs)), .pd (.int time), .ol (pds (encGood (acc ++ os.map fun one => rs.map (goodAt time one)))), e3, e4, e5, e6])
  | [], acc, d3, d4, d5, d6, _, _ => ⟨d3, d4, d5, d6, by simp⟩
  | o :: os, acc, d3, d4, d5, d6, h, hl => by
    rw [List.length_cons] at hl
    obtain ⟨z5, z6, e1⟩ := told_in (rs := rs) (time := time) (h o (by simp)) acc rs [] d5 d6 hr (by simp; omega)
    rw [List.nil_append] at e1
    obtain ⟨e3, e4, e5, e6, e2⟩ := told_out hr hn os (acc ++ [rs.map (goodAt time o)]) (.pd (.list (strsL o))) (.pd (.list (boolsL (rs.map (goodAt time o))))) z5 z6 (fun r hr => h r (by simp [hr])) (by simp; omega)
    refine ⟨e3, e4, e5, e6, ?_⟩
    rw [List.map_cons]
    unfold forL
    rw [bind_nm, Option.bind_some]
    show (told_apart_b2 [_, _, _, _, _, _, _]).bind _ = _
    have e0 : told_apart_b2 [.pd (.list (encRh rs)), .pd (.int time), .ol (pds (encGood acc)), .pd (.list (strsL o)), d4, d5, d6] = some (.nx, [.pd (.list (encRh rs)), .pd (.int time), .ol (pds (encGood (acc ++ [rs.map (goodAt time o)]))), .pd (.list (strsL o)), .pd (.list (boolsL (rs.map (goodAt time o)))), z5, z6]) := by
      unfold told_apart_b2
      rw [seq_nx (ρ1 := [.pd (.list (encRh rs)), .pd (.int time), .ol (pds (encGood acc)), .pd (.list (strsL o)), .ol (pds (boolsL [])), d5, d6]) rfl, seq_nx (ρ1 := [.pd (.list (encRh rs)), .pd (.int time), .ol (pds (encGood acc)), .pd (.list (strsL o)), .ol (pds (boolsL (rs.map (goodAt time o)))), z5, z6])]
      · have hz : acc.length < 16777216 := by omega
        have el : (encGood acc).length = acc.length := by simp [encGood]
        have e : pds (encGood (acc ++ [rs.map (goodAt time o)])) = pds (encGood acc) ++ [.pd (.list (boolsL (rs.map (goodAt time o))))] := by simp [encGood, pds]
        rw [e]
        simp [el, hz]
      · rw [dFor_]
        exact e1
    rw [e0, Option.bind_some]
    have e : acc ++ (o :: os).map (fun one => rs.map (goodAt time one)) = (acc ++ [rs.map (goodAt time o)]) ++ os.map fun one => rs.map (goodAt time one) := by simp
    rw [e]
    exact e2
theorem told_apart_sem (rs : List (List Str)) (time : Int) (hr : RhOk rs) (hn : rs.length < 900) : told_apart_s [.list (encRh rs), .int time] = some (.list (encGood (goodOf rs time))) := by
  obtain ⟨e3, e4, e5, e6, L⟩ := told_out (time := time) hr hn rs [] .hole .hole .hole .hole hr (by simp; omega)
  rw [List.nil_append] at L
  have E : encRh rs = rs.map fun r => .list (strsL r) := rfl
  have n0 : pds (encGood []) = [] := rfl
  rw [n0] at L
  unfold told_apart_s runQ runP told_apart_d goodOf
  rw [← E] at L
  simp [L]
/-! ### clash_with -/
def encPr (z : Nat × Nat) : P := .tuple [.int (z.1 : Int), .int (z.2 : Int)]
def natsL (xs : List Nat) : List P := xs.map fun n : Nat => .int (n : Int)
def gAt (good : List (List Bool)) (a b : Nat) : Bool := (good.getD a []).getD b true
def clashAt (near : List (Nat × Nat)) (good : List (List Bool)) (choice : List Nat) (mark rhythm one : Nat) : Bool := (near.contains (one, mark) || near.contains (mark, one)) && !gAt good (choice.getD one 0) rhythm
def clash (near : List (Nat × Nat)) (good : List (List Bool)) (choice : List Nat) (mark rhythm : Nat) : Option Nat := (List.range mark).find? (clashAt near good choice mark rhythm)
theorem eqv_pr (a b : Nat × Nat) : PyData.eqv (encPr a) (encPr b) = (a == b) := by
  obtain ⟨a1, a2⟩ := a
  obtain ⟨b1, b2⟩ := b
  rw [Bool.eq_iff_iff]
  simp [encPr, PyData.eqv, PyData.eqvAll]
  exact ⟨fun h => by omega, fun h => by omega⟩
theorem inP_pr (near : List (Nat × Nat)) (a b : Nat) : inP (.tuple [.int (a : Int), .int (b : Int)]) (.list (near.map encPr)) = some (near.contains (a, b)) := by
  have e : inP (.tuple [.int (a : Int), .int (b : Int)]) (.list (near.map encPr)) = if Nat.ble (min (PyData.depthAll (near.map encPr)) (PyData.tuple [.int (a : Int), .int (b : Int)]).depth) 100 then some ((near.map encPr).any fun z => PyData.eqv z (encPr (a, b))) else none := rfl
  have hd : (PyData.tuple [.int (a : Int), .int (b : Int)]).depth = 1 := by simp [PyData.depth, PyData.depthAll]
  rw [e, hd, if_pos (Nat.ble_eq_true_of_le (by omega)), List.any_map]
  congr 1
  rw [List.contains_eq_any_beq]
  congr 1
  funext z
  simp only [Function.comp_def, eqv_pr]
  exact Bool.beq_comm
structure GoodM (good : List (List Bool)) (n : Nat) : Prop where
  len : good.length = n
  row : ∀ r ∈ good, r.length = n
theorem GoodM.at {good : List (List Bool)} {n a b : Nat} (g : GoodM good n) (ha : a < n) (hb : b < n) : ∃ row, good[a]? = some row ∧ row[b]? = some (gAt good a b) := by
  have h1 : a < good.length := by rw [g.len]; exact ha
  have h2 : b < (good[a]).length := by rw [g.row _ (List.getElem_mem h1)]; exact hb
  refine ⟨good[a], List.getElem?_eq_getElem h1, ?_⟩
  unfold gAt
  simp [List.getD, h1, h2]
theorem clash_with_sem {near : List (Nat × Nat)} {good : List (List Bool)} {choice : List Nat} {n mark rhythm : Nat} (g : GoodM good n) (hc : ∀ c ∈ choice, c < n) (hm : mark ≤ choice.length) (hl : choice.length < 1000) (hr : rhythm < n) :
    clash_with_s [.list (near.map encPr), .list (encGood good), .list (natsL choice), .int (mark : Int), .int (rhythm : Int)] = some (encO ((clash near good choice mark rhythm).map fun n : Nat => (n : Int))) := by
  have body : ∀ one, one < mark → clash_with_b1 [.pd (.list (near.map encPr)), .pd (.list (encGood good)), .pd (.list (natsL choice)), .pd (.int (mark : Int)), .pd (.int (rhythm : Int)), .pd (.int (one : Int))] =
      if clashAt near good choice mark rhythm one = true then some (.rt (.pd (.int (one : Int))), [.pd (.list (near.map encPr)), .pd (.list (encGood good)), .pd (.list (natsL choice)), .pd (.int (mark : Int)), .pd (.int (rhythm : Int)), .pd (.int (one : Int))])
      else some (.nx, [.pd (.list (near.map encPr)), .pd (.list (encGood good)), .pd (.list (natsL choice)), .pd (.int (mark : Int)), .pd (.int (rhythm : Int)), .pd (.int (one : Int))]) := fun one ho => by
    have h1 : one < choice.length := by omega
    obtain ⟨row, q1, q2⟩ := g.at (hc _ (List.getElem_mem h1)) hr
    have a1 : atI (natsL choice) (one : Int) = some (.int (choice[one] : Int)) := atI_natP (by simp [natsL, h1])
    have a2 : atI (encGood good) (choice[one] : Int) = some (.list (boolsL row)) := atI_natP (by simp [encGood, q1])
    have a3 : atI (boolsL row) (rhythm : Int) = some (.bool (gAt good choice[one] rhythm)) := atI_natP (by simp [boolsL, q2])
    have p1 := inP_pr near one mark
    have p2 := inP_pr near mark one
    have ed : choice.getD one 0 = choice[one] := by simp [List.getD, h1]
    unfold clash_with_b1 clashAt
    rw [ed]
    generalize gAt good choice[one] rhythm = gg at *
    cases hn1 : near.contains (one, mark) <;> cases hn2 : near.contains (mark, one) <;> cases gg <;> rw [hn1] at p1 <;> rw [hn2] at p2 <;> simp [p1, p2, a1, a2, a3]
  have go : ∀ (os : List Nat) (d5 : D), (∀ o ∈ os, o < mark) → (∃ e5, forL (.nm 5) clash_with_b1 (os.map fun i : Nat => .int (i : Int)) [.pd (.list (near.map encPr)), .pd (.list (encGood good)), .pd (.list (natsL choice)), .pd (.int (mark : Int)), .pd (.int (rhythm : Int)), d5] =
      match os.find? (clashAt near good choice mark rhythm) with
      | some o => some (.rt (.pd (.int (o : Int))), e5)
      | none => some (.nx, e5)) := by
    intro os
    induction os with
    | nil => exact fun d5 _ => ⟨_, rfl⟩
    | cons o os ih =>
      intro d5 h
      rw [List.map_cons, List.find?_cons]
      unfold forL
      rw [bind_nm, Option.bind_some]
      show ∃ e5, (clash_with_b1 [_, _, _, _, _, _]).bind _ = _
      rw [body o (h o (by simp))]
      cases e : clashAt near good choice mark rhythm o with
      | true => exact ⟨_, rfl⟩
      | false =>
        obtain ⟨e5, he⟩ := ih (.pd (.int (o : Int))) fun x hx => h x (by simp [hx])
        exact ⟨e5, he⟩
  obtain ⟨e5, G⟩ := go (List.range mark) .hole fun o ho => List.mem_range.mp ho
  have r1 := rng1P_nat mark (by omega)
  unfold clash_with_s runQ runP clash_with_d clash
  cases hf : (List.range mark).find? (clashAt near good choice mark rhythm) with
  | none =>
    rw [hf] at G
    simp only [] at G
    simp [r1, G, encO]
  | some o =>
    rw [hf] at G
    simp only [] at G
    simp [r1, G, encO]
end
end HW

namespace HW
open PySem PySem.Spec PyProof.Rows L2
noncomputable section
/-! ### Giving -/
/-- what is asked: how many marks, which are near, which rhythms are told apart, what they cost -/
structure Pb where
  count : Nat
  near : List (Nat × Nat)
  good : List (List Bool)
  costs : List Int
abbrev Bst := Option (Int × List Nat)
def encBst : Bst → P
  | none => .none
  | some (c, ch) => .tuple [.int c, .list (natsL ch)]
def gvD (pb : Pb) (limit places : Int) (best : Bst) : D := .ob "Giving" [("count", .pd (.int (pb.count : Int))), ("near", .pd (.list (pb.near.map encPr))), ("good", .pd (.list (encGood pb.good))), ("costs", .pd (.list (intsL pb.costs))), ("limit", .pd (.int limit)), ("places", .pd (.int places)), ("best", .pd (encBst best))]
theorem init_sem (pb : Pb) (limit : Int) : Giving_init_s (.ob "Giving" []) [.int (pb.count : Int), .list (pb.near.map encPr), .list (encGood pb.good), .list (intsL pb.costs), .int limit] = some (gvD pb limit 0 none, .pd .none) := rfl
theorem step_sem (pb : Pb) (limit places : Int) (best : Bst) (h : places + 1 ≤ limit) : Giving_step_s (gvD pb limit places best) [] = some (gvD pb limit (places + 1) best, .pd .none) := by
  have h' : ¬ limit < places + 1 := by omega
  unfold Giving_step_s runM Giving_step_d
  rw [seq_nx (ρ1 := [gvD pb limit (places + 1) best]) rfl]
  have q : dCmp gtP (dFld 0 "places") (dFld 0 "limit") [gvD pb limit (places + 1) best] = some (decide (limit < places + 1), [gvD pb limit (places + 1) best]) := rfl
  rw [dIfS_, q, decide_eq_false h']
  rfl
def pruned (b : Bst) (cost : Int) : Bool := match b with
  | some (c, _) => decide (c ≤ cost)
  | none => false
abbrev GS := Int × Bst
def goR (pb : Pb) : Nat → List Nat → Int → GS → GS
  | 0, choice, cost, s => if pruned s.2 cost then (s.1 + 1, s.2) else (s.1 + 1, some (cost, choice))
  | d + 1, choice, cost, s => if pruned s.2 cost then (s.1 + 1, s.2) else
    (List.range pb.costs.length).foldl (fun s r => if (clash pb.near pb.good choice choice.length r).isNone then goR pb d (choice ++ [r]) (cost + pb.costs.getD r 0) s else s) (s.1 + 1, s.2)
def nodes (n : Nat) : Nat → Int
  | 0 => 1
  | d + 1 => 1 + n * nodes n d
theorem nodes_pos (n : Nat) : ∀ d, 1 ≤ nodes n d
  | 0 => Int.le_refl _
  | d + 1 => by
    have := nodes_pos n d
    have h : (0 : Int) ≤ n * nodes n d := Int.mul_nonneg (by omega) (by omega)
    show 1 ≤ 1 + (n : Int) * nodes n d
    omega
theorem go_places (pb : Pb) : ∀ (d : Nat) (choice : List Nat) (cost : Int) (s : GS), (goR pb d choice cost s).1 ≤ s.1 + nodes pb.costs.length d
  | 0, choice, cost, s => by
    unfold goR nodes
    split <;> exact Int.le_refl _
  | d + 1, choice, cost, s => by
    unfold goR nodes
    have np := nodes_pos pb.costs.length d
    split
    · have h : (0 : Int) ≤ (pb.costs.length : Int) * nodes pb.costs.length d := Int.mul_nonneg (by omega) (by omega)
      show s.1 + 1 ≤ _
      omega
    · have go : ∀ (rs : List Nat) (s : GS), (rs.foldl (fun s r => if (clash pb.near pb.good choice choice.length r).isNone then goR pb d (choice ++ [r]) (cost + pb.costs.getD r 0) s else s) s).1 ≤ s.1 + rs.length * nodes pb.costs.length d := by
        intro rs
        induction rs with
        | nil => intro s; simp
        | cons r rs ih =>
          intro s
          rw [List.foldl_cons]
          refine Int.le_trans (ih _) ?_
          have e : (((r :: rs).length : Nat) : Int) * nodes pb.costs.length d = (rs.length : Int) * nodes pb.costs.length d + nodes pb.costs.length d := by
            rw [List.length_cons, Int.natCast_add, Int.add_mul]
            simp
          rw [e]
          split
          · have := go_places pb d (choice ++ [r]) (cost + pb.costs.getD r 0) s
            omega
          · omega
      have := go (List.range pb.costs.length) (s.1 + 1, s.2)
      rw [List.length_range] at this
      refine Int.le_trans this ?_
      show s.1 + 1 + _ ≤ _
      omega
structure PbOk (pb : Pb) : Prop where
  good : GoodM pb.good pb.costs.length
  few : pb.costs.length < 100
  cnt : pb.count < 100
section
variable {pb : Pb} {limit places : Int} {best : Bst} {ρ : Sl}
theorem fld_best : dFld 0 "best" (gvD pb limit places best :: ρ) = some (encBst best, gvD pb limit places best :: ρ) := rfl
theorem fld_near : dFld 0 "near" (gvD pb limit places best :: ρ) = some (.list (pb.near.map encPr), gvD pb limit places best :: ρ) := rfl
theorem fld_good : dFld 0 "good" (gvD pb limit places best :: ρ) = some (.list (encGood pb.good), gvD pb limit places best :: ρ) := rfl
theorem fld_costs : dFld 0 "costs" (gvD pb limit places best :: ρ) = some (.list (intsL pb.costs), gvD pb limit places best :: ρ) := rfl
theorem fld_count : dFld 0 "count" (gvD pb limit places best :: ρ) = some (.int (pb.count : Int), gvD pb limit places best :: ρ) := rfl
theorem meth_gv {n : Nat} {m : Str} {fd : D → List P → Option (D × D)} {e : EL} {ps : List P} {d1 d2 : D} (hm : (m == ("count" : Str)) = false ∧ (m == ("near" : Str)) = false ∧ (m == ("good" : Str)) = false ∧ (m == ("costs" : Str)) = false ∧ (m == ("limit" : Str)) = false ∧ (m == ("places" : Str)) = false ∧ (m == ("best" : Str)) = false)
    (he : e (gvD pb limit places best :: ρ) = some (ps, gvD pb limit places best :: ρ)) (hn : ps.length = n) (hf : fd (gvD pb limit places best) ps = some (d1, d2)) : dMeth n 0 m fd e (gvD pb limit places best :: ρ) = some (d2, d1 :: ρ) := by
  have lk : ∃ fs, gvD pb limit places best = .ob "Giving" fs ∧ (fs.lookup m).isNone = true := by
    refine ⟨_, rfl, ?_⟩
    obtain ⟨h1, h2, h3, h4, h5, h6, h7⟩ := hm
    simp only [List.lookup, h1, h2, h3, h4, h5, h6, h7]
    rfl
  obtain ⟨fs, f1, f2⟩ := lk
  rw [f1] at he hf ⊢
  rw [dMeth_]
  show (if (fs.lookup m).isNone = true then _ else _) = _
  rw [if_pos f2, he, Option.bind_some]
  dsimp only
  rw [if_pos hn]
  show ((fd (.ob "Giving" fs) ps).map _) = _
  rw [hf]
  rfl
end
theorem prune_ev (pb : Pb) (limit places : Int) (best : Bst) (p1 : D) (cost : Int) (d3 : D) : dAnd (dNot (dIsN (dFld 0 "best"))) (dCmp geP (dV 2) (dBin idxP (dFld 0 "best") (dC (.int 0)))) [gvD pb limit places best, p1, .pd (.int cost), d3] = some (pruned best cost, [gvD pb limit places best, p1, .pd (.int cost), d3]) := by
  rw [dAnd_, dNot_, dIsN_, fld_best]
  cases best with
  | none => rfl
  | some b =>
    obtain ⟨c, ch⟩ := b
    have e2 : dBin idxP (dFld 0 "best") (dC (.int 0)) [gvD pb limit places (some (c, ch)), p1, .pd (.int cost), d3] = some (.int c, [gvD pb limit places (some (c, ch)), p1, .pd (.int cost), d3]) := by
      rw [dBin_, fld_best, Option.bind_some, dC_, Option.bind_some]
      show ((atI [PyData.int c, .list (natsL ch)] 0).map _) = _
      rw [atI_zero]
      rfl
    have e1 : dCmp geP (dV 2) (dBin idxP (dFld 0 "best") (dC (.int 0))) [gvD pb limit places (some (c, ch)), p1, .pd (.int cost), d3] = some (decide (c ≤ cost), [gvD pb limit places (some (c, ch)), p1, .pd (.int cost), d3]) := by
      have e3 : dV 2 [gvD pb limit places (some (c, ch)), p1, .pd (.int cost), d3] = some (.int cost, [gvD pb limit places (some (c, ch)), p1, .pd (.int cost), d3]) := rfl
      rw [dCmp_, e3, Option.bind_some]
      dsimp only
      rw [e2]
      rfl
    rw [Option.map_some]
    dsimp only
    show (if (!false) = true then dCmp geP (dV 2) (dBin idxP (dFld 0 "best") (dC (.int 0))) [gvD pb limit places (some (c, ch)), p1, .pd (.int cost), d3] else some (false, [gvD pb limit places (some (c, ch)), p1, .pd (.int cost), d3])) = _
    rw [if_pos (by decide), e1]
    rfl
theorem nats_app (a b : List Nat) : natsL a ++ natsL b = natsL (a ++ b) := by simp [natsL]
theorem go_sem (pb : Pb) (ok : PbOk pb) (limit : Int) : ∀ (d fuel : Nat) (choice : List Nat) (cost : Int) (s : GS), choice.length + d = pb.count → d < fuel → (∀ c ∈ choice, c < pb.costs.length) → s.1 + nodes pb.costs.length d ≤ limit →
    Giving_go_s fuel (gvD pb limit s.1 s.2) [.list (natsL choice), .int cost] = some (gvD pb limit (goR pb d choice cost s).1 (goR pb d choice cost s).2, .pd .none)
  | d, 0, choice, cost, s, _, hf, _, _ => by omega
  | 0, fuel + 1, choice, cost, s, hd, hf, hch, hl => by
    have st := step_sem pb limit s.1 s.2 (by unfold nodes at hl; omega)
    have pr := prune_ev pb limit (s.1 + 1) s.2 (.pd (.list (natsL choice))) cost .hole
    have hlen : (natsL choice).length = pb.count := by simp [natsL]; omega
    show (match Giving_go_d (Giving_go_s fuel) [gvD pb limit s.1 s.2, .pd (.list (natsL choice)), .pd (.int cost), .hole] with | some (.rt d, d1 :: _) => some (d1, d) | some (.nx, d1 :: _) => some (d1, .pd .none) | _ => none) = _
    unfold Giving_go_d
    rw [seq_nx (ρ1 := [gvD pb limit (s.1 + 1) s.2, .pd (.list (natsL choice)), .pd (.int cost), .hole]) (by
      rw [dDo_, meth_gv (n := 0) (ps := []) (by decide) rfl rfl st]
      rfl)]
    unfold goR
    cases hp : pruned s.2 cost with
    | true =>
      rw [hp] at pr
      rw [dSeq_, dIfS_, pr]
      rfl
    | false =>
      rw [hp] at pr
      rw [seq_nx (ρ1 := [gvD pb limit (s.1 + 1) s.2, .pd (.list (natsL choice)), .pd (.int cost), .hole]) (by rw [dIfS_, pr]; rfl)]
      have q : dCmp eqP (dCall lenP (dArgs [(dV 1)])) (dFld 0 "count") [gvD pb limit (s.1 + 1) s.2, .pd (.list (natsL choice)), .pd (.int cost), .hole] = some (true, [gvD pb limit (s.1 + 1) s.2, .pd (.list (natsL choice)), .pd (.int cost), .hole]) := by
        have e : dCall lenP (dArgs [(dV 1)]) [gvD pb limit (s.1 + 1) s.2, .pd (.list (natsL choice)), .pd (.int cost), .hole] = some (.int ((natsL choice).length : Int), [gvD pb limit (s.1 + 1) s.2, .pd (.list (natsL choice)), .pd (.int cost), .hole]) := rfl
        rw [dCmp_, e, Option.bind_some]
        dsimp only
        rw [fld_count, Option.bind_some]
        dsimp only
        rw [hlen, eqP_int]
        simp
      rw [dSeq_, dIfS_, q]
      rfl
  | d + 1, fuel + 1, choice, cost, s, hd, hf, hch, hl => by
    have np := nodes_pos pb.costs.length d
    have hn0 : (0 : Int) ≤ (pb.costs.length : Int) * nodes pb.costs.length d := Int.mul_nonneg (by omega) (by omega)
    have hl' : s.1 + 1 + (pb.costs.length : Int) * nodes pb.costs.length d ≤ limit := by unfold nodes at hl; omega
    have st := step_sem pb limit s.1 s.2 (by omega)
    have pr := prune_ev pb limit (s.1 + 1) s.2 (.pd (.list (natsL choice))) cost .hole
    have hlen : (natsL choice).length = choice.length := by simp [natsL]
    have few := ok.few
    have cnt := ok.cnt
    show (match Giving_go_d (Giving_go_s fuel) [gvD pb limit s.1 s.2, .pd (.list (natsL choice)), .pd (.int cost), .hole] with | some (.rt d, d1 :: _) => some (d1, d) | some (.nx, d1 :: _) => some (d1, .pd .none) | _ => none) = _
    unfold Giving_go_d
    rw [seq_nx (ρ1 := [gvD pb limit (s.1 + 1) s.2, .pd (.list (natsL choice)), .pd (.int cost), .hole]) (by
      rw [dDo_, meth_gv (n := 0) (ps := []) (by decide) rfl rfl st]
      rfl)]
    unfold goR
    cases hp : pruned s.2 cost with
    | true =>
      rw [hp] at pr
      rw [dSeq_, dIfS_, pr]
      rfl
    | false =>
      rw [hp] at pr
      rw [seq_nx (ρ1 := [gvD pb limit (s.1 + 1) s.2, .pd (.list (natsL choice)), .pd (.int cost), .hole]) (by rw [dIfS_, pr]; rfl)]
      have ne : ¬ ((choice.length : Int) = (pb.count : Int)) := by omega
      have q : dCmp eqP (dCall lenP (dArgs [(dV 1)])) (dFld 0 "count") [gvD pb limit (s.1 + 1) s.2, .pd (.list (natsL choice)), .pd (.int cost), .hole] = some (false, [gvD pb limit (s.1 + 1) s.2, .pd (.list (natsL choice)), .pd (.int cost), .hole]) := by
        have e : dCall lenP (dArgs [(dV 1)]) [gvD pb limit (s.1 + 1) s.2, .pd (.list (natsL choice)), .pd (.int cost), .hole] = some (.int ((natsL choice).length : Int), [gvD pb limit (s.1 + 1) s.2, .pd (.list (natsL choice)), .pd (.int cost), .hole]) := rfl
        rw [dCmp_, e, Option.bind_some]
        dsimp only
        rw [fld_count, Option.bind_some]
        dsimp only
        rw [hlen, eqP_int, decide_eq_false ne]
        rfl
      rw [seq_nx (ρ1 := [gvD pb limit (s.1 + 1) s.2, .pd (.list (natsL choice)), .pd (.int cost), .hole]) (by rw [dIfS_, q]; rfl)]
      have r1 := rng1P_nat pb.costs.length (by omega)
      have loop : ∀ (rs : List Nat) (t : GS) (d3 : D), (∀ r ∈ rs, r < pb.costs.length) → t.1 + rs.length * nodes pb.costs.length d ≤ limit → ∃ e3, forL (.nm 3) (Giving_go_b1 (Giving_go_s fuel)) (rs.map fun i : Nat => .int (i : Int)) [gvD pb limit t.1 t.2, .pd (.list (natsL choice)), .pd (.int cost), d3] =
          some (.nx, [gvD pb limit (rs.foldl (fun s r => if (clash pb.near pb.good choice choice.length r).isNone then goR pb d (choice ++ [r]) (cost + pb.costs.getD r 0) s else s) t).1 (rs.foldl (fun s r => if (clash pb.near pb.good choice choice.length r).isNone then goR pb d (choice ++ [r]) (cost + pb.costs.getD r 0) s else s) t).2, .pd (.list (natsL choice)), .pd (.int cost), e3]) := by
        intro rs
        induction rs with
        | nil => exact fun t d3 _ _ => ⟨d3, rfl⟩
        | cons r rs ih =>
          intro t d3 hr hlim
          have hrl := hr r (by simp)
          have e0 : (((r :: rs).length : Nat) : Int) * nodes pb.costs.length d = (rs.length : Int) * nodes pb.costs.length d + nodes pb.costs.length d := by
            rw [List.length_cons, Int.natCast_add, Int.add_mul]
            simp
          rw [e0] at hlim
          have hrn : (0 : Int) ≤ (rs.length : Int) * nodes pb.costs.length d := Int.mul_nonneg (by omega) (by omega)
          have cw := clash_with_sem (near := pb.near) (good := pb.good) (choice := choice) (mark := choice.length) (rhythm := r) ok.good hch (Nat.le_refl _) (by omega) hrl
          have gs := go_sem pb ok limit d fuel (choice ++ [r]) (cost + pb.costs.getD r 0) t (by rw [List.length_append, List.length_singleton]; omega) (by omega) (fun c hc => by
            rcases List.mem_append.mp hc with h | h
            · exact hch c h
            · rw [List.mem_singleton.mp h]; exact hrl) (by omega)
          have gp := go_places pb d (choice ++ [r]) (cost + pb.costs.getD r 0) t
          have ap := addP_list (xs := natsL choice) (ys := natsL [r]) (by simp [natsL]; omega)
          rw [nats_app] at ap
          have a1 : atI (intsL pb.costs) (r : Int) = some (.int (pb.costs.getD r 0)) := atI_natP (by simp [intsL, List.getD, hrl])
          have body : Giving_go_b1 (Giving_go_s fuel) [gvD pb limit t.1 t.2, .pd (.list (natsL choice)), .pd (.int cost), .pd (.int (r : Int))] = some (.nx, [gvD pb limit (if (clash pb.near pb.good choice choice.length r).isNone then goR pb d (choice ++ [r]) (cost + pb.costs.getD r 0) t else t).1 (if (clash pb.near pb.good choice choice.length r).isNone then goR pb d (choice ++ [r]) (cost + pb.costs.getD r 0) t else t).2, .pd (.list (natsL choice)), .pd (.int cost), .pd (.int (r : Int))]) := by
            have e1 : [PyData.int (r : Int)] = natsL [r] := rfl
            rw [← e1] at ap
            have ecl : dCallN 5 clash_with_s (dArgs [(dFld 0 "near"), (dFld 0 "good"), (dV 1), (dCall lenP (dArgs [(dV 1)])), (dV 3)]) [gvD pb limit t.1 t.2, .pd (.list (natsL choice)), .pd (.int cost), .pd (.int (r : Int))] = some (encO ((clash pb.near pb.good choice choice.length r).map fun n : Nat => (n : Int)), [gvD pb limit t.1 t.2, .pd (.list (natsL choice)), .pd (.int cost), .pd (.int (r : Int))]) := by
              rw [dCallN_]
              show ((clash_with_s [.list (pb.near.map encPr), .list (encGood pb.good), .list (natsL choice), .int ((natsL choice).length : Int), .int (r : Int)]).map _) = _
              rw [hlen, cw]
              rfl
            have earg : dArgs [(dBin addP (dV 1) (dLst (dArgs [(dV 3)]))), (dBin addP (dV 2) (dBin idxP (dFld 0 "costs") (dV 3)))] [gvD pb limit t.1 t.2, .pd (.list (natsL choice)), .pd (.int cost), .pd (.int (r : Int))] = some ([.list (natsL (choice ++ [r])), .int (cost + pb.costs.getD r 0)], [gvD pb limit t.1 t.2, .pd (.list (natsL choice)), .pd (.int cost), .pd (.int (r : Int))]) := by
              have x1 : dBin addP (dV 1) (dLst (dArgs [(dV 3)])) [gvD pb limit t.1 t.2, .pd (.list (natsL choice)), .pd (.int cost), .pd (.int (r : Int))] = some (.list (natsL (choice ++ [r])), [gvD pb limit t.1 t.2, .pd (.list (natsL choice)), .pd (.int cost), .pd (.int (r : Int))]) := by
                show ((addP (.list (natsL choice)) (.list [.int (r : Int)])).map _) = _
                rw [ap]
                rfl
              have x2 : dBin addP (dV 2) (dBin idxP (dFld 0 "costs") (dV 3)) [gvD pb limit t.1 t.2, .pd (.list (natsL choice)), .pd (.int cost), .pd (.int (r : Int))] = some (.int (cost + pb.costs.getD r 0), [gvD pb limit t.1 t.2, .pd (.list (natsL choice)), .pd (.int cost), .pd (.int (r : Int))]) := by
                show ((((atI (intsL pb.costs) (r : Int)).map fun z => (z, [gvD pb limit t.1 t.2, .pd (.list (natsL choice)), .pd (.int cost), .pd (.int (r : Int))])).bind fun y => (addP (.int cost) y.1).map fun z => (z, y.2))) = _
                rw [a1]
                rfl
              rw [dArgs_cons, x1, Option.bind_some]
              dsimp only
              rw [dArgs_cons, x2]
              rfl
            unfold Giving_go_b1
            rw [dIfS_, dIsN_, ecl]
            cases hcl : clash pb.near pb.good choice choice.length r with
            | none =>
              show (dDo _ [gvD pb limit t.1 t.2, .pd (.list (natsL choice)), .pd (.int cost), .pd (.int (r : Int))]) = _
              rw [dDo_, meth_gv (n := 2) (by decide) earg rfl gs]
              rfl
            | some o => rfl
          obtain ⟨e3, hi⟩ := ih (if (clash pb.near pb.good choice choice.length r).isNone then goR pb d (choice ++ [r]) (cost + pb.costs.getD r 0) t else t) (.pd (.int (r : Int))) (fun x hx => hr x (by simp [hx])) (by split <;> omega)
          refine ⟨e3, ?_⟩
          rw [List.map_cons, List.foldl_cons]
          unfold forL
          rw [bind_nm, Option.bind_some]
          show ((Giving_go_b1 (Giving_go_s fuel)) [_, _, _, _]).bind _ = _
          rw [body, Option.bind_some]
          exact hi
      obtain ⟨e3, L⟩ := loop (List.range pb.costs.length) (s.1 + 1, s.2) .hole (fun r hr => List.mem_range.mp hr) (by rw [List.length_range]; exact hl')
      have e0 : dItA rng1P (dArgs [(dCall lenP (dArgs [(dFld 0 "costs")]))]) [gvD pb limit (s.1 + 1) s.2, .pd (.list (natsL choice)), .pd (.int cost), .hole] = some ((List.range pb.costs.length).map fun i : Nat => .int (i : Int), [gvD pb limit (s.1 + 1) s.2, .pd (.list (natsL choice)), .pd (.int cost), .hole]) := by
        show (rng1P [.int ((intsL pb.costs).length : Int)]).map _ = _
        rw [intsL_len, r1]
        rfl
      rw [dFor_, e0, Option.bind_some]
      dsimp only
      rw [L]
      rfl
end
end HW

namespace HW
open PySem PySem.Spec PyProof.Rows L2
noncomputable section
/-! ### the tree that bars -/
def hit (bound : Option Int) (cost : Int) : Bool := match bound with
  | some b => decide (b ≤ cost)
  | none => false
def itemP (pb : Pb) (sub : Nat → P) (choice : List Nat) (r : Nat) : P := match clash pb.near pb.good choice choice.length r with
  | some o => .tuple [.str "near", .int (o : Int)]
  | none => sub r
def treeP (pb : Pb) (bound : Option Int) : Nat → List Nat → Int → P
  | 0, _, _ => .tuple [.str "cost"]
  | d + 1, choice, cost => if hit bound cost then .tuple [.str "cost"] else .tuple [.str "each", .list ((List.range pb.costs.length).map (itemP pb (fun r => treeP pb bound d (choice ++ [r]) (cost + pb.costs.getD r 0)) choice))]
def Cov (pb : Pb) (bound : Option Int) : Nat → List Nat → Int → Prop
  | 0, _, cost => hit bound cost = true
  | d + 1, choice, cost => hit bound cost = true ∨ ∀ r, r < pb.costs.length → clash pb.near pb.good choice choice.length r = none → Cov pb bound d (choice ++ [r]) (cost + pb.costs.getD r 0)
section
variable {pb : Pb} {limit places : Int} {best : Bst}
theorem hit_ev (S : Sl) (i j : Nat) (bound : Option Int) (cost : Int) (hi : S[i]? = some (.pd (encO bound))) (hj : S[j]? = some (.pd (.int cost))) : dAnd (dNot (dIsN (dV i))) (dCmp geP (dV j) (dV i)) S = some (hit bound cost, S) := by
  cases bound with
  | none => simp [hi, encO, hit]
  | some b => simp [hi, hj, encO, hit]
theorem cl_ev (ok : PbOk pb) {choice : List Nat} {r : Nat} (hch : ∀ c ∈ choice, c < pb.costs.length) (hl : choice.length < 100) (hr : r < pb.costs.length) (ρ : Sl) (j : Nat) (h1 : ρ[0]? = some (.pd (.list (natsL choice)))) (hj : (gvD pb limit places best :: ρ)[j]? = some (.pd (.int (r : Int)))) :
    dCallN 5 clash_with_s (dArgs [(dFld 0 "near"), (dFld 0 "good"), (dV 1), (dCall lenP (dArgs [(dV 1)])), (dV j)]) (gvD pb limit places best :: ρ) = some (encO ((clash pb.near pb.good choice choice.length r).map fun n : Nat => (n : Int)), gvD pb limit places best :: ρ) := by
  have cw := clash_with_sem (near := pb.near) (good := pb.good) (choice := choice) (mark := choice.length) (rhythm := r) ok.good hch (Nat.le_refl _) (by omega) hr
  have hlen : (natsL choice).length = choice.length := by simp [natsL]
  have e1 : dV 1 (gvD pb limit places best :: ρ) = some (.list (natsL choice), gvD pb limit places best :: ρ) := by simp [h1]
  have ej : dV j (gvD pb limit places best :: ρ) = some (.int (r : Int), gvD pb limit places best :: ρ) := by simp [hj]
  rw [dCallN_, dArgs_cons, fld_near, Option.bind_some]
  dsimp only
  rw [dArgs_cons, fld_good, Option.bind_some]
  dsimp only
  rw [dArgs_cons, e1, Option.bind_some]
  dsimp only
  rw [dArgs_cons, dCall_, dArgs_cons, e1, Option.bind_some]
  dsimp only
  rw [dArgs_nil, Option.map_some, Option.bind_some, lenP_list, Option.map_some, Option.bind_some]
  dsimp only
  rw [dArgs_cons, ej, Option.bind_some]
  dsimp only
  rw [dArgs_nil, hlen]
  simp only [Option.map_some, Option.bind_some, List.length_cons, List.length_nil]
  rw [if_pos (by decide), cw]
  rfl
theorem arg_ev {choice : List Nat} {cost : Int} {r : Nat} (hl : choice.length < 100) (hr : r < pb.costs.length) (ρ : Sl) (j : Nat) (h1 : ρ[0]? = some (.pd (.list (natsL choice)))) (h2 : ρ[1]? = some (.pd (.int cost))) (hj : (gvD pb limit places best :: ρ)[j]? = some (.pd (.int (r : Int)))) :
    dBin addP (dV 1) (dLst (dArgs [(dV j)])) (gvD pb limit places best :: ρ) = some (.list (natsL (choice ++ [r])), gvD pb limit places best :: ρ) ∧
    dBin addP (dV 2) (dBin idxP (dFld 0 "costs") (dV j)) (gvD pb limit places best :: ρ) = some (.int (cost + pb.costs.getD r 0), gvD pb limit places best :: ρ) := by
  have ap := addP_list (xs := natsL choice) (ys := natsL [r]) (by simp [natsL]; omega)
  rw [nats_app] at ap
  have a1 : atI (intsL pb.costs) (r : Int) = some (.int (pb.costs.getD r 0)) := atI_natP (by simp [intsL, List.getD, hr])
  have ej : dV j (gvD pb limit places best :: ρ) = some (.int (r : Int), gvD pb limit places best :: ρ) := by simp [hj]
  have e1 : dV 1 (gvD pb limit places best :: ρ) = some (.list (natsL choice), gvD pb limit places best :: ρ) := by simp [h1]
  have e2 : dV 2 (gvD pb limit places best :: ρ) = some (.int cost, gvD pb limit places best :: ρ) := by simp [h2]
  constructor
  · rw [dBin_, e1, Option.bind_some]
    dsimp only
    rw [dLst_, dArgs_cons, ej, Option.bind_some]
    dsimp only
    rw [dArgs_nil]
    simp only [Option.map_some, Option.bind_some]
    have e0 : [PyData.int (r : Int)] = natsL [r] := rfl
    rw [e0, ap]
    rfl
  · rw [dBin_, e2, Option.bind_some]
    dsimp only
    rw [dBin_, fld_costs, Option.bind_some]
    dsimp only
    rw [ej]
    simp [a1]
end
theorem tree_sem (pb : Pb) (ok : PbOk pb) (limit places : Int) (best : Bst) (bound : Option Int) : ∀ (d fuel : Nat) (choice : List Nat) (cost : Int), choice.length + d = pb.count → d < fuel → (∀ c ∈ choice, c < pb.costs.length) → Cov pb bound d choice cost →
    Giving_tree_s fuel (gvD pb limit places best) [.list (natsL choice), .int cost, encO bound] = some (gvD pb limit places best, .pd (treeP pb bound d choice cost))
  | d, 0, choice, cost, _, hf, _, _ => by omega
  | 0, fuel + 1, choice, cost, hd, hf, hch, hc => by
    have q := hit_ev [gvD pb limit places best, .pd (.list (natsL choice)), .pd (.int cost), .pd (encO bound), .hole, .hole, .hole] 3 2 bound cost rfl rfl
    rw [show hit bound cost = true from hc] at q
    show (match Giving_tree_d (Giving_tree_s fuel) [gvD pb limit places best, .pd (.list (natsL choice)), .pd (.int cost), .pd (encO bound), .hole, .hole, .hole] with | some (.rt d, d1 :: _) => some (d1, d) | some (.nx, d1 :: _) => some (d1, .pd .none) | _ => none) = _
    unfold Giving_tree_d treeP
    rw [dSeq_, dIfS_, q]
    rfl
  | d + 1, fuel + 1, choice, cost, hd, hf, hch, hc => by
    have few := ok.few
    have cnt := ok.cnt
    have q := hit_ev [gvD pb limit places best, .pd (.list (natsL choice)), .pd (.int cost), .pd (encO bound), .hole, .hole, .hole] 3 2 bound cost rfl rfl
    show (match Giving_tree_d (Giving_tree_s fuel) [gvD pb limit places best, .pd (.list (natsL choice)), .pd (.int cost), .pd (encO bound), .hole, .hole, .hole] with | some (.rt d, d1 :: _) => some (d1, d) | some (.nx, d1 :: _) => some (d1, .pd .none) | _ => none) = _
    unfold Giving_tree_d treeP
    unfold Cov at hc
    cases hh : hit bound cost with
    | true =>
      rw [hh] at q
      rw [dSeq_, dIfS_, q]
      rfl
    | false =>
      rw [hh] at q hc
      have hc' := hc.resolve_left Bool.false_ne_true
      rw [seq_nx (ρ1 := [gvD pb limit places best, .pd (.list (natsL choice)), .pd (.int cost), .pd (encO bound), .hole, .hole, .hole]) (by rw [dIfS_, q]; rfl),
        seq_nx (ρ1 := [gvD pb limit places best, .pd (.list (natsL choice)), .pd (.int cost), .pd (encO bound), .ol (pds []), .hole, .hole]) rfl]
      obtain ⟨ρ', L, d5, d6, hρ⟩ := forL_rel (t := .nm 5) (body := Giving_tree_b1 (Giving_tree_s fuel)) (fun i : Nat => .int (i : Int))
        (fun (acc : List P) ρ => ∃ d5 d6, ρ = [gvD pb limit places best, .pd (.list (natsL choice)), .pd (.int cost), .pd (encO bound), .ol (pds acc), d5, d6])
        (fun acc r => acc ++ [itemP pb (fun r => treeP pb bound d (choice ++ [r]) (cost + pb.costs.getD r 0)) choice r]) (fun rs acc => (∀ r ∈ rs, r < pb.costs.length) ∧ acc.length + rs.length < 1000)
        (fun r rs acc ρ hI hs => by
          obtain ⟨d5, d6, rfl⟩ := hs
          obtain ⟨h1, h2⟩ := hI
          have hr := h1 r (by simp)
          simp only [List.length_cons] at h2
          refine ⟨⟨fun x hx => h1 x (by simp [hx]), by simp; omega⟩, _, [gvD pb limit places best, .pd (.list (natsL choice)), .pd (.int cost), .pd (encO bound), .ol (pds (acc ++ [itemP pb (fun r => treeP pb bound d (choice ++ [r]) (cost + pb.costs.getD r 0)) choice r])), .pd (.int (r : Int)), .pd (encO ((clash pb.near pb.good choice choice.length r).map fun n : Nat => (n : Int)))], rfl, ?_, ⟨_, _, rfl⟩⟩
          show Giving_tree_b1 (Giving_tree_s fuel) [gvD pb limit places best, .pd (.list (natsL choice)), .pd (.int cost), .pd (encO bound), .ol (pds acc), .pd (.int (r : Int)), d6] = _
          have c1 := cl_ev (limit := limit) (places := places) (best := best) ok hch (by omega) hr [.pd (.list (natsL choice)), .pd (.int cost), .pd (encO bound), .ol (pds acc), .pd (.int (r : Int)), d6] 5 rfl rfl
          unfold Giving_tree_b1
          rw [seq_nx (ρ1 := [gvD pb limit places best, .pd (.list (natsL choice)), .pd (.int cost), .pd (encO bound), .ol (pds acc), .pd (.int (r : Int)), .pd (encO ((clash pb.near pb.good choice choice.length r).map fun n : Nat => (n : Int)))]) (by
            rw [dSet_, dPd_, c1]
            rfl)]
          have hz : acc.length < 16777216 := by omega
          rw [pds_app]
          cases hcl : clash pb.near pb.good choice choice.length r with
          | some o => simp [itemP, hcl, encO, hz]
          | none =>
            obtain ⟨x1, x2⟩ := arg_ev (pb := pb) (limit := limit) (places := places) (best := best) (choice := choice) (cost := cost) (r := r) (by omega) hr [.pd (.list (natsL choice)), .pd (.int cost), .pd (encO bound), .ol (pds acc), .pd (.int (r : Int)), .pd .none] 5 rfl rfl rfl
            have ih := tree_sem pb ok limit places best bound d fuel (choice ++ [r]) (cost + pb.costs.getD r 0) (by rw [List.length_append, List.length_singleton]; omega) (by omega) (fun c hc => by
              rcases List.mem_append.mp hc with h | h
              · exact hch c h
              · rw [List.mem_singleton.mp h]; exact hr) (hc' r hr hcl)
            have earg : dArgs [(dBin addP (dV 1) (dLst (dArgs [(dV 5)]))), (dBin addP (dV 2) (dBin idxP (dFld 0 "costs") (dV 5))), (dV 3)] [gvD pb limit places best, .pd (.list (natsL choice)), .pd (.int cost), .pd (encO bound), .ol (pds acc), .pd (.int (r : Int)), .pd .none] = some ([.list (natsL (choice ++ [r])), .int (cost + pb.costs.getD r 0), encO bound], [gvD pb limit places best, .pd (.list (natsL choice)), .pd (.int cost), .pd (encO bound), .ol (pds acc), .pd (.int (r : Int)), .pd .none]) := by
              rw [dArgs_cons, x1, Option.bind_some]
              dsimp only
              rw [dArgs_cons, x2]
              rfl
            have em := meth_gv (n := 3) (m := "tree") (pb := pb) (by decide) earg rfl ih
            show dIfS _ _ _ [gvD pb limit places best, .pd (.list (natsL choice)), .pd (.int cost), .pd (encO bound), .ol (pds acc), .pd (.int (r : Int)), .pd .none] = _
            have en : dNot (dIsN (dV 6)) [gvD pb limit places best, .pd (.list (natsL choice)), .pd (.int cost), .pd (encO bound), .ol (pds acc), .pd (.int (r : Int)), .pd .none] = some (false, [gvD pb limit places best, .pd (.list (natsL choice)), .pd (.int cost), .pd (encO bound), .ol (pds acc), .pd (.int (r : Int)), .pd .none]) := rfl
            rw [dIfS_, en, Option.bind_some, if_neg Bool.false_ne_true, dApp_, dPd_, dFr_, em]
            simp [hz, itemP, hcl, encO])
        (List.range pb.costs.length) [] [gvD pb limit places best, .pd (.list (natsL choice)), .pd (.int cost), .pd (encO bound), .ol (pds []), .hole, .hole] ⟨fun r hr => List.mem_range.mp hr, by simp; omega⟩ ⟨_, _, rfl⟩
      have e0 : dItA rng1P (dArgs [(dCall lenP (dArgs [(dFld 0 "costs")]))]) [gvD pb limit places best, .pd (.list (natsL choice)), .pd (.int cost), .pd (encO bound), .ol (pds []), .hole, .hole] = some ((List.range pb.costs.length).map fun i : Nat => .int (i : Int), [gvD pb limit places best, .pd (.list (natsL choice)), .pd (.int cost), .pd (encO bound), .ol (pds []), .hole, .hole]) := by
        have r1 := rng1P_nat pb.costs.length (by omega)
        show (rng1P [.int ((intsL pb.costs).length : Int)]).map _ = _
        rw [intsL_len, r1]
        rfl
      have ef : ∀ (rs : List Nat) (acc : List P), rs.foldl (fun acc r => acc ++ [itemP pb (fun r => treeP pb bound d (choice ++ [r]) (cost + pb.costs.getD r 0)) choice r]) acc = acc ++ rs.map (itemP pb (fun r => treeP pb bound d (choice ++ [r]) (cost + pb.costs.getD r 0)) choice) := by
        intro rs
        induction rs with
        | nil => intro acc; simp
        | cons r rs ih => intro acc; rw [List.foldl_cons, ih]; simp
      rw [ef, List.nil_append] at hρ
      rw [hρ] at L
      rw [seq_nx (ρ1 := [gvD pb limit places best, .pd (.list (natsL choice)), .pd (.int cost), .pd (encO bound), .ol (pds ((List.range pb.costs.length).map (itemP pb (fun r => treeP pb bound d (choice ++ [r]) (cost + pb.costs.getD r 0)) choice))), d5, d6]) (by rw [dFor_, e0, Option.bind_some]; exact L)]
      simp [hh]
end
end HW

namespace HW
open PySem PySem.Spec PyProof.Rows L2
noncomputable section
/-! ### the path to what is wrong in a tree: none -/
theorem treeP_head (pb : Pb) (bound : Option Int) : ∀ (d : Nat) (choice : List Nat) (cost : Int), ∃ w r, treeP pb bound d choice cost = .tuple (.str w :: r) ∧ decide (w = Str.ofString "near") = false
  | 0, _, _ => ⟨_, _, rfl, by decide⟩
  | d + 1, choice, cost => by
    unfold treeP
    split
    · exact ⟨_, _, rfl, by decide⟩
    · exact ⟨_, _, rfl, by decide⟩
theorem clash_is {near : List (Nat × Nat)} {good : List (List Bool)} {choice : List Nat} {mark r o : Nat} (h : clash near good choice mark r = some o) : o < mark ∧ (near.contains (o, mark) || near.contains (mark, o)) = true ∧ gAt good (choice.getD o 0) r = false := by
  unfold clash at h
  have h1 := List.find?_some h
  have h2 := List.mem_range.mp (List.mem_of_find?_eq_some h)
  unfold clashAt at h1
  rw [Bool.and_eq_true] at h1
  exact ⟨h2, h1.1, by simpa using h1.2⟩
theorem path_sem (pb : Pb) (ok : PbOk pb) (limit places : Int) (best : Bst) (bound : Option Int) : ∀ (d fuel : Nat) (choice : List Nat) (cost : Int), choice.length + d = pb.count → d < fuel → (∀ c ∈ choice, c < pb.costs.length) → Cov pb bound d choice cost →
    Giving_path_s fuel (gvD pb limit places best) [.list (natsL choice), .int cost, encO bound, treeP pb bound d choice cost] = some (gvD pb limit places best, .pd .none)
  | d, 0, choice, cost, _, hf, _, _ => by omega
  | 0, fuel + 1, choice, cost, hd, hf, hch, hc => by
    have q := hit_ev [gvD pb limit places best, .pd (.list (natsL choice)), .pd (.int cost), .pd (encO bound), .pd (.tuple [.str "cost"]), .hole, .hole, .hole, .hole, .hole] 3 2 bound cost rfl rfl
    rw [show hit bound cost = true from hc] at q
    show (match Giving_path_d (Giving_path_s fuel) [gvD pb limit places best, .pd (.list (natsL choice)), .pd (.int cost), .pd (encO bound), .pd (.tuple [.str "cost"]), .hole, .hole, .hole, .hole, .hole] with | some (.rt d, d1 :: _) => some (d1, d) | some (.nx, d1 :: _) => some (d1, .pd .none) | _ => none) = _
    have e : dCmp eqP (dBin idxP (dV 4) (dC (.int 0))) (dC (.str "cost")) [gvD pb limit places best, .pd (.list (natsL choice)), .pd (.int cost), .pd (encO bound), .pd (.tuple [.str "cost"]), .hole, .hole, .hole, .hole, .hole] = some (true, [gvD pb limit places best, .pd (.list (natsL choice)), .pd (.int cost), .pd (encO bound), .pd (.tuple [.str "cost"]), .hole, .hole, .hole, .hole, .hole]) := by simp
    unfold Giving_path_d
    rw [dSeq_, dIfS_, e, Option.bind_some, if_pos rfl, dRet_, dPd_, dIf_, q]
    rfl
  | d + 1, fuel + 1, choice, cost, hd, hf, hch, hc => by
    have few := ok.few
    have cnt := ok.cnt
    have hlen : (natsL choice).length = choice.length := by simp [natsL]
    unfold Cov at hc
    cases hh : hit bound cost with
    | true =>
      have ht : treeP pb bound (d + 1) choice cost = .tuple [.str "cost"] := by unfold treeP; rw [hh]; rfl
      rw [ht]
      have q := hit_ev [gvD pb limit places best, .pd (.list (natsL choice)), .pd (.int cost), .pd (encO bound), .pd (.tuple [.str "cost"]), .hole, .hole, .hole, .hole, .hole] 3 2 bound cost rfl rfl
      rw [hh] at q
      show (match Giving_path_d (Giving_path_s fuel) [gvD pb limit places best, .pd (.list (natsL choice)), .pd (.int cost), .pd (encO bound), .pd (.tuple [.str "cost"]), .hole, .hole, .hole, .hole, .hole] with | some (.rt d, d1 :: _) => some (d1, d) | some (.nx, d1 :: _) => some (d1, .pd .none) | _ => none) = _
      have e : dCmp eqP (dBin idxP (dV 4) (dC (.int 0))) (dC (.str "cost")) [gvD pb limit places best, .pd (.list (natsL choice)), .pd (.int cost), .pd (encO bound), .pd (.tuple [.str "cost"]), .hole, .hole, .hole, .hole, .hole] = some (true, [gvD pb limit places best, .pd (.list (natsL choice)), .pd (.int cost), .pd (encO bound), .pd (.tuple [.str "cost"]), .hole, .hole, .hole, .hole, .hole]) := by simp
      unfold Giving_path_d
      rw [dSeq_, dIfS_, e, Option.bind_some, if_pos rfl, dRet_, dPd_, dIf_, q]
      rfl
    | false =>
      rw [hh] at hc
      have hc' := hc.resolve_left Bool.false_ne_true
      have ht : treeP pb bound (d + 1) choice cost = .tuple [.str "each", .list ((List.range pb.costs.length).map (itemP pb (fun r => treeP pb bound d (choice ++ [r]) (cost + pb.costs.getD r 0)) choice))] := by rw [treeP, hh]; rfl
      rw [ht]
      generalize hT : PyData.tuple [.str "each", .list ((List.range pb.costs.length).map (itemP pb (fun r => treeP pb bound d (choice ++ [r]) (cost + pb.costs.getD r 0)) choice))] = T
      have i0 : idxP T (.int 0) = some (.str "each") := by rw [← hT]; simp
      have i1 : idxP T (.int 1) = some (.list ((List.range pb.costs.length).map (itemP pb (fun r => treeP pb bound d (choice ++ [r]) (cost + pb.costs.getD r 0)) choice))) := by rw [← hT]; simp
      show (match Giving_path_d (Giving_path_s fuel) [gvD pb limit places best, .pd (.list (natsL choice)), .pd (.int cost), .pd (encO bound), .pd T, .hole, .hole, .hole, .hole, .hole] with | some (.rt d, d1 :: _) => some (d1, d) | some (.nx, d1 :: _) => some (d1, .pd .none) | _ => none) = _
      have n1 : decide (Str.ofString "each" = Str.ofString "cost") = false := by decide
      have ne : ¬ ((choice.length : Int) = (pb.count : Int)) := by omega
      have t1 : dCmp eqP (dBin idxP (dV 4) (dC (.int 0))) (dC (.str "cost")) [gvD pb limit places best, .pd (.list (natsL choice)), .pd (.int cost), .pd (encO bound), .pd T, .hole, .hole, .hole, .hole, .hole] = some (false, [gvD pb limit places best, .pd (.list (natsL choice)), .pd (.int cost), .pd (encO bound), .pd T, .hole, .hole, .hole, .hole, .hole]) := by
        simp only [dCmp_, dBin_, dV_, dC_, List.getElem?_cons_succ, List.getElem?_cons_zero, Option.bind_some, i0, Option.map_some, eqP_str, n1]
      have t2 : dOr (dCmp neP (dBin idxP (dV 4) (dC (.int 0))) (dC (.str "each"))) (dOr (dCmp eqP (dCall lenP (dArgs [(dV 1)])) (dFld 0 "count")) (dCmp neP (dCall lenP (dArgs [(dBin idxP (dV 4) (dC (.int 1)))])) (dCall lenP (dArgs [(dFld 0 "costs")])))) [gvD pb limit places best, .pd (.list (natsL choice)), .pd (.int cost), .pd (encO bound), .pd T, .hole, .hole, .hole, .hole, .hole] = some (false, [gvD pb limit places best, .pd (.list (natsL choice)), .pd (.int cost), .pd (encO bound), .pd T, .hole, .hole, .hole, .hole, .hole]) := by
        have q0 : neP (.str "each") (.str "each") = some false := neP_refl rfl (by simp)
        have q1 : neP (.int (pb.costs.length : Int)) (.int (pb.costs.length : Int)) = some false := neP_refl rfl (by simp)
        simp only [dOr_, dCmp_, dBin_, dV_, dC_, dCall_, dArgs_cons, dArgs_nil, fld_count, fld_costs, List.getElem?_cons_succ, List.getElem?_cons_zero, Option.bind_some, i0, i1, Option.map_some, q0, lenP_list, hlen, List.length_map, List.length_range, intsL_len, eqP_int, decide_eq_false ne, q1, if_neg Bool.false_ne_true]
      unfold Giving_path_d
      rw [seq_nx (ρ1 := [gvD pb limit places best, .pd (.list (natsL choice)), .pd (.int cost), .pd (encO bound), .pd T, .hole, .hole, .hole, .hole, .hole]) (by rw [dIfS_, t1]; rfl),
        seq_nx (ρ1 := [gvD pb limit places best, .pd (.list (natsL choice)), .pd (.int cost), .pd (encO bound), .pd T, .hole, .hole, .hole, .hole, .hole]) (by rw [dIfS_, t2]; rfl)]
      have body : ∀ (z : Nat × Nat) (ρ : Sl), z ∈ (List.range pb.costs.length).zipIdx → (∃ d5 d6 d7 d8 d9, ρ = [gvD pb limit places best, .pd (.list (natsL choice)), .pd (.int cost), .pd (encO bound), .pd T, d5, d6, d7, d8, d9]) →
          ∃ ρ1 ρ2, bindT (.tcons (.nm 5) (.tcons (.nm 6) .tnil)) (.tuple [.int (z.2 : Int), itemP pb (fun r => treeP pb bound d (choice ++ [r]) (cost + pb.costs.getD r 0)) choice z.1]) ρ = some ρ1 ∧ Giving_path_b1 (Giving_path_s fuel) ρ1 = some (.nx, ρ2) ∧ (∃ d5 d6 d7 d8 d9, ρ2 = [gvD pb limit places best, .pd (.list (natsL choice)), .pd (.int cost), .pd (encO bound), .pd T, d5, d6, d7, d8, d9]) := by
        rintro ⟨r, k⟩ ρ hz ⟨d5, d6, d7, d8, d9, rfl⟩
        have hz' := List.mem_zipIdx hz
        simp at hz'
        obtain ⟨hk, he⟩ := hz'
        subst he
        clear hz
        cases hcl : clash pb.near pb.good choice choice.length r with
        | some o =>
          obtain ⟨c1, c2, c3⟩ := clash_is hcl
          have hit : itemP pb (fun r => treeP pb bound d (choice ++ [r]) (cost + pb.costs.getD r 0)) choice r = .tuple [.str "near", .int (o : Int)] := by simp [itemP, hcl]
          rw [hit]
          refine ⟨_, [gvD pb limit places best, .pd (.list (natsL choice)), .pd (.int cost), .pd (encO bound), .pd T, .pd (.int (r : Int)), .pd (.tuple [.str "near", .int (o : Int)]), .pd (.int (o : Int)), .pd (.bool true), d9], rfl, ?_, _, _, _, _, _, rfl⟩
          show Giving_path_b1 (Giving_path_s fuel) [gvD pb limit places best, .pd (.list (natsL choice)), .pd (.int cost), .pd (encO bound), .pd T, .pd (.int (r : Int)), .pd (.tuple [.str "near", .int (o : Int)]), d7, d8, d9] = _
          have p1 := inP_pr pb.near o choice.length
          have p2 := inP_pr pb.near choice.length o
          obtain ⟨row, q1, q2⟩ := ok.good.at (hch _ (List.getElem_mem c1)) hk
          have ed : choice.getD o 0 = choice[o] := by simp [List.getD, c1]
          rw [ed] at c3
          have a1 : atI (natsL choice) (o : Int) = some (.int (choice[o] : Int)) := atI_natP (by simp [natsL, c1])
          have a2 : atI (encGood pb.good) (choice[o] : Int) = some (.list (boolsL row)) := atI_natP (by simp [encGood, q1])
          have a3 : atI (boolsL row) (r : Int) = some (.bool false) := atI_natP (by simp [boolsL, q2, c3])
          have u0 : dCmp eqP (dBin idxP (dV 6) (dC (.int 0))) (dC (.str "near")) [gvD pb limit places best, .pd (.list (natsL choice)), .pd (.int cost), .pd (encO bound), .pd T, .pd (.int (r : Int)), .pd (.tuple [.str "near", .int (o : Int)]), d7, d8, d9] = some (true, [gvD pb limit places best, .pd (.list (natsL choice)), .pd (.int cost), .pd (encO bound), .pd T, .pd (.int (r : Int)), .pd (.tuple [.str "near", .int (o : Int)]), d7, d8, d9]) := by simp
          unfold Giving_path_b1
          rw [dIfS_, u0, Option.bind_some, if_pos rfl]
          dsimp only
          rw [seq_nx (ρ1 := [gvD pb limit places best, .pd (.list (natsL choice)), .pd (.int cost), .pd (encO bound), .pd T, .pd (.int (r : Int)), .pd (.tuple [.str "near", .int (o : Int)]), .pd (.int (o : Int)), d8, d9]) (by simp),
            seq_nx (ρ1 := [gvD pb limit places best, .pd (.list (natsL choice)), .pd (.int cost), .pd (encO bound), .pd T, .pd (.int (r : Int)), .pd (.tuple [.str "near", .int (o : Int)]), .pd (.int (o : Int)), .pd (.bool true), d9])]
          · have m1 : decide ((0 : Int) ≤ (o : Int)) = true := decide_eq_true (by omega)
            have m2 : decide ((o : Int) < (choice.length : Int)) = true := decide_eq_true (by omega)
            simp only [dIfS_, dOr_, dNot_, dChn_, dC_, dV_, dCall_, dArgs_cons, dArgs_nil, dTru_, dBin_, fld_good, List.getElem?_cons_succ, List.getElem?_cons_zero, Option.bind_some, Option.map_some, lenP_list, hlen, leP_int, ltP_int, m1, m2, if_true, truP_bool, idxP_list, a1, a2, a3, Bool.not_true, if_neg Bool.false_ne_true, dNx_]
          · rw [dSet_, dPd_, dB_, dOr_]
            have f1 : dCmp inP (dTup [(dV 7), (dCall lenP (dArgs [(dV 1)]))]) (dFld 0 "near") [gvD pb limit places best, .pd (.list (natsL choice)), .pd (.int cost), .pd (encO bound), .pd T, .pd (.int (r : Int)), .pd (.tuple [.str "near", .int (o : Int)]), .pd (.int (o : Int)), d8, d9] = some (pb.near.contains (o, choice.length), [gvD pb limit places best, .pd (.list (natsL choice)), .pd (.int cost), .pd (encO bound), .pd T, .pd (.int (r : Int)), .pd (.tuple [.str "near", .int (o : Int)]), .pd (.int (o : Int)), d8, d9]) := by
              simp only [dCmp_, dTup_, dV_, dCall_, dArgs_cons, dArgs_nil, fld_near, List.getElem?_cons_succ, List.getElem?_cons_zero, Option.bind_some, Option.map_some, lenP_list, hlen, p1]
            have f2 : dCmp inP (dTup [(dCall lenP (dArgs [(dV 1)])), (dV 7)]) (dFld 0 "near") [gvD pb limit places best, .pd (.list (natsL choice)), .pd (.int cost), .pd (encO bound), .pd T, .pd (.int (r : Int)), .pd (.tuple [.str "near", .int (o : Int)]), .pd (.int (o : Int)), d8, d9] = some (pb.near.contains (choice.length, o), [gvD pb limit places best, .pd (.list (natsL choice)), .pd (.int cost), .pd (encO bound), .pd T, .pd (.int (r : Int)), .pd (.tuple [.str "near", .int (o : Int)]), .pd (.int (o : Int)), d8, d9]) := by
              simp only [dCmp_, dTup_, dV_, dCall_, dArgs_cons, dArgs_nil, fld_near, List.getElem?_cons_succ, List.getElem?_cons_zero, Option.bind_some, Option.map_some, lenP_list, hlen, p2]
            rw [f1, Option.bind_some]
            cases hn : pb.near.contains (o, choice.length) with
            | true => rfl
            | false =>
              rw [hn, Bool.false_or] at c2
              dsimp only
              rw [if_neg Bool.false_ne_true, f2, c2]
              rfl
        | none =>
          have hit : itemP pb (fun r => treeP pb bound d (choice ++ [r]) (cost + pb.costs.getD r 0)) choice r = treeP pb bound d (choice ++ [r]) (cost + pb.costs.getD r 0) := by simp [itemP, hcl]
          rw [hit]
          have ih := path_sem pb ok limit places best bound d fuel (choice ++ [r]) (cost + pb.costs.getD r 0) (by rw [List.length_append, List.length_singleton]; omega) (by omega) (fun c hc => by
              rcases List.mem_append.mp hc with h | h
              · exact hch c h
              · rw [List.mem_singleton.mp h]; exact hk) (hc' r hk hcl)
          obtain ⟨w, rr, hw, hw2⟩ := treeP_head pb bound d (choice ++ [r]) (cost + pb.costs.getD r 0)
          generalize treeP pb bound d (choice ++ [r]) (cost + pb.costs.getD r 0) = U at *
          refine ⟨_, [gvD pb limit places best, .pd (.list (natsL choice)), .pd (.int cost), .pd (encO bound), .pd T, .pd (.int (r : Int)), .pd U, d7, d8, .pd .none], rfl, ?_, _, _, _, _, _, rfl⟩
          show Giving_path_b1 (Giving_path_s fuel) [gvD pb limit places best, .pd (.list (natsL choice)), .pd (.int cost), .pd (encO bound), .pd T, .pd (.int (r : Int)), .pd U, d7, d8, d9] = _
          have j0 : idxP U (.int 0) = some (.str w) := by rw [hw]; simp
          have u0 : dCmp eqP (dBin idxP (dV 6) (dC (.int 0))) (dC (.str "near")) [gvD pb limit places best, .pd (.list (natsL choice)), .pd (.int cost), .pd (encO bound), .pd T, .pd (.int (r : Int)), .pd U, d7, d8, d9] = some (false, [gvD pb limit places best, .pd (.list (natsL choice)), .pd (.int cost), .pd (encO bound), .pd T, .pd (.int (r : Int)), .pd U, d7, d8, d9]) := by
            simp only [dCmp_, dBin_, dV_, dC_, List.getElem?_cons_succ, List.getElem?_cons_zero, Option.bind_some, j0, Option.map_some, eqP_str, hw2]
          obtain ⟨x1, x2⟩ := arg_ev (pb := pb) (limit := limit) (places := places) (best := best) (choice := choice) (cost := cost) (r := r) (by omega) hk [.pd (.list (natsL choice)), .pd (.int cost), .pd (encO bound), .pd T, .pd (.int (r : Int)), .pd U, d7, d8, d9] 5 rfl rfl rfl
          have earg : dArgs [(dBin addP (dV 1) (dLst (dArgs [(dV 5)]))), (dBin addP (dV 2) (dBin idxP (dFld 0 "costs") (dV 5))), (dV 3), (dV 6)] [gvD pb limit places best, .pd (.list (natsL choice)), .pd (.int cost), .pd (encO bound), .pd T, .pd (.int (r : Int)), .pd U, d7, d8, d9] = some ([.list (natsL (choice ++ [r])), .int (cost + pb.costs.getD r 0), encO bound, U], [gvD pb limit places best, .pd (.list (natsL choice)), .pd (.int cost), .pd (encO bound), .pd T, .pd (.int (r : Int)), .pd U, d7, d8, d9]) := by
            rw [dArgs_cons, x1, Option.bind_some]
            dsimp only
            rw [dArgs_cons, x2]
            rfl
          have em := meth_gv (n := 4) (m := "path") (pb := pb) (by decide) earg rfl ih
          unfold Giving_path_b1
          rw [dIfS_, u0, Option.bind_some, if_neg Bool.false_ne_true]
          dsimp only
          rw [seq_nx (ρ1 := [gvD pb limit places best, .pd (.list (natsL choice)), .pd (.int cost), .pd (encO bound), .pd T, .pd (.int (r : Int)), .pd U, d7, d8, .pd .none]) (by
            rw [dSet_, dPd_, dFr_, em]
            rfl)]
          rfl
      obtain ⟨ρ', L, d5, d6, d7, d8, d9, hρ⟩ := forL_all (t := .tcons (.nm 5) (.tcons (.nm 6) .tnil)) (body := Giving_path_b1 (Giving_path_s fuel)) (fun z : Nat × Nat => .tuple [.int (z.2 : Int), itemP pb (fun r => treeP pb bound d (choice ++ [r]) (cost + pb.costs.getD r 0)) choice z.1])
        (fun ρ => ∃ d5 d6 d7 d8 d9, ρ = [gvD pb limit places best, .pd (.list (natsL choice)), .pd (.int cost), .pd (encO bound), .pd T, d5, d6, d7, d8, d9]) _ body
        [gvD pb limit places best, .pd (.list (natsL choice)), .pd (.int cost), .pd (encO bound), .pd T, .hole, .hole, .hole, .hole, .hole] ⟨_, _, _, _, _, rfl⟩
      subst hρ
      have e0 : dItA enumAP (dArgs [(dBin idxP (dV 4) (dC (.int 1)))]) [gvD pb limit places best, .pd (.list (natsL choice)), .pd (.int cost), .pd (encO bound), .pd T, .hole, .hole, .hole, .hole, .hole] = some ((List.range pb.costs.length).zipIdx.map fun z : Nat × Nat => .tuple [.int (z.2 : Int), itemP pb (fun r => treeP pb bound d (choice ++ [r]) (cost + pb.costs.getD r 0)) choice z.1], [gvD pb limit places best, .pd (.list (natsL choice)), .pd (.int cost), .pd (encO bound), .pd T, .hole, .hole, .hole, .hole, .hole]) := by
        simp only [dItA_, dArgs_cons, dArgs_nil, dBin_, dV_, dC_, List.getElem?_cons_succ, List.getElem?_cons_zero, Option.bind_some, i1, Option.map_some, enumAP_list, enumL_map]
      rw [seq_nx (ρ1 := [gvD pb limit places best, .pd (.list (natsL choice)), .pd (.int cost), .pd (encO bound), .pd T, d5, d6, d7, d8, d9]) (by rw [dFor_, e0, Option.bind_some]; exact L)]
      rfl
end
end HW

namespace HW
open PySem PySem.Spec PyProof.Rows L2
noncomputable section
/-! ### what the search finds -/
def better (b : Bst) (z : Int × List Nat) : Bst := if pruned b z.1 then b else some z
def leaves (pb : Pb) : Nat → List Nat → Int → List (Int × List Nat)
  | 0, choice, cost => [(cost, choice)]
  | d + 1, choice, cost => (List.range pb.costs.length).flatMap fun r => if (clash pb.near pb.good choice choice.length r).isNone then leaves pb d (choice ++ [r]) (cost + pb.costs.getD r 0) else []
def sumC (pb : Pb) (e : List Nat) : Int := (e.map fun r => pb.costs.getD r 0).sum
def NonNeg (pb : Pb) : Prop := ∀ r, 0 ≤ pb.costs.getD r 0
theorem leaves_ge (pb : Pb) (hn : NonNeg pb) : ∀ (d : Nat) (choice : List Nat) (cost : Int), ∀ z ∈ leaves pb d choice cost, cost ≤ z.1
  | 0, choice, cost, z, hz => by
    rw [leaves, List.mem_singleton] at hz
    rw [hz]
    exact Int.le_refl _
  | d + 1, choice, cost, z, hz => by
    rw [leaves, List.mem_flatMap] at hz
    obtain ⟨r, _, hz⟩ := hz
    split at hz
    · have := leaves_ge pb hn d _ _ z hz
      have := hn r
      omega
    · simp at hz
theorem better_keep {b : Bst} {cost : Int} (hp : pruned b cost = true) : ∀ zs : List (Int × List Nat), (∀ z ∈ zs, cost ≤ z.1) → zs.foldl better b = b
  | [], _ => rfl
  | z :: zs, h => by
    have h1 := h z (by simp)
    have e : better b z = b := by
      unfold better
      have : pruned b z.1 = true := by
        cases b with
        | none => simp [pruned] at hp
        | some c => simp [pruned] at hp ⊢; omega
      rw [if_pos this]
    rw [List.foldl_cons, e]
    exact better_keep hp zs fun y hy => h y (by simp [hy])
theorem go_is (pb : Pb) (hn : NonNeg pb) : ∀ (d : Nat) (choice : List Nat) (cost : Int) (s : GS), (goR pb d choice cost s).2 = (leaves pb d choice cost).foldl better s.2
  | 0, choice, cost, s => by
    unfold goR leaves
    rw [List.foldl_cons, List.foldl_nil]
    unfold better
    split <;> rfl
  | d + 1, choice, cost, s => by
    cases hp : pruned s.2 cost with
    | true =>
      rw [better_keep hp _ (leaves_ge pb hn (d + 1) choice cost)]
      unfold goR
      rw [if_pos hp]
    | false =>
      unfold goR leaves
      rw [if_neg (by rw [hp]; exact Bool.false_ne_true)]
      have go : ∀ (rs : List Nat) (t : GS), (rs.foldl (fun s r => if (clash pb.near pb.good choice choice.length r).isNone then goR pb d (choice ++ [r]) (cost + pb.costs.getD r 0) s else s) t).2 =
          (rs.flatMap fun r => if (clash pb.near pb.good choice choice.length r).isNone then leaves pb d (choice ++ [r]) (cost + pb.costs.getD r 0) else []).foldl better t.2 := by
        intro rs
        induction rs with
        | nil => intro t; rfl
        | cons r rs ih =>
          intro t
          rw [List.foldl_cons, ih, List.flatMap_cons, List.foldl_append]
          congr 1
          split
          · exact go_is pb hn d _ _ t
          · rfl
      exact go _ _
theorem better_best : ∀ (zs : List (Int × List Nat)) (b : Bst), match zs.foldl better b with
    | none => b = none ∧ zs = []
    | some z => (b = some z ∨ z ∈ zs) ∧ (∀ y ∈ zs, z.1 ≤ y.1) ∧ ∀ y, b = some y → z.1 ≤ y.1
  | [], b => by
    cases b with
    | none => exact ⟨rfl, rfl⟩
    | some z => exact ⟨Or.inl rfl, by simp, fun y hy => by cases hy; exact Int.le_refl _⟩
  | x :: zs, b => by
    rw [List.foldl_cons]
    have ih := better_best zs (better b x)
    have hb : ∃ y, better b x = some y ∧ y.1 ≤ x.1 ∧ (b = some y ∨ y = x) ∧ ∀ w, b = some w → y.1 ≤ w.1 := by
      unfold better
      cases b with
      | none => exact ⟨x, rfl, Int.le_refl _, Or.inr rfl, by simp⟩
      | some c =>
        by_cases hc : c.1 ≤ x.1
        · exact ⟨c, by simp [pruned, hc], hc, Or.inl rfl, fun w hw => by cases hw; exact Int.le_refl _⟩
        · exact ⟨x, by simp [pruned, hc], Int.le_refl _, Or.inr rfl, fun w hw => by cases hw; omega⟩
    obtain ⟨y, e, h1, h2, h3⟩ := hb
    cases hf : zs.foldl better (better b x) with
    | none =>
      rw [hf] at ih
      rw [e] at ih
      simp at ih
    | some z =>
      rw [hf] at ih
      obtain ⟨i1, i2, i3⟩ := ih
      have i4 := i3 y e
      refine ⟨?_, fun w hw => ?_, fun w hw => ?_⟩
      · rcases i1 with i1 | i1
        · rw [e] at i1
          cases i1
          rcases h2 with h2 | h2
          · exact Or.inl h2
          · exact Or.inr (by simp [h2])
        · exact Or.inr (by simp [i1])
      · rcases List.mem_cons.mp hw with rfl | hw
        · omega
        · exact i2 w hw
      · have := h3 w hw
        omega
theorem cov_of (pb : Pb) (bound : Option Int) : ∀ (d : Nat) (choice : List Nat) (cost : Int), (∀ z ∈ leaves pb d choice cost, hit bound z.1 = true) → Cov pb bound d choice cost
  | 0, choice, cost, h => h (cost, choice) (by simp [leaves])
  | d + 1, choice, cost, h => Or.inr fun r hr hcl => cov_of pb bound d _ _ fun z hz => h z (by
    rw [leaves, List.mem_flatMap]
    refine ⟨r, List.mem_range.mpr hr, ?_⟩
    rw [hcl]
    exact hz)
/-! ### the leaves are the choices without a clash -/
theorem clash_congr {near : List (Nat × Nat)} {good : List (List Bool)} {a b : List Nat} {mark r : Nat} (h : ∀ k, k < mark → a.getD k 0 = b.getD k 0) : clash near good a mark r = clash near good b mark r := by
  unfold clash
  have : ∀ xs : List Nat, (∀ x ∈ xs, x < mark) → xs.find? (clashAt near good a mark r) = xs.find? (clashAt near good b mark r) := by
    intro xs
    induction xs with
    | nil => intro _; rfl
    | cons x xs ih =>
      intro hx
      have e : clashAt near good a mark r x = clashAt near good b mark r x := by
        unfold clashAt
        rw [h x (hx x (by simp))]
      rw [List.find?_cons, List.find?_cons, e, ih fun y hy => hx y (by simp [hy])]
  exact this _ fun x hx => List.mem_range.mp hx
theorem getD_app_lt (a b : List Nat) (k : Nat) (h : k < a.length) : (a ++ b).getD k 0 = a.getD k 0 := by
  simp [List.getD, List.getElem?_append_left h]
theorem mem_leaves (pb : Pb) : ∀ (d : Nat) (choice : List Nat) (cost : Int) (z : Int × List Nat), z ∈ leaves pb d choice cost ↔
    ∃ e : List Nat, z = (cost + sumC pb e, choice ++ e) ∧ e.length = d ∧ (∀ r ∈ e, r < pb.costs.length) ∧ ∀ m, choice.length ≤ m → m < choice.length + d → clash pb.near pb.good (choice ++ e) m ((choice ++ e).getD m 0) = none
  | 0, choice, cost, z => by
    rw [leaves, List.mem_singleton]
    constructor
    · intro h
      exact ⟨[], by simp [h, sumC], rfl, by simp, fun m h1 h2 => by omega⟩
    · rintro ⟨e, h1, h2, _, _⟩
      have : e = [] := List.eq_nil_of_length_eq_zero h2
      subst this
      simpa [sumC] using h1
  | d + 1, choice, cost, z => by
    rw [leaves, List.mem_flatMap]
    constructor
    · rintro ⟨r, hr, hz⟩
      split at hz
      · rename_i hcl
        obtain ⟨e, h1, h2, h3, h4⟩ := (mem_leaves pb d _ _ z).mp hz
        refine ⟨r :: e, ?_, by simp [h2], fun x hx => ?_, fun m q1 q2 => ?_⟩
        · rw [h1]
          simp [sumC, Int.add_assoc]
        · rcases List.mem_cons.mp hx with rfl | hx
          · exact List.mem_range.mp hr
          · exact h3 x hx
        · have ea : choice ++ r :: e = (choice ++ [r]) ++ e := by simp
          rw [ea]
          by_cases hm : m = choice.length
          · subst hm
            have eg : ((choice ++ [r]) ++ e).getD choice.length 0 = r := by simp [List.getD]
            rw [eg, clash_congr (b := choice) (fun k hk => by rw [List.append_assoc, getD_app_lt _ _ _ hk])]
            simpa using hcl
          · exact h4 m (by simp; omega) (by simp; omega)
      · simp at hz
    · rintro ⟨e, h1, h2, h3, h4⟩
      cases e with
      | nil => simp at h2
      | cons r e =>
        have hr := h3 r (by simp)
        refine ⟨r, List.mem_range.mpr hr, ?_⟩
        have ea : choice ++ r :: e = (choice ++ [r]) ++ e := by simp
        have hcl : clash pb.near pb.good choice choice.length r = none := by
          have := h4 choice.length (Nat.le_refl _) (by omega)
          have eg : (choice ++ r :: e).getD choice.length 0 = r := by simp [List.getD]
          rw [eg, clash_congr (b := choice) (fun k hk => by rw [getD_app_lt _ _ _ hk])] at this
          exact this
        rw [hcl]
        refine (mem_leaves pb d _ _ z).mpr ⟨e, ?_, by simpa using h2, fun x hx => h3 x (by simp [hx]), fun m q1 q2 => ?_⟩
        · rw [h1]
          simp [sumC, Int.add_assoc]
        · simp at q1 q2
          rw [← ea]
          exact h4 m (by omega) (by omega)
def bestOf (pb : Pb) : Bst := (goR pb pb.count [] 0 (0, none)).2
theorem best_is (pb : Pb) (hn : NonNeg pb) : match bestOf pb with
    | none => leaves pb pb.count [] 0 = []
    | some z => z ∈ leaves pb pb.count [] 0 ∧ ∀ y ∈ leaves pb pb.count [] 0, z.1 ≤ y.1 := by
  have h := better_best (leaves pb pb.count [] 0) none
  have e : bestOf pb = (leaves pb pb.count [] 0).foldl better none := go_is pb hn _ _ _ _
  rw [e]
  cases hb : (leaves pb pb.count [] 0).foldl better none with
  | none => rw [hb] at h; exact h.2
  | some z =>
    rw [hb] at h
    exact ⟨h.1.resolve_left (by simp), h.2.1⟩
end
end HW

namespace HW
open PySem PySem.Spec PyProof.Rows L2
noncomputable section
/-! ### choice_of -/
theorem meth_at {i : Nat} {ρ : Sl} {pb : Pb} {limit places : Int} {best : Bst} {n : Nat} {m : Str} {fd : D → List P → Option (D × D)} {e : EL} {ps : List P} {d1 d2 : D} (hm : (m == ("count" : Str)) = false ∧ (m == ("near" : Str)) = false ∧ (m == ("good" : Str)) = false ∧ (m == ("costs" : Str)) = false ∧ (m == ("limit" : Str)) = false ∧ (m == ("places" : Str)) = false ∧ (m == ("best" : Str)) = false)
    (hi : ρ[i]? = some (gvD pb limit places best)) (he : e ρ = some (ps, ρ)) (hn : ps.length = n) (hf : fd (gvD pb limit places best) ps = some (d1, d2)) : dMeth n i m fd e ρ = some (d2, ρ.set i d1) := by
  have lk : ∃ fs, gvD pb limit places best = .ob "Giving" fs ∧ (fs.lookup m).isNone = true := by
    refine ⟨_, rfl, ?_⟩
    obtain ⟨h1, h2, h3, h4, h5, h6, h7⟩ := hm
    simp only [List.lookup, h1, h2, h3, h4, h5, h6, h7]
    rfl
  obtain ⟨fs, f1, f2⟩ := lk
  rw [f1] at hi hf
  rw [dMeth_, hi]
  dsimp only
  rw [if_pos f2, he, Option.bind_some]
  dsimp only
  rw [if_pos hn, hi]
  dsimp only
  rw [hf]
  rfl
def toldOf (pb : Pb) : P := match bestOf pb with
  | none => .tuple [.str "never", treeP pb none pb.count [] 0]
  | some (c, ch) => .tuple [.str "given", .list (natsL ch), .int c, treeP pb (some c) pb.count [] 0]
theorem cov_best (pb : Pb) (hn : NonNeg pb) : Cov pb ((bestOf pb).map (·.1)) pb.count [] 0 := by
  have b := best_is pb hn
  refine cov_of pb _ _ _ _ fun z hz => ?_
  cases hb : bestOf pb with
  | none =>
    rw [hb] at b
    dsimp only at b
    rw [b] at hz
    simp at hz
  | some w =>
    rw [hb] at b
    simpa [hit] using b.2 z hz
theorem choice_of_sem (pb : Pb) (ok : PbOk pb) (hn : NonNeg pb) (hc : pb.count < 6) (hl : nodes pb.costs.length pb.count ≤ 9999) :
    choice_of_s [.int (pb.count : Int), .list (pb.near.map encPr), .list (encGood pb.good), .list (intsL pb.costs), .int 9999] = some (toldOf pb) := by
  have gs := go_sem pb ok 9999 pb.count 6 [] 0 (0, none) (by simp) (by omega) (by simp) (by simpa using hl)
  have cv := cov_best pb hn
  have eb : (goR pb pb.count [] 0 (0, none)).2 = bestOf pb := rfl
  rw [eb] at gs
  generalize (goR pb pb.count [] 0 (0, none)).1 = pl at gs
  have i0 := init_sem pb 9999
  have h : ∃ ρ', choice_of_d ([.pd (.int (pb.count : Int)), .pd (.list (pb.near.map encPr)), .pd (.list (encGood pb.good)), .pd (.list (intsL pb.costs)), .pd (.int 9999), .hole, .hole, .hole]) = some (.rt (.pd (toldOf pb)), ρ') := by
    unfold toldOf
    unfold choice_of_d
    rw [seq_nx (ρ1 := [.pd (.int (pb.count : Int)), .pd (.list (pb.near.map encPr)), .pd (.list (encGood pb.good)), .pd (.list (intsL pb.costs)), .pd (.int 9999), gvD pb 9999 0 none, .hole, .hole]) (by
      rw [dSet_, dMake_]
      show (((Giving_init_s (.ob "Giving" []) [.int (pb.count : Int), .list (pb.near.map encPr), .list (encGood pb.good), .list (intsL pb.costs), .int 9999]).bind fun y => match y.2 with | .pd .none => some (y.1, [.pd (.int (pb.count : Int)), .pd (.list (pb.near.map encPr)), .pd (.list (encGood pb.good)), .pd (.list (intsL pb.costs)), .pd (.int 9999), .hole, .hole, .hole]) | _ => none).map fun x => ((Fl.nx : Fl), x.2.set 5 x.1)) = _
      rw [i0]
      rfl)]
    rw [seq_nx (ρ1 := [.pd (.int (pb.count : Int)), .pd (.list (pb.near.map encPr)), .pd (.list (encGood pb.good)), .pd (.list (intsL pb.costs)), .pd (.int 9999), gvD pb 9999 pl (bestOf pb), .hole, .hole]) (by
      rw [dDo_, meth_at (n := 2) (i := 5) (ρ := [.pd (.int (pb.count : Int)), .pd (.list (pb.near.map encPr)), .pd (.list (encGood pb.good)), .pd (.list (intsL pb.costs)), .pd (.int 9999), gvD pb 9999 0 none, .hole, .hole]) (by decide) rfl rfl rfl gs]
      rfl)]
    have f5 : dFld 5 "best" ([.pd (.int (pb.count : Int)), .pd (.list (pb.near.map encPr)), .pd (.list (encGood pb.good)), .pd (.list (intsL pb.costs)), .pd (.int 9999), gvD pb 9999 pl (bestOf pb), .hole, .hole]) = some (encBst (bestOf pb), [.pd (.int (pb.count : Int)), .pd (.list (pb.near.map encPr)), .pd (.list (encGood pb.good)), .pd (.list (intsL pb.costs)), .pd (.int 9999), gvD pb 9999 pl (bestOf pb), .hole, .hole]) := rfl
    cases hb : bestOf pb with
    | none =>
      rw [hb] at f5 cv
      have tr := tree_sem pb ok 9999 pl none none pb.count 6 [] 0 (by simp) (by omega) (by simp) cv
      have em := meth_at (n := 3) (i := 5) (m := "tree") (ρ := [.pd (.int (pb.count : Int)), .pd (.list (pb.near.map encPr)), .pd (.list (encGood pb.good)), .pd (.list (intsL pb.costs)), .pd (.int 9999), gvD pb 9999 pl none, .hole, .hole]) (e := dArgs [(dLst (dArgs [])), (dC (.int 0)), (dC .none)]) (by decide) rfl rfl rfl tr
      have ef : dFr (dMeth 3 5 "tree" (Giving_tree_s 6) (dArgs [(dLst (dArgs [])), (dC (.int 0)), (dC .none)])) [.pd (.int (pb.count : Int)), .pd (.list (pb.near.map encPr)), .pd (.list (encGood pb.good)), .pd (.list (intsL pb.costs)), .pd (.int 9999), gvD pb 9999 pl none, .hole, .hole] = some (treeP pb none pb.count [] 0, [.pd (.int (pb.count : Int)), .pd (.list (pb.near.map encPr)), .pd (.list (encGood pb.good)), .pd (.list (intsL pb.costs)), .pd (.int 9999), gvD pb 9999 pl none, .hole, .hole]) := by rw [dFr_, em]; rfl
      exact ⟨_, seq_rt (Eq.trans (if_t (isN_by f5)) (ret_of (tup_of (arg_of (dC_) (arg_of ef dArgs_nil)))))⟩
    | some z =>
      obtain ⟨c, ch⟩ := z
      rw [hb] at f5 cv
      have tr := tree_sem pb ok 9999 pl (some (c, ch)) (some c) pb.count 6 [] 0 (by simp) (by omega) (by simp) cv
      have em := meth_at (n := 3) (i := 5) (m := "tree") (ρ := [.pd (.int (pb.count : Int)), .pd (.list (pb.near.map encPr)), .pd (.list (encGood pb.good)), .pd (.list (intsL pb.costs)), .pd (.int 9999), gvD pb 9999 pl (some (c, ch)), .pd (.int c), .pd (.list (natsL ch))]) (e := dArgs [(dLst (dArgs [])), (dC (.int 0)), (dV 6)]) (by decide) rfl rfl rfl tr
      rw [seq_nx (ρ1 := [.pd (.int (pb.count : Int)), .pd (.list (pb.near.map encPr)), .pd (.list (encGood pb.good)), .pd (.list (intsL pb.costs)), .pd (.int 9999), gvD pb 9999 pl (some (c, ch)), .hole, .hole]) (by
        rw [dIfS_, dIsN_, f5]
        rfl)]
      rw [seq_nx (ρ1 := [.pd (.int (pb.count : Int)), .pd (.list (pb.near.map encPr)), .pd (.list (encGood pb.good)), .pd (.list (intsL pb.costs)), .pd (.int 9999), gvD pb 9999 pl (some (c, ch)), .pd (.int c), .pd (.list (natsL ch))]) (by
        rw [dTgt_, f5]
        rfl)]
      have v7 : dV 7 ([.pd (.int (pb.count : Int)), .pd (.list (pb.near.map encPr)), .pd (.list (encGood pb.good)), .pd (.list (intsL pb.costs)), .pd (.int 9999), gvD pb 9999 pl (some (c, ch)), .pd (.int c), .pd (.list (natsL ch))]) = some (.list (natsL ch), [.pd (.int (pb.count : Int)), .pd (.list (pb.near.map encPr)), .pd (.list (encGood pb.good)), .pd (.list (intsL pb.costs)), .pd (.int 9999), gvD pb 9999 pl (some (c, ch)), .pd (.int c), .pd (.list (natsL ch))]) := rfl
      have v6 : dV 6 ([.pd (.int (pb.count : Int)), .pd (.list (pb.near.map encPr)), .pd (.list (encGood pb.good)), .pd (.list (intsL pb.costs)), .pd (.int 9999), gvD pb 9999 pl (some (c, ch)), .pd (.int c), .pd (.list (natsL ch))]) = some (.int c, [.pd (.int (pb.count : Int)), .pd (.list (pb.near.map encPr)), .pd (.list (encGood pb.good)), .pd (.list (intsL pb.costs)), .pd (.int 9999), gvD pb 9999 pl (some (c, ch)), .pd (.int c), .pd (.list (natsL ch))]) := rfl
      have ef : dFr (dMeth 3 5 "tree" (Giving_tree_s 6) (dArgs [(dLst (dArgs [])), (dC (.int 0)), (dV 6)])) [.pd (.int (pb.count : Int)), .pd (.list (pb.near.map encPr)), .pd (.list (encGood pb.good)), .pd (.list (intsL pb.costs)), .pd (.int 9999), gvD pb 9999 pl (some (c, ch)), .pd (.int c), .pd (.list (natsL ch))] = some (treeP pb (some c) pb.count [] 0, [.pd (.int (pb.count : Int)), .pd (.list (pb.near.map encPr)), .pd (.list (encGood pb.good)), .pd (.list (intsL pb.costs)), .pd (.int 9999), gvD pb 9999 pl (some (c, ch)), .pd (.int c), .pd (.list (natsL ch))]) := by rw [dFr_, em]; rfl
      exact ⟨_, ret_of (tup_of (arg_of dC_ (arg_of v7 (arg_of v6 (arg_of ef dArgs_nil)))))⟩
  obtain ⟨ρ', h⟩ := h
  exact runQ_of (d := .pd (toldOf pb)) rfl h (frz_pd _)
end
end HW

namespace HW
open PySem PySem.Spec PyProof.Rows L2
noncomputable section
/-! ### choice_fault finds nothing -/
theorem allP_true (bs : List Bool) (h : ∀ b ∈ bs, b = true) : allP [.list (bs.map .bool)] = some (.bool true) := by
  show (bolsP (bs.map .bool)).map _ = _
  rw [bolsP_map, Option.map_some]
  congr 2
  rw [List.all_eq_true]
  exact h
theorem fault_sem (pb : Pb) (ok : PbOk pb) (hn : NonNeg pb) (hc : pb.count < 6) :
    choice_fault_s [.int (pb.count : Int), .list (pb.near.map encPr), .list (encGood pb.good), .list (intsL pb.costs), toldOf pb] = some .none := by
  have cv := cov_best pb hn
  have bi := best_is pb hn
  have i0 := init_sem pb 0
  have few := ok.few
  have h : ∃ ρ', choice_fault_d [.pd (.int (pb.count : Int)), .pd (.list (pb.near.map encPr)), .pd (.list (encGood pb.good)), .pd (.list (intsL pb.costs)), .pd (toldOf pb), .hole, .hole, .hole, .hole, .hole, .hole, .hole, .hole, .hole] = some (.rt (.pd .none), ρ') := by
    unfold choice_fault_d
    rw [seq_nx (ρ1 := [.pd (.int (pb.count : Int)), .pd (.list (pb.near.map encPr)), .pd (.list (encGood pb.good)), .pd (.list (intsL pb.costs)), .pd (toldOf pb), gvD pb 0 0 none, .hole, .hole, .hole, .hole, .hole, .hole, .hole, .hole]) (by
      rw [dSet_, dMake_]
      show (((Giving_init_s (.ob "Giving" []) [.int (pb.count : Int), .list (pb.near.map encPr), .list (encGood pb.good), .list (intsL pb.costs), .int 0]).bind fun y => match y.2 with | .pd .none => some (y.1, [.pd (.int (pb.count : Int)), .pd (.list (pb.near.map encPr)), .pd (.list (encGood pb.good)), .pd (.list (intsL pb.costs)), .pd (toldOf pb), .hole, .hole, .hole, .hole, .hole, .hole, .hole, .hole, .hole]) | _ => none).map fun x => ((Fl.nx : Fl), x.2.set 5 x.1)) = _
      rw [i0]
      rfl)]
    unfold toldOf
    cases hb : bestOf pb with
    | none =>
      rw [hb] at cv
      have pt := path_sem pb ok 0 0 none none pb.count 6 [] 0 (by simp) (by omega) (by simp) cv
      dsimp only
      generalize treeP pb none pb.count [] 0 = T at *
      have c0 : dCmp eqP (dBin idxP (dV 4) (dC (.int 0))) (dC (.str "never")) [.pd (.int (pb.count : Int)), .pd (.list (pb.near.map encPr)), .pd (.list (encGood pb.good)), .pd (.list (intsL pb.costs)), .pd (.tuple [.str "never", T]), gvD pb 0 0 none, .hole, .hole, .hole, .hole, .hole, .hole, .hole, .hole] = some (true, [.pd (.int (pb.count : Int)), .pd (.list (pb.near.map encPr)), .pd (.list (encGood pb.good)), .pd (.list (intsL pb.costs)), .pd (.tuple [.str "never", T]), gvD pb 0 0 none, .hole, .hole, .hole, .hole, .hole, .hole, .hole, .hole]) :=
        cmp_of (bin_of (v_of rfl) dC_ (atI_zero _ _)) dC_ (way_eq _)
      have v1 : dBin idxP (dV 4) (dC (.int 1)) [.pd (.int (pb.count : Int)), .pd (.list (pb.near.map encPr)), .pd (.list (encGood pb.good)), .pd (.list (intsL pb.costs)), .pd (.tuple [.str "never", T]), gvD pb 0 0 none, .hole, .hole, .hole, .hole, .hole, .hole, .hole, .hole] = some (T, [.pd (.int (pb.count : Int)), .pd (.list (pb.near.map encPr)), .pd (.list (encGood pb.good)), .pd (.list (intsL pb.costs)), .pd (.tuple [.str "never", T]), gvD pb 0 0 none, .hole, .hole, .hole, .hole, .hole, .hole, .hole, .hole]) := bin_of (v_of rfl) dC_ (atI_one _ _ _)
      have ea : dArgs [(dLst (dArgs [])), (dC (.int 0)), (dC .none), (dBin idxP (dV 4) (dC (.int 1)))] [.pd (.int (pb.count : Int)), .pd (.list (pb.near.map encPr)), .pd (.list (encGood pb.good)), .pd (.list (intsL pb.costs)), .pd (.tuple [.str "never", T]), gvD pb 0 0 none, .hole, .hole, .hole, .hole, .hole, .hole, .hole, .hole] = some ([.list (natsL []), .int 0, encO none, T], [.pd (.int (pb.count : Int)), .pd (.list (pb.near.map encPr)), .pd (.list (encGood pb.good)), .pd (.list (intsL pb.costs)), .pd (.tuple [.str "never", T]), gvD pb 0 0 none, .hole, .hole, .hole, .hole, .hole, .hole, .hole, .hole]) := arg_of (lst_of dArgs_nil) (arg_of dC_ (arg_of dC_ (arg_of v1 dArgs_nil)))
      have em := meth_at (n := 4) (i := 5) (m := "path") (ρ := [.pd (.int (pb.count : Int)), .pd (.list (pb.near.map encPr)), .pd (.list (encGood pb.good)), .pd (.list (intsL pb.costs)), .pd (.tuple [.str "never", T]), gvD pb 0 0 none, .hole, .hole, .hole, .hole, .hole, .hole, .hole, .hole]) (by decide) rfl ea rfl pt
      have es : dSet 6 (dPd (dFr (dMeth 4 5 "path" (Giving_path_s 6) (dArgs [(dLst (dArgs [])), (dC (.int 0)), (dC .none), (dBin idxP (dV 4) (dC (.int 1)))])))) [.pd (.int (pb.count : Int)), .pd (.list (pb.near.map encPr)), .pd (.list (encGood pb.good)), .pd (.list (intsL pb.costs)), .pd (.tuple [.str "never", T]), gvD pb 0 0 none, .hole, .hole, .hole, .hole, .hole, .hole, .hole, .hole] = some (.nx, [.pd (.int (pb.count : Int)), .pd (.list (pb.near.map encPr)), .pd (.list (encGood pb.good)), .pd (.list (intsL pb.costs)), .pd (.tuple [.str "never", T]), gvD pb 0 0 none, .pd .none, .hole, .hole, .hole, .hole, .hole, .hole, .hole]) :=
        set_of (p := .none) (fr_of em (frz_pd _))
      exact ⟨_, seq_rt (Eq.trans (if_t c0) (Eq.trans (seq_nx es) rfl))⟩
    | some z =>
      obtain ⟨c, ch⟩ := z
      rw [hb] at cv bi
      obtain ⟨e, h1, h2, h3, h4⟩ := (mem_leaves pb pb.count [] 0 (c, ch)).mp bi.1
      simp only [List.nil_append, List.length_nil, Nat.zero_add, Int.zero_add, Prod.mk.injEq] at h1 h4
      obtain ⟨h1, rfl⟩ := h1
      have pt := path_sem pb ok 0 0 none (some c) pb.count 6 [] 0 (by simp) (by omega) (by simp) cv
      dsimp only
      generalize treeP pb (some c) pb.count [] 0 = T at *
      have c0 : dCmp eqP (dBin idxP (dV 4) (dC (.int 0))) (dC (.str "never")) [.pd (.int (pb.count : Int)), .pd (.list (pb.near.map encPr)), .pd (.list (encGood pb.good)), .pd (.list (intsL pb.costs)), .pd (.tuple [.str "given", .list (natsL ch), .int c, T]), gvD pb 0 0 none, .hole, .hole, .hole, .hole, .hole, .hole, .hole, .hole] = some (false, [.pd (.int (pb.count : Int)), .pd (.list (pb.near.map encPr)), .pd (.list (encGood pb.good)), .pd (.list (intsL pb.costs)), .pd (.tuple [.str "given", .list (natsL ch), .int c, T]), gvD pb 0 0 none, .hole, .hole, .hole, .hole, .hole, .hole, .hole, .hole]) :=
        cmp_of (bin_of (v_of rfl) dC_ (atI_zero _ _)) dC_ (way_ne (by decide))
      have hlen : (natsL ch).length = pb.count := by simp [natsL, h2]
      rw [seq_nx (if_f c0), seq_nx (ρ1 := [.pd (.int (pb.count : Int)), .pd (.list (pb.near.map encPr)), .pd (.list (encGood pb.good)), .pd (.list (intsL pb.costs)), .pd (.tuple [.str "given", .list (natsL ch), .int c, T]), gvD pb 0 0 none, .hole, .pd (.str "given"), .pd (.list (natsL ch)), .pd (.int c), .pd T, .hole, .hole, .hole]) rfl]
      have cm : dComp (dIt (dV 8)) [13] (.nm 13) dYes (dB (dChn leP ltP (dC (.int 0)) (dV 13) (dCall lenP (dArgs [(dV 3)])))) [.pd (.int (pb.count : Int)), .pd (.list (pb.near.map encPr)), .pd (.list (encGood pb.good)), .pd (.list (intsL pb.costs)), .pd (.tuple [.str "given", .list (natsL ch), .int c, T]), gvD pb 0 0 none, .hole, .pd (.str "given"), .pd (.list (natsL ch)), .pd (.int c), .pd T, .hole, .hole, .hole] = some (ch.map fun _ => .bool true, [.pd (.int (pb.count : Int)), .pd (.list (pb.near.map encPr)), .pd (.list (encGood pb.good)), .pd (.list (intsL pb.costs)), .pd (.tuple [.str "given", .list (natsL ch), .int c, T]), gvD pb 0 0 none, .hole, .pd (.str "given"), .pd (.list (natsL ch)), .pd (.int c), .pd T, .hole, .hole, .hole]) :=
        dComp_map (fun n : Nat => .int (n : Int)) (fun _ => .bool true) ch _ _ (it_of (v_of rfl) rfl) (by omega) rfl rfl fun x hx => ⟨_, rfl, by
          have hx' := h3 x hx
          have m1 : decide ((0 : Int) ≤ (x : Int)) = true := decide_eq_true (by omega)
          have m2 : decide ((x : Int) < (pb.costs.length : Int)) = true := decide_eq_true (by omega)
          simp [wipeR, dChn_, intsL_len, hx']⟩
      have t1 : dOr (dCmp neP (dCall lenP (dArgs [(dV 8)])) (dV 0)) (dNot (dTru (dCall allP (dArgs [(dLst (dComp (dIt (dV 8)) [13] (.nm 13) dYes (dB (dChn leP ltP (dC (.int 0)) (dV 13) (dCall lenP (dArgs [(dV 3)]))))))])))) [.pd (.int (pb.count : Int)), .pd (.list (pb.near.map encPr)), .pd (.list (encGood pb.good)), .pd (.list (intsL pb.costs)), .pd (.tuple [.str "given", .list (natsL ch), .int c, T]), gvD pb 0 0 none, .hole, .pd (.str "given"), .pd (.list (natsL ch)), .pd (.int c), .pd T, .hole, .hole, .hole] = some (false, [.pd (.int (pb.count : Int)), .pd (.list (pb.near.map encPr)), .pd (.list (encGood pb.good)), .pd (.list (intsL pb.costs)), .pd (.tuple [.str "given", .list (natsL ch), .int c, T]), gvD pb 0 0 none, .hole, .pd (.str "given"), .pd (.list (natsL ch)), .pd (.int c), .pd T, .hole, .hole, .hole]) := by
        have q1 := allP_true (ch.map fun _ => true) (by simp)
        rw [List.map_map] at q1
        rw [or_f (cmp_of (call_of (arg_of (v_of rfl) dArgs_nil) (by rw [lenP_list, hlen])) (v_of rfl) (neP_refl rfl (by simp)))]
        rw [not_of (b := true)]
        · rfl
        · rw [dTru_, call_of (arg_of (lst_of cm) dArgs_nil) q1]
          rfl
      rw [seq_nx (if_f t1)]
      have body : ∀ (m : Nat) (ρ : Sl), m ∈ List.range pb.count → (∃ d11 d12, ρ = [.pd (.int (pb.count : Int)), .pd (.list (pb.near.map encPr)), .pd (.list (encGood pb.good)), .pd (.list (intsL pb.costs)), .pd (.tuple [.str "given", .list (natsL ch), .int c, T]), gvD pb 0 0 none, .hole, .pd (.str "given"), .pd (.list (natsL ch)), .pd (.int c), .pd T, d11, d12, .hole]) →
          ∃ ρ1 ρ2, bindT (.nm 11) (.int (m : Int)) ρ = some ρ1 ∧ choice_fault_b1 ρ1 = some (.nx, ρ2) ∧ (∃ d11 d12, ρ2 = [.pd (.int (pb.count : Int)), .pd (.list (pb.near.map encPr)), .pd (.list (encGood pb.good)), .pd (.list (intsL pb.costs)), .pd (.tuple [.str "given", .list (natsL ch), .int c, T]), gvD pb 0 0 none, .hole, .pd (.str "given"), .pd (.list (natsL ch)), .pd (.int c), .pd T, d11, d12, .hole]) := by
        rintro m ρ hm ⟨d11, d12, rfl⟩
        have hm' := List.mem_range.mp hm
        have ml : m < ch.length := by omega
        have eg : ch.getD m 0 = ch[m] := by simp [List.getD, ml]
        have cl := h4 m (by omega) hm'
        rw [eg] at cl
        have cw := clash_with_sem (near := pb.near) (good := pb.good) (choice := ch) (mark := m) (rhythm := ch[m]) ok.good h3 (by omega) (by omega) (h3 _ (List.getElem_mem ml))
        rw [cl] at cw
        have a1 : atI (natsL ch) (m : Int) = some (.int (ch[m] : Int)) := atI_natP (by simp [natsL, ml])
        refine ⟨_, [.pd (.int (pb.count : Int)), .pd (.list (pb.near.map encPr)), .pd (.list (encGood pb.good)), .pd (.list (intsL pb.costs)), .pd (.tuple [.str "given", .list (natsL ch), .int c, T]), gvD pb 0 0 none, .hole, .pd (.str "given"), .pd (.list (natsL ch)), .pd (.int c), .pd T, .pd (.int (m : Int)), .pd .none, .hole], rfl, ?_, _, _, rfl⟩
        show choice_fault_b1 [.pd (.int (pb.count : Int)), .pd (.list (pb.near.map encPr)), .pd (.list (encGood pb.good)), .pd (.list (intsL pb.costs)), .pd (.tuple [.str "given", .list (natsL ch), .int c, T]), gvD pb 0 0 none, .hole, .pd (.str "given"), .pd (.list (natsL ch)), .pd (.int c), .pd T, .pd (.int (m : Int)), d12, .hole] = _
        unfold choice_fault_b1
        rw [seq_nx (ρ1 := [.pd (.int (pb.count : Int)), .pd (.list (pb.near.map encPr)), .pd (.list (encGood pb.good)), .pd (.list (intsL pb.costs)), .pd (.tuple [.str "given", .list (natsL ch), .int c, T]), gvD pb 0 0 none, .hole, .pd (.str "given"), .pd (.list (natsL ch)), .pd (.int c), .pd T, .pd (.int (m : Int)), .pd .none, .hole])
          (set_of (p := .none) (callN_of (arg_of (v_of rfl) (arg_of (v_of rfl) (arg_of (v_of rfl) (arg_of (v_of rfl) (arg_of (bin_of (v_of rfl) (v_of rfl) (by rw [idxP_list, a1])) dArgs_nil))))) rfl cw))]
        rfl
      obtain ⟨ρ', L, d11, d12, hρ⟩ := forL_all (t := .nm 11) (body := choice_fault_b1) (fun m : Nat => .int (m : Int)) (fun ρ => ∃ d11 d12, ρ = [.pd (.int (pb.count : Int)), .pd (.list (pb.near.map encPr)), .pd (.list (encGood pb.good)), .pd (.list (intsL pb.costs)), .pd (.tuple [.str "given", .list (natsL ch), .int c, T]), gvD pb 0 0 none, .hole, .pd (.str "given"), .pd (.list (natsL ch)), .pd (.int c), .pd T, d11, d12, .hole]) _ body
        [.pd (.int (pb.count : Int)), .pd (.list (pb.near.map encPr)), .pd (.list (encGood pb.good)), .pd (.list (intsL pb.costs)), .pd (.tuple [.str "given", .list (natsL ch), .int c, T]), gvD pb 0 0 none, .hole, .pd (.str "given"), .pd (.list (natsL ch)), .pd (.int c), .pd T, .hole, .hole, .hole] ⟨_, _, rfl⟩
      subst hρ
      have r1 := rng1P_nat pb.count (by omega)
      rw [seq_nx (Eq.trans (for_of (itA_of (arg_of (v_of rfl) dArgs_nil) r1)) L)]
      have c2 : dComp (dIt (dV 8)) [13] (.nm 13) dYes (dBin idxP (dV 3) (dV 13)) [.pd (.int (pb.count : Int)), .pd (.list (pb.near.map encPr)), .pd (.list (encGood pb.good)), .pd (.list (intsL pb.costs)), .pd (.tuple [.str "given", .list (natsL ch), .int c, T]), gvD pb 0 0 none, .hole, .pd (.str "given"), .pd (.list (natsL ch)), .pd (.int c), .pd T, d11, d12, .hole] = some (ch.map fun r => .int (pb.costs.getD r 0), [.pd (.int (pb.count : Int)), .pd (.list (pb.near.map encPr)), .pd (.list (encGood pb.good)), .pd (.list (intsL pb.costs)), .pd (.tuple [.str "given", .list (natsL ch), .int c, T]), gvD pb 0 0 none, .hole, .pd (.str "given"), .pd (.list (natsL ch)), .pd (.int c), .pd T, d11, d12, .hole]) :=
        dComp_map (fun n : Nat => .int (n : Int)) (fun r => .int (pb.costs.getD r 0)) ch _ _ (it_of (v_of rfl) rfl) (by omega) rfl rfl fun x hx => ⟨_, rfl, by
          have hx' := h3 x hx
          have a1 : atI (intsL pb.costs) (x : Int) = some (.int (pb.costs.getD x 0)) := atI_natP (by simp [intsL, List.getD, hx'])
          exact bin_of (v_of rfl) (v_of rfl) (by rw [idxP_list, a1])⟩
      have sm := sumP_ints (ch.map fun r => pb.costs.getD r 0)
      have es : intsL (ch.map fun r => pb.costs.getD r 0) = ch.map fun r => .int (pb.costs.getD r 0) := by simp [intsL]
      rw [es] at sm
      have ec : (ch.map fun r => pb.costs.getD r 0).sum = c := h1.symm
      rw [ec] at sm
      have t3 : dCmp neP (dCall sumP (dArgs [(dLst (dComp (dIt (dV 8)) [13] (.nm 13) dYes (dBin idxP (dV 3) (dV 13))))])) (dV 9) [.pd (.int (pb.count : Int)), .pd (.list (pb.near.map encPr)), .pd (.list (encGood pb.good)), .pd (.list (intsL pb.costs)), .pd (.tuple [.str "given", .list (natsL ch), .int c, T]), gvD pb 0 0 none, .hole, .pd (.str "given"), .pd (.list (natsL ch)), .pd (.int c), .pd T, d11, d12, .hole] = some (false, [.pd (.int (pb.count : Int)), .pd (.list (pb.near.map encPr)), .pd (.list (encGood pb.good)), .pd (.list (intsL pb.costs)), .pd (.tuple [.str "given", .list (natsL ch), .int c, T]), gvD pb 0 0 none, .hole, .pd (.str "given"), .pd (.list (natsL ch)), .pd (.int c), .pd T, d11, d12, .hole]) :=
        cmp_of (call_of (arg_of (lst_of c2) dArgs_nil) sm) (v_of rfl) (neP_refl rfl (by simp))
      rw [seq_nx (if_f t3)]
      have ea : dArgs [(dLst (dArgs [])), (dC (.int 0)), (dV 9), (dV 10)] [.pd (.int (pb.count : Int)), .pd (.list (pb.near.map encPr)), .pd (.list (encGood pb.good)), .pd (.list (intsL pb.costs)), .pd (.tuple [.str "given", .list (natsL ch), .int c, T]), gvD pb 0 0 none, .hole, .pd (.str "given"), .pd (.list (natsL ch)), .pd (.int c), .pd T, d11, d12, .hole] = some ([.list (natsL []), .int 0, encO (some c), T], [.pd (.int (pb.count : Int)), .pd (.list (pb.near.map encPr)), .pd (.list (encGood pb.good)), .pd (.list (intsL pb.costs)), .pd (.tuple [.str "given", .list (natsL ch), .int c, T]), gvD pb 0 0 none, .hole, .pd (.str "given"), .pd (.list (natsL ch)), .pd (.int c), .pd T, d11, d12, .hole]) := arg_of (lst_of dArgs_nil) (arg_of dC_ (arg_of (v_of rfl) (arg_of (v_of rfl) dArgs_nil)))
      have em := meth_at (n := 4) (i := 5) (m := "path") (ρ := [.pd (.int (pb.count : Int)), .pd (.list (pb.near.map encPr)), .pd (.list (encGood pb.good)), .pd (.list (intsL pb.costs)), .pd (.tuple [.str "given", .list (natsL ch), .int c, T]), gvD pb 0 0 none, .hole, .pd (.str "given"), .pd (.list (natsL ch)), .pd (.int c), .pd T, d11, d12, .hole]) (by decide) rfl ea rfl pt
      have es : dSet 6 (dPd (dFr (dMeth 4 5 "path" (Giving_path_s 6) (dArgs [(dLst (dArgs [])), (dC (.int 0)), (dV 9), (dV 10)])))) [.pd (.int (pb.count : Int)), .pd (.list (pb.near.map encPr)), .pd (.list (encGood pb.good)), .pd (.list (intsL pb.costs)), .pd (.tuple [.str "given", .list (natsL ch), .int c, T]), gvD pb 0 0 none, .hole, .pd (.str "given"), .pd (.list (natsL ch)), .pd (.int c), .pd T, d11, d12, .hole] = some (.nx, [.pd (.int (pb.count : Int)), .pd (.list (pb.near.map encPr)), .pd (.list (encGood pb.good)), .pd (.list (intsL pb.costs)), .pd (.tuple [.str "given", .list (natsL ch), .int c, T]), gvD pb 0 0 none, .pd .none, .pd (.str "given"), .pd (.list (natsL ch)), .pd (.int c), .pd T, d11, d12, .hole]) :=
        set_of (p := .none) (fr_of em (frz_pd _))
      exact ⟨_, Eq.trans (seq_nx es) rfl⟩
  obtain ⟨ρ', h⟩ := h
  exact runQ_of (d := .pd .none) rfl h (frz_pd _)
end
end HW

namespace HW
open PySem PySem.Spec PyProof.Rows L2
noncomputable section
/-! ### near_pairs -/
theorem mulP_sm {i j : Int} (h : -1000000 < i ∧ i < 1000000) : mulP (.int i) (.int j) = some (.int (i * j)) := by
  show @ite _ _ (Classical.propDecidable _) _ _ = _
  rw [if_pos (Or.inl ⟨by omega, by omega⟩)]
theorem rng2P_nat (a b : Nat) (ha : a < 1000000) (hb : b < 1000000) : rng2P [.int (a : Int), .int (b : Int)] = some ((List.range (b - a)).map fun k : Nat => .int ((a + k : Nat) : Int)) := by
  rw [rng2P_eq, if_pos (by omega)]
  have e : ((b : Int) - (a : Int)).toNat = b - a := by omega
  rw [e]
  unfold rngL
  congr 1
def encPl (z : Int × Int) : P := .tuple [.int z.1, .int z.2]
def pairsN (n : Nat) : List (Nat × Nat) := (List.range n).flatMap fun i => (List.range (n - (i + 1))).map fun k => (i, i + 1 + k)
def isNr (pl : List (Int × Int)) (reach : Int) (z : Nat × Nat) : Bool := decide (((pl.getD z.1 (0, 0)).1 - (pl.getD z.2 (0, 0)).1) * ((pl.getD z.1 (0, 0)).1 - (pl.getD z.2 (0, 0)).1) + ((pl.getD z.1 (0, 0)).2 - (pl.getD z.2 (0, 0)).2) * ((pl.getD z.1 (0, 0)).2 - (pl.getD z.2 (0, 0)).2) ≤ reach * reach)
def nearR (pl : List (Int × Int)) (reach : Int) : List (Nat × Nat) := (pairsN pl.length).filter (isNr pl reach)
def PlOk (pl : List (Int × Int)) : Prop := ∀ z ∈ pl, 0 ≤ z.1 ∧ z.1 < 1000 ∧ 0 ≤ z.2 ∧ z.2 < 1000
def addIf {α : Type} (p : α → Bool) (acc : List α) (x : α) : List α := if p x then acc ++ [x] else acc
theorem addIf_len {α : Type} (p : α → Bool) (acc : List α) (x : α) : (addIf p acc x).length ≤ acc.length + 1 := by
  unfold addIf
  split
  · simp
  · omega
theorem addIf_fold {α : Type} (p : α → Bool) : ∀ (xs acc : List α), xs.foldl (addIf p) acc = acc ++ xs.filter p
  | [], acc => by simp
  | x :: xs, acc => by
    rw [List.foldl_cons, addIf_fold p xs, List.filter_cons]
    unfold addIf
    split <;> simp
theorem fold_app {α β : Type} (f : α → List β) : ∀ (xs : List α) (acc : List β), xs.foldl (fun a x => a ++ f x) acc = acc ++ xs.flatMap f
  | [], acc => by simp
  | x :: xs, acc => by rw [List.foldl_cons, fold_app f xs, List.flatMap_cons, List.append_assoc]
theorem pl_at {pl : List (Int × Int)} (h : PlOk pl) {i : Nat} (hi : i < pl.length) : atI (pl.map encPl) (i : Int) = some (encPl (pl.getD i (0, 0))) ∧ 0 ≤ (pl.getD i (0, 0)).1 ∧ (pl.getD i (0, 0)).1 < 1000 ∧ 0 ≤ (pl.getD i (0, 0)).2 ∧ (pl.getD i (0, 0)).2 < 1000 := by
  have e : pl.getD i (0, 0) = pl[i] := by simp [List.getD, hi]
  rw [e]
  exact ⟨atI_natP (by simp [hi]), h _ (List.getElem_mem hi)⟩
theorem near_sem (pl : List (Int × Int)) (reach : Int) (h : PlOk pl) (hn : pl.length < 100) (hr : 0 ≤ reach ∧ reach < 1000) : near_pairs_s [.list (pl.map encPl), .int reach] = some (.list ((nearR pl reach).map encPr)) := by
  have inner : ∀ (i : Nat), i < pl.length → ∀ (ks : List Nat) (acc : List (Nat × Nat)) (ρ : Sl), ((∀ k ∈ ks, i + 1 + k < pl.length) ∧ acc.length + ks.length < 100000) → (∃ d4 d5 d6, ρ = [.pd (.list (pl.map encPl)), .pd (.int reach), .ol (pds (acc.map encPr)), .pd (.int (i : Int)), d4, d5, d6]) →
      ∃ ρ', forL (.nm 4) near_pairs_b1 (ks.map fun k : Nat => .int ((i + 1 + k : Nat) : Int)) ρ = some (.nx, ρ') ∧ ∃ d4 d5 d6, ρ' = [.pd (.list (pl.map encPl)), .pd (.int reach), .ol (pds ((ks.foldl (fun acc k => addIf (isNr pl reach) acc (i, i + 1 + k)) acc).map encPr)), .pd (.int (i : Int)), d4, d5, d6] := fun i hi ks acc ρ hI hs =>
    forL_rel (t := .nm 4) (body := near_pairs_b1) (fun k : Nat => .int ((i + 1 + k : Nat) : Int)) (fun (acc : List (Nat × Nat)) ρ => ∃ d4 d5 d6, ρ = [.pd (.list (pl.map encPl)), .pd (.int reach), .ol (pds (acc.map encPr)), .pd (.int (i : Int)), d4, d5, d6])
      (fun acc k => addIf (isNr pl reach) acc (i, i + 1 + k)) (fun ks acc => (∀ k ∈ ks, i + 1 + k < pl.length) ∧ acc.length + ks.length < 100000) (fun k ks acc ρ hI hs => by
        obtain ⟨d4, d5, d6, rfl⟩ := hs
        obtain ⟨h1, h2⟩ := hI
        have hk := h1 k (by simp)
        rw [List.length_cons] at h2
        obtain ⟨a1, b1, b2, b3, b4⟩ := pl_at h hi
        obtain ⟨a2, c1, c2, c3, c4⟩ := pl_at h hk
        have hz : acc.length < 16777216 := by omega
        refine ⟨⟨fun x hx => h1 x (by simp [hx]), by have := addIf_len (isNr pl reach) acc (i, i + 1 + k); omega⟩, _, [.pd (.list (pl.map encPl)), .pd (.int reach), .ol (pds ((addIf (isNr pl reach) acc (i, i + 1 + k)).map encPr)), .pd (.int (i : Int)), .pd (.int ((i + 1 + k : Nat) : Int)), .pd (.int ((pl.getD i (0, 0)).1 - (pl.getD (i + 1 + k) (0, 0)).1)), .pd (.int ((pl.getD i (0, 0)).2 - (pl.getD (i + 1 + k) (0, 0)).2))], rfl, ?_, _, _, _, rfl⟩
        show near_pairs_b1 [.pd (.list (pl.map encPl)), .pd (.int reach), .ol (pds (acc.map encPr)), .pd (.int (i : Int)), .pd (.int ((i + 1 + k : Nat) : Int)), d5, d6] = _
        have en : isNr pl reach (i, i + 1 + k) = decide (((pl.getD i (0, 0)).1 - (pl.getD (i + 1 + k) (0, 0)).1) * ((pl.getD i (0, 0)).1 - (pl.getD (i + 1 + k) (0, 0)).1) + ((pl.getD i (0, 0)).2 - (pl.getD (i + 1 + k) (0, 0)).2) * ((pl.getD i (0, 0)).2 - (pl.getD (i + 1 + k) (0, 0)).2) ≤ reach * reach) := rfl
        unfold near_pairs_b1
        generalize hji : i + 1 + k = j at *
        generalize pl.getD i (0, 0) = A at *
        generalize pl.getD j (0, 0) = B at *
        have m1 := mulP_sm (i := A.1 - B.1) (j := A.1 - B.1) (by omega)
        have m2 := mulP_sm (i := A.2 - B.2) (j := A.2 - B.2) (by omega)
        have m3 := mulP_sm (i := reach) (j := reach) (by omega)
        unfold addIf
        rw [en]
        replace a1 : atI (pl.map encPl) (i : Int) = some (.tuple [.int A.1, .int A.2]) := a1
        replace a2 : atI (pl.map encPl) (j : Int) = some (.tuple [.int B.1, .int B.2]) := a2
        by_cases hd : (A.1 - B.1) * (A.1 - B.1) + (A.2 - B.2) * (A.2 - B.2) ≤ reach * reach
        · simp [a1, a2, m1, m2, m3, hd, hz, encPr, pds]
        · simp [a1, a2, m1, m2, m3, hd, hz, encPr, pds]) ks acc ρ hI hs
  have outer : ∃ ρ', forL (.nm 3) near_pairs_b2 ((List.range pl.length).map fun i : Nat => .int (i : Int)) [.pd (.list (pl.map encPl)), .pd (.int reach), .ol (pds (([] : List (Nat × Nat)).map encPr)), .hole, .hole, .hole, .hole] = some (.nx, ρ') ∧
      ∃ d3 d4 d5 d6, ρ' = [.pd (.list (pl.map encPl)), .pd (.int reach), .ol (pds (((List.range pl.length).foldl (fun acc i => acc ++ ((List.range (pl.length - (i + 1))).map fun k => (i, i + 1 + k)).filter (isNr pl reach)) []).map encPr)), d3, d4, d5, d6] :=
    forL_rel (t := .nm 3) (body := near_pairs_b2) (fun i : Nat => .int (i : Int)) (fun (acc : List (Nat × Nat)) ρ => ∃ d3 d4 d5 d6, ρ = [.pd (.list (pl.map encPl)), .pd (.int reach), .ol (pds (acc.map encPr)), d3, d4, d5, d6])
      (fun acc i => acc ++ ((List.range (pl.length - (i + 1))).map fun k => (i, i + 1 + k)).filter (isNr pl reach)) (fun is acc => (∀ i ∈ is, i < pl.length) ∧ acc.length + 100 * is.length < 20000) (fun i is acc ρ hI hs => by
        obtain ⟨d3, d4, d5, d6, rfl⟩ := hs
        obtain ⟨h1, h2⟩ := hI
        have hi := h1 i (by simp)
        rw [List.length_cons] at h2
        obtain ⟨ρ', L, e4, e5, e6, hρ⟩ := inner i hi (List.range (pl.length - (i + 1))) acc [.pd (.list (pl.map encPl)), .pd (.int reach), .ol (pds (acc.map encPr)), .pd (.int (i : Int)), d4, d5, d6] ⟨fun k hk => by have := List.mem_range.mp hk; omega, by rw [List.length_range]; omega⟩ ⟨_, _, _, rfl⟩
        have ef : (List.range (pl.length - (i + 1))).foldl (fun acc k => addIf (isNr pl reach) acc (i, i + 1 + k)) acc = acc ++ ((List.range (pl.length - (i + 1))).map fun k => (i, i + 1 + k)).filter (isNr pl reach) := by
          rw [← addIf_fold, List.foldl_map]
        rw [ef] at hρ
        have hl : (((List.range (pl.length - (i + 1))).map fun k => (i, i + 1 + k)).filter (isNr pl reach)).length ≤ 100 := by
          refine Nat.le_trans (List.length_filter_le _ _) ?_
          rw [List.length_map, List.length_range]
          omega
        refine ⟨⟨fun x hx => h1 x (by simp [hx]), by rw [List.length_append]; omega⟩, _, ρ', rfl, ?_, .pd (.int (i : Int)), e4, e5, e6, hρ⟩
        have r2 := rng2P_nat (i + 1) pl.length (by omega) (by omega)
        show near_pairs_b2 [.pd (.list (pl.map encPl)), .pd (.int reach), .ol (pds (acc.map encPr)), .pd (.int (i : Int)), d4, d5, d6] = _
        have ec : ((i + 1 : Nat) : Int) = (i : Int) + 1 := by omega
        rw [ec] at r2
        unfold near_pairs_b2
        rw [for_of (itA_of (arg_of (bin_of (v_of rfl) dC_ (addP_int _ _)) (arg_of (call_of (arg_of (v_of rfl) dArgs_nil) (by rw [lenP_list, List.length_map])) dArgs_nil)) r2)]
        exact L) (List.range pl.length) [] _ ⟨fun i hi => List.mem_range.mp hi, by rw [List.length_nil, List.length_range]; omega⟩ ⟨_, _, _, _, rfl⟩
  obtain ⟨ρ', L, e3, e4, e5, e6, hρ⟩ := outer
  rw [fold_app, List.nil_append] at hρ
  have e0 : (List.range pl.length).flatMap (fun i => ((List.range (pl.length - (i + 1))).map fun k => (i, i + 1 + k)).filter (isNr pl reach)) = nearR pl reach := by
    unfold nearR pairsN
    rw [List.filter_flatMap]
  rw [e0] at hρ
  subst hρ
  have r1 := rng1P_nat pl.length (by omega)
  refine runQ_of (n := 7) (d := .pd (.list ((nearR pl reach).map encPr))) (ρ := [.pd (.list (pl.map encPl)), .pd (.int reach), .pd (.list ((nearR pl reach).map encPr)), e3, e4, e5, e6]) rfl ?_ (frz_pd _)
  show near_pairs_d [.pd (.list (pl.map encPl)), .pd (.int reach), .hole, .hole, .hole, .hole, .hole] = _
  unfold near_pairs_d
  rw [seq_nx (ρ1 := [.pd (.list (pl.map encPl)), .pd (.int reach), .ol (pds (([] : List (Nat × Nat)).map encPr)), .hole, .hole, .hole, .hole]) rfl]
  rw [seq_nx (Eq.trans (for_of (itA_of (arg_of (call_of (arg_of (v_of rfl) dArgs_nil) (by rw [lenP_list, List.length_map])) dArgs_nil) r1)) L)]
  simp
/-! ### _law_choices -/
def allR (many : Nat) : Nat → List (List Nat)
  | 0 => [[]]
  | k + 1 => (allR many k).flatMap fun row => (List.range many).map fun one => row ++ [one]
def encCh (r : List Nat) : P := .list (natsL r)
theorem allR_len (many : Nat) : ∀ k, (allR many k).length = many ^ k
  | 0 => rfl
  | k + 1 => by
    unfold allR
    rw [List.length_flatMap]
    have e : ((allR many k).map fun row => ((List.range many).map fun one => row ++ [one]).length) = List.replicate (allR many k).length many := by
      rw [List.map_eq_replicate_iff]
      simp
    rw [e, List.sum_replicate_nat, allR_len many k, Nat.pow_succ]
theorem allR_row {many : Nat} : ∀ (k : Nat) (r : List Nat), r ∈ allR many k ↔ r.length = k ∧ ∀ x ∈ r, x < many
  | 0, r => by
    rw [allR, List.mem_singleton]
    constructor
    · rintro rfl; exact ⟨rfl, by simp⟩
    · rintro ⟨h, _⟩; exact List.eq_nil_of_length_eq_zero h
  | k + 1, r => by
    rw [allR, List.mem_flatMap]
    constructor
    · rintro ⟨row, hrow, hr⟩
      obtain ⟨one, ho, rfl⟩ := List.mem_map.mp hr
      obtain ⟨h1, h2⟩ := (allR_row k row).mp hrow
      refine ⟨by simp [h1], fun x hx => ?_⟩
      rcases List.mem_append.mp hx with hx | hx
      · exact h2 x hx
      · rw [List.mem_singleton.mp hx]
        exact List.mem_range.mp ho
    · rintro ⟨h1, h2⟩
      have hne : r ≠ [] := by rintro rfl; simp at h1
      refine ⟨r.dropLast, (allR_row k _).mpr ⟨by simp [h1], fun x hx => h2 x ((List.dropLast_prefix r).subset hx)⟩, List.mem_map.mpr ⟨r.getLast hne, List.mem_range.mpr (h2 _ (List.getLast_mem hne)), List.dropLast_concat_getLast hne⟩⟩
theorem choices_sem (many count : Nat) (hm : many ≤ 3) (hc : count ≤ 4) : _law_choices_s [.int (many : Int), .int (count : Int)] = some (.list ((allR many count).map encCh)) := by
  have small : ∀ k, k ≤ 4 → (allR many k).length ≤ 81 := fun k hk => by
    rw [allR_len]
    exact Nat.le_trans (Nat.pow_le_pow_left hm k) (Nat.pow_le_pow_right (by omega) hk)
  have inner : ∀ (rows : List (List Nat)) (acc : List (List Nat)) (d2 d3 : D) (d5 : D), ((∀ r ∈ rows, r.length < 1000) ∧ acc.length + 3 * rows.length < 100000) →
      ∃ ρ', forL (.nm 5) _law_choices_b1 (rows.map encCh) [.pd (.int (many : Int)), .pd (.int (count : Int)), d2, d3, .ol (pds (acc.map encCh)), d5, .hole] = some (.nx, ρ') ∧ ∃ e5, ρ' = [.pd (.int (many : Int)), .pd (.int (count : Int)), d2, d3, .ol (pds ((rows.foldl (fun acc row => acc ++ (List.range many).map fun one => row ++ [one]) acc).map encCh)), e5, .hole] := fun rows acc d2 d3 d5 hI =>
    forL_rel (t := .nm 5) (body := _law_choices_b1) encCh (fun (acc : List (List Nat)) ρ => ∃ e5, ρ = [.pd (.int (many : Int)), .pd (.int (count : Int)), d2, d3, .ol (pds (acc.map encCh)), e5, .hole])
      (fun acc row => acc ++ (List.range many).map fun one => row ++ [one]) (fun rows acc => (∀ r ∈ rows, r.length < 1000) ∧ acc.length + 3 * rows.length < 100000) (fun row rows acc ρ hI hs => by
        obtain ⟨e5, rfl⟩ := hs
        obtain ⟨h1, h2⟩ := hI
        have hrow := h1 row (by simp)
        rw [List.length_cons] at h2
        refine ⟨⟨fun x hx => h1 x (by simp [hx]), by rw [List.length_append, List.length_map, List.length_range]; omega⟩, _, _, rfl, ?_, .pd (encCh row), rfl⟩
        have r1 := rng1P_nat many (by omega)
        have C := dComp_map (it := dItA rng1P (dArgs [(dV 0)])) (vs := [6]) (tg := .nm 6) (el := dBin addP (dV 5) (dLst (dArgs [(dV 6)]))) (fun i : Nat => .int (i : Int)) (fun i : Nat => encCh (row ++ [i])) (List.range many) [.pd (.int (many : Int)), .pd (.int (count : Int)), d2, d3, .ol (pds (acc.map encCh)), .pd (encCh row), .hole] [.pd (.int (many : Int)), .pd (.int (count : Int)), d2, d3, .ol (pds (acc.map encCh)), .pd (encCh row), .hole]
          (itA_of (arg_of (v_of rfl) dArgs_nil) r1) (by rw [List.length_range]; omega) rfl rfl fun i hi => ⟨_, rfl, by
            have ap := addP_list (xs := natsL row) (ys := natsL [i]) (by simp [natsL]; omega)
            rw [nats_app] at ap
            exact bin_of (v_of rfl) (lst_of (arg_of (v_of rfl) dArgs_nil)) ap⟩
        show _law_choices_b1 [.pd (.int (many : Int)), .pd (.int (count : Int)), d2, d3, .ol (pds (acc.map encCh)), .pd (encCh row), .hole] = _
        unfold _law_choices_b1
        rw [dExt_]
        simp only [C, Option.bind_some, someL_, List.getElem?_cons_succ, List.getElem?_cons_zero, if_true, pds_len, List.length_map, List.length_range]
        rw [if_pos (by omega)]
        simp [pds, Function.comp_def]) rows acc _ hI ⟨_, rfl⟩
  have outer : ∃ ρ', forL (.nm 3) _law_choices_b2 ((List.range count).map fun i : Nat => .int (i : Int)) [.pd (.int (many : Int)), .pd (.int (count : Int)), .pd (.list ((allR many 0).map encCh)), .hole, .hole, .hole, .hole] = some (.nx, ρ') ∧
      ∃ d3 d4 d5, ρ' = [.pd (.int (many : Int)), .pd (.int (count : Int)), .pd (.list ((allR many ((List.range count).foldl (fun k _ => k + 1) 0)).map encCh)), d3, d4, d5, .hole] :=
    forL_rel (t := .nm 3) (body := _law_choices_b2) (fun i : Nat => .int (i : Int)) (fun (k : Nat) ρ => ∃ d3 d4 d5, ρ = [.pd (.int (many : Int)), .pd (.int (count : Int)), .pd (.list ((allR many k).map encCh)), d3, d4, d5, .hole])
      (fun k _ => k + 1) (fun is k => k + is.length ≤ 4) (fun i is k ρ hI hs => by
        obtain ⟨d3, d4, d5, rfl⟩ := hs
        rw [List.length_cons] at hI
        have sm := small k (by omega)
        have hrow : ∀ r ∈ allR many k, r.length < 1000 := fun r hr => by rw [((allR_row k r).mp hr).1]; omega
        obtain ⟨ρ', L, e5, hρ⟩ := inner (allR many k) [] (.pd (.list ((allR many k).map encCh))) (.pd (.int (i : Int))) d5 ⟨hrow, by rw [List.length_nil]; omega⟩
        rw [fold_app, List.nil_append] at hρ
        have ea : (allR many k).flatMap (fun row => (List.range many).map fun one => row ++ [one]) = allR many (k + 1) := rfl
        rw [ea] at hρ
        subst hρ
        refine ⟨by omega, _, [.pd (.int (many : Int)), .pd (.int (count : Int)), .pd (.list ((allR many (k + 1)).map encCh)), .pd (.int (i : Int)), .pd (.list ((allR many (k + 1)).map encCh)), e5, .hole], rfl, ?_, _, _, _, rfl⟩
        show _law_choices_b2 [.pd (.int (many : Int)), .pd (.int (count : Int)), .pd (.list ((allR many k).map encCh)), .pd (.int (i : Int)), d4, d5, .hole] = _
        unfold _law_choices_b2
        rw [seq_nx (ρ1 := [.pd (.int (many : Int)), .pd (.int (count : Int)), .pd (.list ((allR many k).map encCh)), .pd (.int (i : Int)), .ol (pds (([] : List (List Nat)).map encCh)), d5, .hole]) rfl]
        rw [seq_nx (Eq.trans (for_of (it_of (v_of rfl) rfl)) L)]
        simp) (List.range count) 0 _ (by rw [List.length_range]; omega) ⟨_, _, _, rfl⟩
  obtain ⟨ρ', L, d3, d4, d5, hρ⟩ := outer
  have ef : ∀ (xs : List Nat) (k : Nat), xs.foldl (fun k _ => k + 1) k = k + xs.length := by
    intro xs
    induction xs with
    | nil => intro k; simp
    | cons x xs ih => intro k; rw [List.foldl_cons, ih, List.length_cons]; omega
  rw [ef, List.length_range, Nat.zero_add] at hρ
  subst hρ
  have r1 := rng1P_nat count (by omega)
  refine runQ_of (n := 7) (d := .pd (.list ((allR many count).map encCh))) (ρ := [.pd (.int (many : Int)), .pd (.int (count : Int)), .pd (.list ((allR many count).map encCh)), d3, d4, d5, .hole]) rfl ?_ (frz_pd _)
  show _law_choices_d [.pd (.int (many : Int)), .pd (.int (count : Int)), .hole, .hole, .hole, .hole, .hole] = _
  unfold _law_choices_d
  rw [seq_nx (ρ1 := [.pd (.int (many : Int)), .pd (.int (count : Int)), .pd (.list ((allR many 0).map encCh)), .hole, .hole, .hole, .hole]) rfl]
  rw [seq_nx (Eq.trans (for_of (itA_of (arg_of (v_of rfl) dArgs_nil) r1)) L)]
  exact ret_of (v_of rfl)
end
end HW

namespace HW
open PySem PySem.Spec PyProof.Rows L2
noncomputable section
/-! ### draws -/
theorem fnM_of {n i : Nat} {fd : D → List P → Option (D × D)} {f : EL} {ρ ρ1 : Sl} {ps : List P} {d0 d d1 d2 : D} (h0 : ρ[i]? = some d0) (g0 : GoodS d0) (e : f ρ = some (ps, ρ1)) (hn : ps.length = n) (h1 : ρ1[i]? = some d) (g1 : GoodS d) (hf : fd d ps = some (d1, d2)) : dFnM n i fd f ρ = some (d2, ρ1.set i d1) := by
  obtain ⟨c0, cells0, rfl, _⟩ := g0
  obtain ⟨c, cells, rfl, _⟩ := g1
  unfold dFnM
  rw [h0]
  dsimp only
  rw [e, Option.bind_some]
  dsimp only
  rw [if_pos hn, h1]
  dsimp only
  rw [hf]
  rfl
theorem drawI {i : Nat} {ρ : Sl} {f : EL} {m : Int} {d : D} (e : f ρ = some ([.int m], ρ)) (h : ρ[i]? = some d) (g : GoodS d) (m1 : 1 ≤ m) (m2 : m < 1073741824) :
    ∃ v d', dFr (dFnM 1 i takeS f) ρ = some (.int v, ρ.set i d') ∧ GoodS d' ∧ 0 ≤ v ∧ v < m := by
  obtain ⟨v, d', e1, g', v0, v1⟩ := take_good g m1 m2
  exact ⟨v, d', fr_of (fnM_of h g e rfl h g e1) (frz_pd _), g', v0, v1⟩
theorem drawN {i m : Nat} {ρ : Sl} {d : D} (h : ρ[i]? = some d) (g : GoodS d) (m1 : 1 ≤ m) (m2 : m < 1000) :
    ∃ (v : Nat) (d' : D), dFr (dFnM 1 i takeS (dArgs [(dC (.int (m : Int)))])) ρ = some (.int (v : Int), ρ.set i d') ∧ GoodS d' ∧ v < m := by
  obtain ⟨v, d', e1, g', v0, v1⟩ := drawI (i := i) (f := dArgs [(dC (.int (m : Int)))]) (m := (m : Int)) (by simp) h g (by omega) (by omega)
  obtain ⟨n, rfl, hn⟩ := at_int (n := m) v0 v1
  exact ⟨n, d', e1, g', hn⟩
theorem dComp_st {S β : Type} {it : EL} {vs : List Nat} {tg : Tg} {el : EF} (enc : β → P) (st stw : S → Sl) (I : S → Prop) (good : P → Prop) (hw : ∀ s, wipeR (st s) vs = stw s) (hf : ∀ s s', fillR (st s) (stw s') vs = st s') (ho : ∀ s, ownOk (st s) vs = true)
    (hstep : ∀ s x, I s → ∃ ρ1 y ρ2 s', bindT tg (enc x) (stw s) = some ρ1 ∧ el ρ1 = some (y, ρ2) ∧ wipeR ρ2 vs = stw s' ∧ I s' ∧ good y) (s : S) (xs : List β) (ρ : Sl) (hi : it ρ = some (xs.map enc, st s)) (hI : I s) (hl : xs.length ≤ 16777216) :
    ∃ ys s', dComp it vs tg dYes el ρ = some (ys, st s') ∧ I s' ∧ ys.length = xs.length ∧ ∀ y ∈ ys, good y := by
  obtain ⟨ys, s', e1, i1, l1, g1⟩ := comp_state (vs := vs) (tg := tg) (el := el) enc stw I good hstep xs s hI
  refine ⟨ys, s', ?_, i1, l1, g1⟩
  unfold dComp
  rw [hi, Option.bind_some]
  dsimp only
  rw [if_pos ⟨by simpa using hl, ho s⟩, hw, e1]
  simp [hf]
/-- data that are codes -/
theorem goodCodes {α : Type} {enc : α → P} {p : α → Prop} : ∀ {ys : List P}, (∀ y ∈ ys, ∃ v, y = enc v ∧ p v) → ∃ vs : List α, ys = vs.map enc ∧ ∀ v ∈ vs, p v
  | [], _ => ⟨[], rfl, by simp⟩
  | y :: ys, h => by
    obtain ⟨v, rfl, h1⟩ := h y (by simp)
    obtain ⟨vs, e, h3⟩ := goodCodes (ys := ys) fun z hz => h z (by simp [hz])
    subst e
    exact ⟨v :: vs, rfl, fun w hw => by
      rcases List.mem_cons.mp hw with rfl | hw
      · exact h1
      · exact h3 w hw⟩
/-! ### characters -/
def encRun (z : Str × Nat) : P := .tuple [.str z.1, .int (z.2 : Int)]
structure RunsOk (rs : List (Str × Nat)) : Prop where
  pos : 0 < rs.length
  few : rs.length ≤ 5
  tk : ∀ z ∈ rs, 1 ≤ z.2 ∧ z.2 ≤ 3
theorem pick3 (v : Nat) (h : v < 3) : ∃ c : Str, atI [PyData.str "", .str "W", .str "R"] (v : Int) = some (.str c) := by
  match v, h with
  | 0, _ => exact ⟨_, atI_natP (k := 0) rfl⟩
  | 1, _ => exact ⟨_, atI_natP (k := 1) rfl⟩
  | 2, _ => exact ⟨_, atI_natP (k := 2) rfl⟩
theorem runs_sem {d : D} (g : GoodS d) : ∃ rs d', _law_runs_s d [] = some (d', .pd (.list (rs.map encRun))) ∧ GoodS d' ∧ RunsOk rs := by
  obtain ⟨n, d1, e1, g1, hn⟩ := drawN (i := 0) (m := 4) (ρ := [d, .hole, .hole, .hole]) rfl g (by omega) (by omega)
  have r1 := rng1P_nat (1 + n) (by omega)
  have a1 : (1 : Int) + (n : Int) = ((1 + n : Nat) : Int) := by omega
  obtain ⟨ys, d2, C, g2, l2, h2⟩ := dComp_st (S := D) (it := dItA rng1P (dArgs [(dBin addP (dC (.int 1)) (dFr (dFnM 1 0 _law_take_s (dArgs [(dC (.int 4))]))))])) (vs := [2]) (tg := .nm 2)
    (el := dTup [(dBin idxP (dLst (dArgs [(dC (.str "")), (dC (.str "W")), (dC (.str "R"))])) (dFr (dFnM 1 0 _law_take_s (dArgs [(dC (.int 3))])))), (dBin addP (dC (.int 1)) (dFr (dFnM 1 0 _law_take_s (dArgs [(dC (.int 3))]))))])
    (fun i : Nat => PyData.int (i : Int)) (fun d => [d, .hole, .hole, .hole]) (fun d => [d, .hole, .hole, .hole]) GoodS (fun y => ∃ z : Str × Nat, y = encRun z ∧ 1 ≤ z.2 ∧ z.2 ≤ 3) (fun _ => rfl) (fun _ _ => rfl) (fun _ => rfl)
    (fun s x hs => by
      obtain ⟨u, s1, q1, k1, hu⟩ := drawN (i := 0) (m := 3) (ρ := [s, .hole, .pd (.int (x : Int)), .hole]) rfl hs (by omega) (by omega)
      obtain ⟨w, s2, q2, k2, hw⟩ := drawN (i := 0) (m := 3) (ρ := [s1, .hole, .pd (.int (x : Int)), .hole]) rfl k1 (by omega) (by omega)
      obtain ⟨c, hc⟩ := pick3 u hu
      refine ⟨[s, .hole, .pd (.int (x : Int)), .hole], encRun (c, 1 + w), [s2, .hole, .pd (.int (x : Int)), .hole], s2, rfl, ?_, rfl, k2, (c, 1 + w), rfl, by show 1 ≤ 1 + w; omega, by show 1 + w ≤ 3; omega⟩
      have ew : (1 : Int) + (w : Int) = ((1 + w : Nat) : Int) := by omega
      exact tup_of (arg_of (bin_of (lst_of (arg_of dC_ (arg_of dC_ (arg_of dC_ dArgs_nil)))) q1 hc) (arg_of (bin_of dC_ q2 (by rw [addP_int, ew])) dArgs_nil)))
    d1 (List.range (1 + n)) [d, .hole, .hole, .hole] (itA_of (arg_of (bin_of dC_ e1 (by rw [addP_int, a1])) dArgs_nil) r1) g1 (by rw [List.length_range]; omega)
  obtain ⟨rs, rfl, h3⟩ := goodCodes h2
  rw [List.length_map, List.length_range] at l2
  have C2 := dComp_pure (it := dIt (dV 1)) (vs := [3]) (tg := .nm 3) (cnd := dCmp neP (dBin idxP (dV 3) (dC (.int 0))) (dC (.str ""))) (el := dV 3) encRun (fun z => !decide (z.1 = Str.ofString "")) encRun rs [d2, .pd (.list (rs.map encRun)), .hole, .hole] [d2, .pd (.list (rs.map encRun)), .hole, .hole] (it_of (v_of rfl) rfl) (by omega) rfl rfl
    (fun z hz => ⟨_, rfl, by
      refine cmp_of (bin_of (v_of rfl) dC_ (atI_zero _ _)) dC_ ?_
      unfold neP
      rw [eqP_str]
      rfl, fun _ => v_of rfl⟩)
  have T : dCmp gtP (dCall lenP (dArgs [(dLst (dComp (dIt (dV 1)) [3] (.nm 3) (dCmp neP (dBin idxP (dV 3) (dC (.int 0))) (dC (.str ""))) (dV 3)))])) (dC (.int 0)) [d2, .pd (.list (rs.map encRun)), .hole, .hole] = some (decide ((0 : Int) < (((rs.filter fun z => !decide (z.1 = Str.ofString "")).map encRun).length : Int)), [d2, .pd (.list (rs.map encRun)), .hole, .hole]) :=
    cmp_of (call_of (arg_of (lst_of C2) dArgs_nil) (lenP_list _)) dC_ (gtP_int _ _)
  have S1 : dSet 1 (dPd (dLst (dComp (dItA rng1P (dArgs [(dBin addP (dC (.int 1)) (dFr (dFnM 1 0 _law_take_s (dArgs [(dC (.int 4))]))))])) [2] (.nm 2) dYes (dTup [(dBin idxP (dLst (dArgs [(dC (.str "")), (dC (.str "W")), (dC (.str "R"))])) (dFr (dFnM 1 0 _law_take_s (dArgs [(dC (.int 3))])))), (dBin addP (dC (.int 1)) (dFr (dFnM 1 0 _law_take_s (dArgs [(dC (.int 3))]))))])))) [d, .hole, .hole, .hole] = some (.nx, [d2, .pd (.list (rs.map encRun)), .hole, .hole]) := set_of (lst_of C)
  have fin : ∃ zs : List (Str × Nat), RunsOk zs ∧ dIf (dCmp gtP (dCall lenP (dArgs [(dLst (dComp (dIt (dV 1)) [3] (.nm 3) (dCmp neP (dBin idxP (dV 3) (dC (.int 0))) (dC (.str ""))) (dV 3)))])) (dC (.int 0))) (dV 1) (dBin addP (dLst (dArgs [(dTup [(dC (.str "W")), (dC (.int 1))])])) (dV 1)) [d2, .pd (.list (rs.map encRun)), .hole, .hole] = some (.list (zs.map encRun), [d2, .pd (.list (rs.map encRun)), .hole, .hole]) := by
    by_cases hb : (0 : Int) < (((rs.filter fun z => !decide (z.1 = Str.ofString "")).map encRun).length : Int)
    · rw [decide_eq_true hb] at T
      exact ⟨rs, ⟨by omega, by omega, h3⟩, by rw [dIf_, T]; rfl⟩
    · rw [decide_eq_false hb] at T
      refine ⟨("W", 1) :: rs, ⟨by simp, by simp; omega, fun z hz => ?_⟩, ?_⟩
      · rcases List.mem_cons.mp hz with rfl | hz
        · exact ⟨Nat.le_refl _, by show 1 ≤ 3; omega⟩
        · exact h3 z hz
      · rw [dIf_, T, Option.bind_some, if_neg Bool.false_ne_true]
        exact bin_of (lst_of (arg_of (tup_of (arg_of dC_ (arg_of dC_ dArgs_nil))) dArgs_nil)) (v_of rfl) (addP_list (by simp; omega))
  obtain ⟨zs, hz, e⟩ := fin
  refine ⟨zs, d2, ?_, g2, hz⟩
  show (match _law_runs_d [d, .hole, .hole, .hole] with | some (.rt d, d1 :: _) => some (d1, d) | some (.nx, d1 :: _) => some (d1, .pd .none) | _ => none) = _
  unfold _law_runs_d
  rw [seq_nx S1, ret_of e]
def rowOf (rs : List (Str × Nat)) : List Str := rs.flatMap fun z => List.replicate z.2 z.1
theorem rowOf_len {rs : List (Str × Nat)} (h : RunsOk rs) : 0 < (rowOf rs).length ∧ (rowOf rs).length ≤ 15 := by
  have go : ∀ rs : List (Str × Nat), (∀ z ∈ rs, 1 ≤ z.2 ∧ z.2 ≤ 3) → rs.length ≤ (rowOf rs).length ∧ (rowOf rs).length ≤ 3 * rs.length := by
    intro rs
    induction rs with
    | nil => intro _; simp [rowOf]
    | cons z rs ih =>
      intro h
      have h1 := h z (by simp)
      have h2 := ih fun y hy => h y (by simp [hy])
      have e : (rowOf (z :: rs)).length = z.2 + (rowOf rs).length := by simp [rowOf]
      rw [e, List.length_cons]
      omega
  have h1 := go rs h.tk
  have h2 := h.pos
  have h3 := h.few
  omega
theorem row_sem (rs : List (Str × Nat)) (h : RunsOk rs) : _law_row_s [.list (rs.map encRun)] = some (.list (strsL (rowOf rs))) := by
  have few := h.few
  obtain ⟨ρ', L, d2, d3, hρ⟩ := forL_rel (t := .tcons (.nm 2) (.tcons (.nm 3) .tnil)) (body := _law_row_b1) encRun (fun (acc : List Str) ρ => ∃ d2 d3, ρ = [.pd (.list (rs.map encRun)), .pd (.list (strsL acc)), d2, d3])
    (fun acc z => acc ++ List.replicate z.2 z.1) (fun zs acc => (∀ z ∈ zs, 1 ≤ z.2 ∧ z.2 ≤ 3) ∧ acc.length + 3 * zs.length < 1000) (fun z zs acc ρ hI hs => by
      obtain ⟨d2, d3, rfl⟩ := hs
      obtain ⟨h1, h2⟩ := hI
      have hz := h1 z (by simp)
      rw [List.length_cons] at h2
      refine ⟨⟨fun x hx => h1 x (by simp [hx]), by rw [List.length_append, List.length_replicate]; omega⟩, _, [.pd (.list (rs.map encRun)), .pd (.list (strsL (acc ++ List.replicate z.2 z.1))), .pd (.str z.1), .pd (.int (z.2 : Int))], rfl, ?_, _, _, rfl⟩
      have m := mulP_rep (x := PyData.str z.1) (n := z.2) (by omega)
      have er : List.replicate z.2 (PyData.str z.1) = strsL (List.replicate z.2 z.1) := by simp [strsL]
      have ap := addP_list (xs := strsL acc) (ys := strsL (List.replicate z.2 z.1)) (by simp; omega)
      rw [strs_app] at ap
      rw [er] at m
      exact set_of (bin_of (v_of rfl) (bin_of (lst_of (arg_of (v_of rfl) dArgs_nil)) (v_of rfl) m) ap)) rs [] [.pd (.list (rs.map encRun)), .pd (.list (strsL [])), .hole, .hole] ⟨h.tk, by rw [List.length_nil]; omega⟩ ⟨_, _, rfl⟩
  rw [fold_app, List.nil_append] at hρ
  subst hρ
  refine runQ_of (n := 4) (d := .pd (.list (strsL (rowOf rs)))) (ρ := [.pd (.list (rs.map encRun)), .pd (.list (strsL (rowOf rs))), d2, d3]) rfl ?_ (frz_pd _)
  show _law_row_d [.pd (.list (rs.map encRun)), .hole, .hole, .hole] = _
  unfold _law_row_d
  rw [seq_nx (ρ1 := [.pd (.list (rs.map encRun)), .pd (.list (strsL [])), .hole, .hole]) rfl, seq_nx (Eq.trans (for_of (it_of (v_of rfl) rfl)) L)]
  exact ret_of (v_of rfl)
end
end HW

namespace HW
open PySem PySem.Spec PyProof.Rows L2
noncomputable section
/-! ### _law_stretch -/
def strStep (one other : List Str) (size i : Nat) (b : Nat) (j : Nat) : Nat ⊕ D := if strLen one other i j size = size then .inr (.pd .none) else .inl (if strLen one other i j size > b then strLen one other i j size else b)
def stretchR (one other : List Str) : Option Nat := match stepL (fun b i => stepL (strStep one other (one.length + other.length) i) (List.range other.length) b) (List.range one.length) 0 with
  | .inl b => some b
  | .inr _ => none
def encN (o : Option Nat) : P := encO (o.map fun n : Nat => (n : Int))
theorem stepL_none {α β : Type} {step : α → β → α ⊕ D} (h : ∀ a x d, step a x = .inr d → d = .pd .none) : ∀ (xs : List β) (a : α) (d : D), stepL step xs a = .inr d → d = .pd .none
  | [], a, d, e => by simp [stepL] at e
  | x :: xs, a, d, e => by
    unfold stepL at e
    cases hs : step a x with
    | inl a' => rw [hs] at e; exact stepL_none h xs a' d e
    | inr d' =>
      rw [hs] at e
      cases e
      exact h a x _ hs
theorem stretch_sem (one other : List Str) (h1 : 0 < one.length) (h2 : 0 < other.length) (l1 : one.length < 1000) (l2 : other.length < 1000) : _law_stretch_s [.list (strsL one), .list (strsL other)] = some (encN (stretchR one other)) := by
  obtain ⟨size, hsz⟩ : ∃ size, size = one.length + other.length := ⟨_, rfl⟩
  have cnd : ∀ (i j k : Nat) (b : Nat), k ≤ size → dAnd (dCmp ltP (dV 6) (dV 2)) (dCmp eqP (dBin idxP (dV 0) (dBin modP (dBin addP (dV 4) (dV 6)) (dCall lenP (dArgs [(dV 0)])))) (dBin idxP (dV 1) (dBin modP (dBin addP (dV 5) (dV 6)) (dCall lenP (dArgs [(dV 1)]))))) [.pd (.list (strsL one)), .pd (.list (strsL other)), .pd (.int (size : Int)), .pd (.int (b : Int)), .pd (.int (i : Int)), .pd (.int (j : Int)), .pd (.int (k : Int))] =
      some (decide (k < size) && alikeAt one other i j k, [.pd (.list (strsL one)), .pd (.list (strsL other)), .pd (.int (size : Int)), .pd (.int (b : Int)), .pd (.int (i : Int)), .pd (.int (j : Int)), .pd (.int (k : Int))]) := fun i j k b hk => by
    by_cases hk2 : k < size
    · rw [decide_eq_true hk2, Bool.true_and]
      rw [and_t (cmp_of (v_of rfl) (v_of rfl) (by rw [ltP_nat, decide_eq_true hk2]))]
      have m1 : (i + k) % one.length < one.length := Nat.mod_lt _ h1
      have m2 : (j + k) % other.length < other.length := Nat.mod_lt _ h2
      have a1 : atI (strsL one) (((i + k) % one.length : Nat) : Int) = some (.str one[(i + k) % one.length]) := atI_natP (by simp [strsL, m1])
      have a2 : atI (strsL other) (((j + k) % other.length : Nat) : Int) = some (.str other[(j + k) % other.length]) := atI_natP (by simp [strsL, m2])
      have q1 := modP_pos (i := (((i + k : Nat)) : Int)) (j := (one.length : Int)) (by omega)
      have q2 := modP_pos (i := (((j + k : Nat)) : Int)) (j := (other.length : Int)) (by omega)
      rw [← Int.natCast_emod] at q1 q2
      have ea : alikeAt one other i j k = decide (one[(i + k) % one.length] = other[(j + k) % other.length]) := by
        unfold alikeAt
        rw [List.getElem?_eq_getElem m1, List.getElem?_eq_getElem m2]
        simp
      rw [ea]
      exact cmp_of (bin_of (v_of rfl) (bin_of (bin_of (v_of rfl) (v_of rfl) (by rw [addP_int, ← Int.natCast_add])) (call_of (arg_of (v_of rfl) dArgs_nil) (by rw [lenP_list, strsL_len])) q1) a1)
        (bin_of (v_of rfl) (bin_of (bin_of (v_of rfl) (v_of rfl) (by rw [addP_int, ← Int.natCast_add])) (call_of (arg_of (v_of rfl) dArgs_nil) (by rw [lenP_list, strsL_len])) q2) a2) (eqP_str _ _)
    · rw [decide_eq_false hk2, Bool.false_and]
      exact and_f (cmp_of (v_of rfl) (v_of rfl) (by rw [ltP_nat, decide_eq_false hk2]))
  have inner := fun (i : Nat) (js : List Nat) (b : Nat) (ρ : Sl) (hs : ∃ d5 d6, ρ = [.pd (.list (strsL one)), .pd (.list (strsL other)), .pd (.int (size : Int)), .pd (.int (b : Int)), .pd (.int (i : Int)), d5, d6]) =>
    forL_ans (t := .nm 5) (body := _law_stretch_b2) (fun j : Nat => .int (j : Int)) (fun (b : Nat) ρ => ∃ d5 d6, ρ = [.pd (.list (strsL one)), .pd (.list (strsL other)), .pd (.int (size : Int)), .pd (.int (b : Int)), .pd (.int (i : Int)), d5, d6]) (fun _ _ => True)
      (strStep one other size i) (fun _ _ => True) (fun j js b ρ _ hs => by
        obtain ⟨d5, d6, rfl⟩ := hs
        have W := dWhile_up (body := _law_stretch_b1) (fun k => [.pd (.list (strsL one)), .pd (.list (strsL other)), .pd (.int (size : Int)), .pd (.int (b : Int)), .pd (.int (i : Int)), .pd (.int (j : Int)), .pd (.int (k : Int))]) (alikeAt one other i j) size (fun k hk => cnd i j k b hk) (fun k _ _ => by
          unfold _law_stretch_b1
          exact set_of (bin_of (v_of rfl) dC_ (by rw [addP_int]; rfl))) (by omega)
        have es : runTo (alikeAt one other i j) size 0 = strLen one other i j size := rfl
        rw [es] at W
        have B : _law_stretch_b2 [.pd (.list (strsL one)), .pd (.list (strsL other)), .pd (.int (size : Int)), .pd (.int (b : Int)), .pd (.int (i : Int)), .pd (.int (j : Int)), d6] =
            if strLen one other i j size = size then some (.rt (.pd .none), [.pd (.list (strsL one)), .pd (.list (strsL other)), .pd (.int (size : Int)), .pd (.int (b : Int)), .pd (.int (i : Int)), .pd (.int (j : Int)), .pd (.int (strLen one other i j size : Int))])
            else some (.nx, [.pd (.list (strsL one)), .pd (.list (strsL other)), .pd (.int (size : Int)), .pd (.int ((if strLen one other i j size > b then strLen one other i j size else b : Nat) : Int)), .pd (.int (i : Int)), .pd (.int (j : Int)), .pd (.int (strLen one other i j size : Int))]) := by
          unfold _law_stretch_b2
          rw [seq_nx (ρ1 := [.pd (.list (strsL one)), .pd (.list (strsL other)), .pd (.int (size : Int)), .pd (.int (b : Int)), .pd (.int (i : Int)), .pd (.int (j : Int)), .pd (.int ((0 : Nat) : Int))]) rfl, seq_nx W]
          generalize strLen one other i j size = L
          by_cases hL : L = size
          · rw [if_pos hL]
            have hL' : ((L : Int) = (size : Int)) := by omega
            exact seq_rt (Eq.trans (if_t (cmp_of (v_of rfl) (v_of rfl) (by rw [eqP_int, decide_eq_true hL']))) rfl)
          · rw [if_neg hL]
            have hL' : ¬ ((L : Int) = (size : Int)) := by omega
            rw [seq_nx (ρ1 := [.pd (.list (strsL one)), .pd (.list (strsL other)), .pd (.int (size : Int)), .pd (.int (b : Int)), .pd (.int (i : Int)), .pd (.int (j : Int)), .pd (.int (L : Int))]) (Eq.trans (if_f (cmp_of (v_of rfl) (v_of rfl) (by rw [eqP_int, decide_eq_false hL']))) rfl)]
            refine set_of (call_of (arg_of (v_of rfl) (arg_of (v_of rfl) dArgs_nil)) ?_)
            rw [max2P_int]
            by_cases hb : L > b
            · rw [if_pos hb, if_pos (by omega)]
            · rw [if_neg hb, if_neg (by omega)]
        unfold strStep
        by_cases hL : strLen one other i j size = size
        · rw [if_pos hL] at B ⊢
          exact ⟨_, _, rfl, B, trivial⟩
        · rw [if_neg hL] at B ⊢
          exact ⟨trivial, _, _, rfl, B, _, _, rfl⟩) js b ρ trivial hs
  have outer := forL_ans (t := .nm 4) (body := _law_stretch_b3) (fun i : Nat => .int (i : Int)) (fun (b : Nat) ρ => ∃ d4 d5 d6, ρ = [.pd (.list (strsL one)), .pd (.list (strsL other)), .pd (.int (size : Int)), .pd (.int (b : Int)), d4, d5, d6]) (fun _ _ => True)
      (fun b i => stepL (strStep one other size i) (List.range other.length) b) (fun _ _ => True) (fun i is b ρ _ hs => by
        obtain ⟨d4, d5, d6, rfl⟩ := hs
        have r1 := rng1P_nat other.length (by omega)
        have e3 : _law_stretch_b3 [.pd (.list (strsL one)), .pd (.list (strsL other)), .pd (.int (size : Int)), .pd (.int (b : Int)), .pd (.int (i : Int)), d5, d6] = forL (.nm 5) _law_stretch_b2 ((List.range other.length).map fun j : Nat => .int (j : Int)) [.pd (.list (strsL one)), .pd (.list (strsL other)), .pd (.int (size : Int)), .pd (.int (b : Int)), .pd (.int (i : Int)), d5, d6] := by
          unfold _law_stretch_b3
          exact for_of (itA_of (arg_of (call_of (arg_of (v_of rfl) dArgs_nil) (by rw [lenP_list, strsL_len])) dArgs_nil) r1)
        have h := inner i (List.range other.length) b [.pd (.list (strsL one)), .pd (.list (strsL other)), .pd (.int (size : Int)), .pd (.int (b : Int)), .pd (.int (i : Int)), d5, d6] ⟨_, _, rfl⟩
        cases hst : stepL (strStep one other size i) (List.range other.length) b with
        | inl b' =>
          rw [hst] at h
          obtain ⟨ρ', L, d5', d6', rfl⟩ := h
          exact ⟨trivial, _, _, rfl, Eq.trans e3 L, _, _, _, rfl⟩
        | inr d =>
          rw [hst] at h
          obtain ⟨ρ', L, _⟩ := h
          exact ⟨_, _, rfl, Eq.trans e3 L, trivial⟩) (List.range one.length) 0 [.pd (.list (strsL one)), .pd (.list (strsL other)), .pd (.int (size : Int)), .pd (.int ((0 : Nat) : Int)), .hole, .hole, .hole] trivial ⟨_, _, _, rfl⟩
  have r1 := rng1P_nat one.length (by omega)
  have start : _law_stretch_d [.pd (.list (strsL one)), .pd (.list (strsL other)), .hole, .hole, .hole, .hole, .hole] = (dSeq (dFor (dItA rng1P (dArgs [(dCall lenP (dArgs [(dV 0)]))])) (.nm 4) _law_stretch_b3) (dRet (dPd (dV 3)))) [.pd (.list (strsL one)), .pd (.list (strsL other)), .pd (.int (size : Int)), .pd (.int ((0 : Nat) : Int)), .hole, .hole, .hole] := by
    unfold _law_stretch_d
    rw [seq_nx (ρ1 := [.pd (.list (strsL one)), .pd (.list (strsL other)), .pd (.int (size : Int)), .pd (.int ((0 : Nat) : Int)), .hole, .hole, .hole])]
    have e : dArgs [(dBin addP (dCall lenP (dArgs [(dV 0)])) (dCall lenP (dArgs [(dV 1)]))), (dC (.int 0))] [.pd (.list (strsL one)), .pd (.list (strsL other)), .hole, .hole, .hole, .hole, .hole] = some ([.int (size : Int), .int 0], [.pd (.list (strsL one)), .pd (.list (strsL other)), .hole, .hole, .hole, .hole, .hole]) :=
      arg_of (bin_of (call_of (arg_of (v_of rfl) dArgs_nil) (by rw [lenP_list, strsL_len])) (call_of (arg_of (v_of rfl) dArgs_nil) (by rw [lenP_list, strsL_len])) (by rw [addP_int, hsz, Int.natCast_add])) (arg_of dC_ dArgs_nil)
    rw [dPar_, e]
    rfl
  have ef : dFor (dItA rng1P (dArgs [(dCall lenP (dArgs [(dV 0)]))])) (.nm 4) _law_stretch_b3 [.pd (.list (strsL one)), .pd (.list (strsL other)), .pd (.int (size : Int)), .pd (.int ((0 : Nat) : Int)), .hole, .hole, .hole] = forL (.nm 4) _law_stretch_b3 ((List.range one.length).map fun j : Nat => .int (j : Int)) [.pd (.list (strsL one)), .pd (.list (strsL other)), .pd (.int (size : Int)), .pd (.int ((0 : Nat) : Int)), .hole, .hole, .hole] :=
    for_of (itA_of (arg_of (call_of (arg_of (v_of rfl) dArgs_nil) (by rw [lenP_list, strsL_len])) dArgs_nil) r1)
  unfold stretchR
  rw [← hsz]
  cases hst : stepL (fun b i => stepL (strStep one other size i) (List.range other.length) b) (List.range one.length) 0 with
  | inl b =>
    rw [hst] at outer
    obtain ⟨ρ', L, d4, d5, d6, rfl⟩ := outer
    exact runQ_of (n := 7) (d := .pd (.int (b : Int))) rfl (Eq.trans start (Eq.trans (seq_nx (Eq.trans ef L)) (ret_of (v_of rfl)))) (frz_pd _)
  | inr d =>
    rw [hst] at outer
    obtain ⟨ρ', L, _⟩ := outer
    have hd : d = .pd .none := stepL_none (fun b i d e => stepL_none (fun b j d e => by
      unfold strStep at e
      split at e
      · cases e; rfl
      · cases e) _ _ _ e) _ _ _ hst
    subst hd
    exact runQ_of (n := 7) (d := .pd .none) rfl (Eq.trans start (seq_rt (Eq.trans ef L))) (frz_pd _)
def lessR (s : Option Nat) (most : Int) : Bool := match s with
  | none => false
  | some n => decide ((n : Int) < most)
theorem less_sem (s : Option Nat) (most : Int) : _law_less_s [encN s, .int most] = some (.bool (lessR s most)) := by
  unfold _law_less_s runQ runP _law_less_d
  cases s with
  | none => simp [encN, encO, lessR]
  | some n => simp [encN, encO, lessR]
end
end HW

namespace HW
open PySem PySem.Spec PyProof.Rows L2
noncomputable section
/-! ### what comes again -/
def Per {α : Type} (f : Nat → α) (p : Nat) : Prop := ∀ k, f (k + p) = f k
theorem Per.mul {α : Type} {f : Nat → α} {p : Nat} (h : Per f p) : ∀ q k, f (k + q * p) = f k
  | 0, k => by rw [Nat.zero_mul, Nat.add_zero]
  | q + 1, k => by
    rw [Nat.succ_mul, ← Nat.add_assoc, h, h.mul q k]
theorem Per.rest {α : Type} {f : Nat → α} {p : Nat} (h : Per f p) (k : Nat) : f (k % p) = f k := by
  have e := h.mul (k / p) (k % p)
  rw [Nat.mul_comm, Nat.mod_add_div] at e
  exact e.symm
theorem Per.mod {α : Type} {f : Nat → α} {p q : Nat} (h : Per f p) (h2 : Per f q) : Per f (q % p) := fun k => by
  have e := h.mul (q / p) (k + q % p)
  rw [Nat.add_assoc, Nat.mul_comm, Nat.mod_add_div, h2] at e
  exact e.symm
theorem Per.zero {α : Type} (f : Nat → α) : Per f 0 := fun _ => rfl
theorem Per.gcd {α : Type} {f : Nat → α} : ∀ {p q : Nat}, Per f p → Per f q → Per f (Nat.gcd p q) := fun {p q} => by
  induction p, q using Nat.gcd.induction with
  | H0 n => intro _ h; rwa [Nat.gcd_zero_left]
  | H1 m n hm ih =>
    intro h1 h2
    rw [Nat.gcd_rec]
    exact ih (h1.mod h2) h1
theorem agree_all {α : Type} {u v : Nat → α} {n m : Nat} (hn : 0 < n) (hm : 0 < m) (hu : Per u n) (hv : Per v m) (h : ∀ k, k < n + m → u k = v k) : ∀ k, u k = v k := by
  intro k
  induction k using Nat.strongRecOn with
  | ind k ih =>
    by_cases hk : k < n + m
    · exact h k hk
    · have e1 : u k = u (k - n) := by have := hu (k - n); rwa [Nat.sub_add_cancel (by omega)] at this
      have e2 : v k = v (k - m) := by have := hv (k - m); rwa [Nat.sub_add_cancel (by omega)] at this
      have e3 : v (k - n) = v (k - n - m) := by have := hv (k - n - m); rwa [Nat.sub_add_cancel (by omega)] at this
      have e4 : u (k - m) = u (k - n - m) := by
        have := hu (k - n - m)
        have e : k - n - m + n = k - m := by omega
        rwa [e] at this
      rw [e1, ih (k - n) (by omega), e3, ← ih (k - n - m) (by omega), ← e4, ih (k - m) (by omega), ← e2]
/-- the endless rhythm -/
def W (xs : List Str) (k : Nat) : Option Str := xs[k % xs.length]?
theorem W_per (xs : List Str) : Per (W xs) xs.length := fun k => by
  unfold W
  rw [Nat.add_mod_right]
theorem W_lt {xs : List Str} {k : Nat} (h : k < xs.length) : W xs k = xs[k]? := by
  unfold W
  rw [Nat.mod_eq_of_lt h]
theorem isPeriod_is {xs : List Str} {s : Nat} (hs : 0 < s) (hle : s ≤ xs.length) : isPeriod xs s = true ↔ xs.length % s = 0 ∧ Per (W xs) s := by
  unfold isPeriod
  rw [Bool.and_eq_true, decide_eq_true_eq, decide_eq_true_eq]
  constructor
  · rintro ⟨h1, h2⟩
    refine ⟨h1, fun k => ?_⟩
    have p := (period_iff xs s hs h1 hle).mp h2
    unfold W
    have n0 : 0 < xs.length := by omega
    rw [p _ (Nat.mod_lt _ n0), p (k % xs.length) (Nat.mod_lt _ n0), Nat.mod_mod_of_dvd _ (Nat.dvd_of_mod_eq_zero h1), Nat.mod_mod_of_dvd _ (Nat.dvd_of_mod_eq_zero h1), Nat.add_mod_right]
  · rintro ⟨h1, h2⟩
    refine ⟨h1, (period_iff xs s hs h1 hle).mpr fun k hk => ?_⟩
    have e := h2.rest k
    rw [W_lt hk, W_lt (Nat.lt_of_le_of_lt (Nat.mod_le _ _) hk)] at e
    exact e.symm
structure LT (xs : List Str) : Prop where
  pos : 0 < (leastTurn xs).length
  le : (leastTurn xs).length ≤ xs.length
  dvd : xs.length % (leastTurn xs).length = 0
  per : Per (W xs) (leastTurn xs).length
  take : leastTurn xs = xs.take (leastTurn xs).length
  least : ∀ p, 0 < p → Per (W xs) p → (leastTurn xs).length ≤ p
theorem lt_spec {xs : List Str} (h : 0 < xs.length) : LT xs := by
  have hb : ∀ s ∈ (List.range xs.length).map (· + 1), 0 < s ∧ s ≤ xs.length := fun s hs => by
    obtain ⟨j, hj, rfl⟩ := List.mem_map.mp hs
    have := List.mem_range.mp hj
    exact ⟨Nat.succ_pos j, this⟩
  cases hf : ((List.range xs.length).map (· + 1)).find? (isPeriod xs) with
  | none =>
    have := List.find?_eq_none.mp hf xs.length (List.mem_map.mpr ⟨xs.length - 1, List.mem_range.mpr (by omega), by show xs.length - 1 + 1 = xs.length; omega⟩)
    exact absurd ((isPeriod_is h (Nat.le_refl _)).mpr ⟨Nat.mod_self _, W_per xs⟩) this
  | some s =>
    have hm := hb s (List.mem_of_find?_eq_some hf)
    have hr := (isPeriod_is hm.1 hm.2).mp (List.find?_some hf)
    have lt : leastTurn xs = xs.take s := by
      unfold leastTurn
      rw [hf]
    have ll : (leastTurn xs).length = s := by rw [lt, List.length_take]; omega
    refine ⟨by omega, by omega, by rw [ll]; exact hr.1, by rw [ll]; exact hr.2, by rw [ll]; exact lt, fun p hp hper => ?_⟩
    rw [ll]
    have g := Per.gcd hper (W_per xs)
    have g0 : 0 < Nat.gcd p xs.length := Nat.gcd_pos_of_pos_left _ hp
    have g1 : Nat.gcd p xs.length ≤ p := Nat.gcd_le_left _ hp
    have g2 : Nat.gcd p xs.length ≤ xs.length := Nat.gcd_le_right _ h
    refine Nat.le_trans (Nat.le_of_not_lt fun hlt => ?_) g1
    obtain ⟨_, i, hi, he, hbefore⟩ := List.find?_eq_some_iff_getElem.mp hf
    have hi' : i < xs.length := by simpa using hi
    have es : s = i + 1 := by rw [← he]; simp
    have := hbefore (Nat.gcd p xs.length - 1) (by omega)
    simp only [List.getElem_map, List.getElem_range] at this
    have et : Nat.gcd p xs.length - 1 + 1 = Nat.gcd p xs.length := by omega
    rw [et, (isPeriod_is g0 g2).mpr ⟨Nat.mod_eq_zero_of_dvd (Nat.gcd_dvd_right _ _), g⟩] at this
    simp at this
theorem rot_get (xs : List Str) (t k : Nat) (h0 : 0 < xs.length) (hk : k < xs.length) : (rot xs t)[k]? = xs[(t + k) % xs.length]? := by
  unfold rot
  have hm : t % xs.length < xs.length := Nat.mod_lt _ h0
  have e : (t + k) % xs.length = (t % xs.length + k) % xs.length := by simp
  rw [e]
  generalize t % xs.length = z at *
  by_cases h : k < xs.length - z
  · rw [List.getElem?_append_left (by rw [List.length_drop]; exact h), List.getElem?_drop, Nat.mod_eq_of_lt (by omega)]
  · rw [List.getElem?_append_right (by rw [List.length_drop]; omega), List.length_drop, List.getElem?_take_of_lt (by omega)]
    congr 1
    rw [Nat.mod_eq_sub_mod (by omega), Nat.mod_eq_of_lt (by omega)]
    omega
theorem rot_len (xs : List Str) (t : Nat) : (rot xs t).length = xs.length := by
  unfold rot
  rw [List.length_append, List.length_drop, List.length_take]
  by_cases h0 : 0 < xs.length
  · have := Nat.mod_lt t h0; omega
  · have : xs.length = 0 := by omega
    omega
/-- the least turn's ticks are the rhythm's -/
theorem LT.at {xs : List Str} (L : LT xs) (k : Nat) : (leastTurn xs)[k % (leastTurn xs).length]? = W xs k := by
  have hm := Nat.mod_lt k L.pos
  have e : (leastTurn xs)[k % (leastTurn xs).length]? = xs[k % (leastTurn xs).length]? := by
    conv => lhs; rw [L.take]
    rw [List.length_take, Nat.min_eq_left L.le, List.getElem?_take_of_lt hm]
  rw [e, ← W_lt (by have := L.le; omega), L.per.rest]
theorem sbfb_agree {one other : List Str} (h1 : 0 < one.length) (h2 : 0 < other.length) {b : Nat} (h : sbfb one other = some b) : ∀ k, W one (b + k) = W other k := by
  have L1 := lt_spec h1
  have L2 := lt_spec h2
  unfold sbfb at h
  split at h
  · rename_i hl
    have hr := List.find?_some h
    rw [decide_eq_true_eq] at hr
    intro k
    rw [← L2.at k, ← hr, rot_len, hl, rot_get _ _ _ L1.pos (by rw [← hl] ; exact Nat.mod_lt _ L1.pos), ← hl]
    have e : (b + k % (leastTurn one).length) % (leastTurn one).length = (b + k) % (leastTurn one).length := by simp
    rw [e, L1.at]
  · cases h
theorem agree_sbfb {one other : List Str} (h1 : 0 < one.length) (h2 : 0 < other.length) {i j : Nat} (h : ∀ k, W one (i + k) = W other (j + k)) : (sbfb one other).isSome = true := by
  have L1 := lt_spec h1
  have L2 := lt_spec h2
  have shift : ∀ {xs : List Str} {i p : Nat} {ys : List Str} {j : Nat}, 0 < ys.length → (∀ k, W xs (i + k) = W ys (j + k)) → Per (W xs) p → Per (W ys) p := fun {xs i p ys j} hy h hp k => by
    have q := (W_per ys).mul j k
    have q2 := (W_per ys).mul j (k + p)
    have l : j ≤ j * ys.length := Nat.le_mul_of_pos_right _ hy
    have e1 : k + j * ys.length = j + (k + (j * ys.length - j)) := by omega
    have e2 : k + p + j * ys.length = j + (k + (j * ys.length - j) + p) := by omega
    rw [e1, ← h] at q
    rw [e2, ← h, ← Nat.add_assoc, hp] at q2
    rw [← q, ← q2]
  have hst : (leastTurn one).length = (leastTurn other).length := Nat.le_antisymm
    (L1.least _ L2.pos (shift h1 (fun k => (h k).symm) L2.per)) (L2.least _ L1.pos (shift h2 h L1.per))
  unfold sbfb
  rw [if_pos hst, List.find?_isSome]
  have pos := L1.pos
  refine ⟨(i + ((leastTurn one).length - j % (leastTurn one).length)) % (leastTurn one).length, List.mem_range.mpr (Nat.mod_lt _ pos), ?_⟩
  rw [decide_eq_true_eq]
  apply List.ext_getElem?
  intro k
  by_cases hk : k < (leastTurn one).length
  · rw [rot_get _ _ _ pos hk]
    have e1 : (((i + ((leastTurn one).length - j % (leastTurn one).length)) % (leastTurn one).length + k) % (leastTurn one).length) = (i + (((leastTurn one).length - j % (leastTurn one).length) + k)) % (leastTurn one).length := by
      rw [Nat.mod_add_mod, Nat.add_assoc]
    have e2 : (leastTurn other)[k]? = (leastTurn other)[k % (leastTurn other).length]? := by rw [Nat.mod_eq_of_lt (by omega)]
    rw [e1, L1.at, e2, L2.at, h]
    have hj := Nat.mod_lt j pos
    have e3 : j + ((leastTurn one).length - j % (leastTurn one).length + k) = k + (j / (leastTurn one).length + 1) * (leastTurn one).length := by
      have := Nat.mod_add_div j (leastTurn one).length
      rw [Nat.succ_mul, Nat.mul_comm]
      omega
    rw [e3, hst]
    exact L2.per.mul _ _
  · rw [List.getElem?_eq_none (by rw [rot_len]; omega), List.getElem?_eq_none (by omega)]
/-! ### stretches -/
theorem alike_W (one other : List Str) (i j k : Nat) : alikeAt one other i j k = decide (W one (i + k) = W other (j + k)) := rfl
structure SL (one other : List Str) (i j most L : Nat) : Prop where
  le : L ≤ most
  eq : ∀ k, k < L → W one (i + k) = W other (j + k)
  ne : L < most → W one (i + L) ≠ W other (j + L)
theorem strLen_is (one other : List Str) (i j most : Nat) : SL one other i j most (strLen one other i j most) := by
  obtain ⟨_, h2, h3, h4⟩ := runTo_is (alikeAt one other i j) most 0
  refine ⟨by unfold strLen; omega, fun k hk => ?_, fun hl => ?_⟩
  · have := h3 k (by omega) hk
    rw [alike_W, decide_eq_true_eq] at this
    exact this
  · have := h4 (by unfold strLen at hl; omega)
    have h : alikeAt one other i j (strLen one other i j most) = false := this
    rw [alike_W, decide_eq_false_iff_not] at h
    exact h
theorem SL.uniq {one other : List Str} {i j m1 m2 a b : Nat} (h1 : SL one other i j m1 a) (h2 : SL one other i j m2 b) (ha : a < m1) (hm : m1 ≤ m2) : b = a := by
  have q := h1.ne ha
  have l := h2.le
  rcases Nat.lt_trichotomy a b with h | h | h
  · exact absurd (h2.eq a h) q
  · exact h.symm
  · exact absurd (h1.eq b h) (h2.ne (by omega))
theorem SL.cong {one other : List Str} {i j i' j' m a b : Nat} (hi : ∀ k, W one (i + k) = W one (i' + k)) (hj : ∀ k, W other (j + k) = W other (j' + k)) (h1 : SL one other i j m a) (h2 : SL one other i' j' m b) : a = b := by
  have la := h1.le
  have lb := h2.le
  rcases Nat.lt_trichotomy a b with h | h | h
  · have := h1.ne (by omega)
    rw [hi, hj] at this
    exact absurd (h2.eq a h) this
  · exact h
  · have := h2.ne (by omega)
    rw [← hi, ← hj] at this
    exact absurd (h1.eq b h) this
end
end HW

namespace HW
open PySem PySem.Spec PyProof.Rows L2
noncomputable section
/-! ### the longest stretch, told twice -/
theorem str_in (one other : List Str) (size i : Nat) : ∀ (js : List Nat) (b : Nat), match stepL (strStep one other size i) js b with
    | .inl b' => b ≤ b' ∧ (∀ j ∈ js, strLen one other i j size ≤ b' ∧ strLen one other i j size ≠ size) ∧ (b' = b ∨ ∃ j ∈ js, b' = strLen one other i j size)
    | .inr _ => ∃ j ∈ js, strLen one other i j size = size
  | [], b => ⟨Nat.le_refl _, by simp, Or.inl rfl⟩
  | j :: js, b => by
    unfold stepL strStep
    by_cases hL : strLen one other i j size = size
    · rw [if_pos hL]
      exact ⟨j, by simp, hL⟩
    · rw [if_neg hL]
      have ih := str_in one other size i js (if strLen one other i j size > b then strLen one other i j size else b)
      generalize hx : (if strLen one other i j size > b then strLen one other i j size else b) = x at *
      have x1 : b ≤ x ∧ strLen one other i j size ≤ x ∧ (x = b ∨ x = strLen one other i j size) := by rw [← hx]; split <;> omega
      show match stepL (strStep one other size i) js x with
        | .inl b' => b ≤ b' ∧ (∀ j' ∈ j :: js, strLen one other i j' size ≤ b' ∧ strLen one other i j' size ≠ size) ∧ (b' = b ∨ ∃ j' ∈ j :: js, b' = strLen one other i j' size)
        | .inr _ => ∃ j' ∈ j :: js, strLen one other i j' size = size
      cases hs : stepL (strStep one other size i) js x with
      | inl b' =>
        rw [hs] at ih
        obtain ⟨i1, i2, i3⟩ := ih
        refine ⟨by omega, fun y hy => ?_, ?_⟩
        · rcases List.mem_cons.mp hy with rfl | hy
          · exact ⟨by omega, hL⟩
          · exact i2 y hy
        · rcases i3 with i3 | ⟨y, hy, i3⟩
          · rcases x1.2.2 with h | h
            · exact Or.inl (by omega)
            · exact Or.inr ⟨j, by simp, by omega⟩
          · exact Or.inr ⟨y, by simp [hy], i3⟩
      | inr d =>
        rw [hs] at ih
        obtain ⟨y, hy, e⟩ := ih
        exact ⟨y, by simp [hy], e⟩
theorem str_out (one other : List Str) (size m : Nat) : ∀ (is : List Nat) (b : Nat), match stepL (fun b i => stepL (strStep one other size i) (List.range m) b) is b with
    | .inl b' => b ≤ b' ∧ (∀ i ∈ is, ∀ j, j < m → strLen one other i j size ≤ b' ∧ strLen one other i j size ≠ size) ∧ (b' = b ∨ ∃ i ∈ is, ∃ j, j < m ∧ b' = strLen one other i j size)
    | .inr _ => ∃ i ∈ is, ∃ j, j < m ∧ strLen one other i j size = size
  | [], b => ⟨Nat.le_refl _, by simp, Or.inl rfl⟩
  | i :: is, b => by
    have h1 := str_in one other size i (List.range m) b
    unfold stepL
    cases hs : stepL (strStep one other size i) (List.range m) b with
    | inr d =>
      rw [hs] at h1
      obtain ⟨j, hj, e⟩ := h1
      exact ⟨i, by simp, j, List.mem_range.mp hj, e⟩
    | inl x =>
      rw [hs] at h1
      obtain ⟨x1, x2, x3⟩ := h1
      have ih := str_out one other size m is x
      show match stepL (fun b i => stepL (strStep one other size i) (List.range m) b) is x with
        | .inl b' => b ≤ b' ∧ (∀ i' ∈ i :: is, ∀ j, j < m → strLen one other i' j size ≤ b' ∧ strLen one other i' j size ≠ size) ∧ (b' = b ∨ ∃ i' ∈ i :: is, ∃ j, j < m ∧ b' = strLen one other i' j size)
        | .inr _ => ∃ i' ∈ i :: is, ∃ j, j < m ∧ strLen one other i' j size = size
      cases hs2 : stepL (fun b i => stepL (strStep one other size i) (List.range m) b) is x with
      | inl b' =>
        rw [hs2] at ih
        obtain ⟨i1, i2, i3⟩ := ih
        refine ⟨by omega, fun y hy j hj => ?_, ?_⟩
        · rcases List.mem_cons.mp hy with rfl | hy
          · have := x2 j (List.mem_range.mpr hj)
            exact ⟨by omega, this.2⟩
          · exact i2 y hy j hj
        · rcases i3 with i3 | ⟨y, hy, i3⟩
          · rcases x3 with h | ⟨j, hj, h⟩
            · exact Or.inl (by omega)
            · exact Or.inr ⟨i, by simp, j, List.mem_range.mp hj, by omega⟩
          · exact Or.inr ⟨y, by simp [hy], i3⟩
      | inr d =>
        rw [hs2] at ih
        obtain ⟨y, hy, e⟩ := ih
        exact ⟨y, by simp [hy], e⟩
theorem best_in (one other : List Str) (most i : Nat) : ∀ (js : List Nat) (b : Best), b.1 ≤ (js.foldl (bestStep one other most i) b).1 ∧ (∀ j ∈ js, strLen one other i j most ≤ (js.foldl (bestStep one other most i) b).1) ∧ ((js.foldl (bestStep one other most i) b).1 = b.1 ∨ ∃ j ∈ js, (js.foldl (bestStep one other most i) b).1 = strLen one other i j most)
  | [], b => ⟨Nat.le_refl _, by simp, Or.inl rfl⟩
  | j :: js, b => by
    have ih := best_in one other most i js (bestStep one other most i b j)
    rw [List.foldl_cons]
    have x1 : b.1 ≤ (bestStep one other most i b j).1 ∧ strLen one other i j most ≤ (bestStep one other most i b j).1 ∧ ((bestStep one other most i b j).1 = b.1 ∨ (bestStep one other most i b j).1 = strLen one other i j most) := by
      unfold bestStep
      split
      · refine ⟨?_, ?_, Or.inr rfl⟩ <;> (try show _ ≤ strLen one other i j most) <;> omega
      · refine ⟨?_, ?_, Or.inl rfl⟩ <;> omega
    generalize bestStep one other most i b j = x at *
    obtain ⟨i1, i2, i3⟩ := ih
    refine ⟨by omega, fun y hy => ?_, ?_⟩
    · rcases List.mem_cons.mp hy with rfl | hy
      · omega
      · exact i2 y hy
    · rcases i3 with i3 | ⟨y, hy, i3⟩
      · rcases x1.2.2 with h | h
        · exact Or.inl (by omega)
        · exact Or.inr ⟨j, by simp, by omega⟩
      · exact Or.inr ⟨y, by simp [hy], i3⟩
theorem best_out (one other : List Str) (most m : Nat) : ∀ (is : List Nat) (b : Best), b.1 ≤ (is.foldl (fun b i => (List.range m).foldl (bestStep one other most i) b) b).1 ∧ (∀ i ∈ is, ∀ j, j < m → strLen one other i j most ≤ (is.foldl (fun b i => (List.range m).foldl (bestStep one other most i) b) b).1) ∧
    ((is.foldl (fun b i => (List.range m).foldl (bestStep one other most i) b) b).1 = b.1 ∨ ∃ i ∈ is, ∃ j, j < m ∧ (is.foldl (fun b i => (List.range m).foldl (bestStep one other most i) b) b).1 = strLen one other i j most)
  | [], b => ⟨Nat.le_refl _, by simp, Or.inl rfl⟩
  | i :: is, b => by
    have h1 := best_in one other most i (List.range m) b
    have ih := best_out one other most m is ((List.range m).foldl (bestStep one other most i) b)
    rw [List.foldl_cons]
    generalize (List.range m).foldl (bestStep one other most i) b = x at *
    obtain ⟨x1, x2, x3⟩ := h1
    obtain ⟨i1, i2, i3⟩ := ih
    refine ⟨by omega, fun y hy j hj => ?_, ?_⟩
    · rcases List.mem_cons.mp hy with rfl | hy
      · have := x2 j (List.mem_range.mpr hj)
        omega
      · exact i2 y hy j hj
    · rcases i3 with i3 | ⟨y, hy, i3⟩
      · rcases x3 with h | ⟨j, hj, h⟩
        · exact Or.inl (by omega)
        · exact Or.inr ⟨i, by simp, j, List.mem_range.mp hj, by omega⟩
      · exact Or.inr ⟨y, by simp [hy], i3⟩
theorem W_rest (xs : List Str) {p : Nat} (hp : Per (W xs) p) (i k : Nat) : W xs (i + k) = W xs (i % p + k) := by
  rw [← hp.rest (i + k), ← hp.rest (i % p + k), Nat.mod_add_mod]
section
variable {one other : List Str} (h1 : 0 < one.length) (h2 : 0 < other.length)
include h1 h2
theorem len_full {i j m : Nat} (hm : (leastTurn one).length + (leastTurn other).length ≤ m) (h : strLen one other i j m = m) : (sbfb one other).isSome = true := by
  have L1 := lt_spec h1
  have L2 := lt_spec h2
  have s := strLen_is one other i j m
  have pu : Per (fun k => W one (i + k)) (leastTurn one).length := fun k => by show W one (i + (k + _)) = _; rw [← Nat.add_assoc]; exact L1.per _
  have pv : Per (fun k => W other (j + k)) (leastTurn other).length := fun k => by show W other (j + (k + _)) = _; rw [← Nat.add_assoc]; exact L2.per _
  have := agree_all L1.pos L2.pos pu pv fun k hk => s.eq k (by omega)
  exact agree_sbfb h1 h2 this
theorem stretch_common : stretchR one other = match commonR one other with
    | .inl _ => none
    | .inr b => some b.1 := by
  have L1 := lt_spec h1
  have L2 := lt_spec h2
  have l1 := L1.le
  have l2 := L2.le
  have so := str_out one other (one.length + other.length) other.length (List.range one.length) 0
  unfold stretchR commonR
  cases hs : sbfb one other with
  | some b =>
    have ag := sbfb_agree h1 h2 hs
    dsimp only
    cases ho : stepL (fun b i => stepL (strStep one other (one.length + other.length) i) (List.range other.length) b) (List.range one.length) 0 with
    | inr d => rfl
    | inl x =>
      rw [ho] at so
      obtain ⟨_, i2, _⟩ := so
      have q := i2 (b % one.length) (List.mem_range.mpr (Nat.mod_lt _ h1)) 0 h2
      have s := strLen_is one other (b % one.length) 0 (one.length + other.length)
      have le := s.le
      exfalso
      have := s.ne (by omega)
      rw [← W_rest one (W_per one), ag, Nat.zero_add] at this
      exact this rfl
  | none =>
    have nf : ∀ {i j m : Nat}, (leastTurn one).length + (leastTurn other).length ≤ m → strLen one other i j m ≠ m := fun hm e => by
      have := len_full h1 h2 hm e
      rw [hs] at this
      simp at this
    have same : ∀ i j, strLen one other i j (one.length + other.length) = strLen one other (i % (leastTurn one).length) (j % (leastTurn other).length) ((leastTurn one).length + (leastTurn other).length) := fun i j => by
      have sA := strLen_is one other i j ((leastTurn one).length + (leastTurn other).length)
      have sB := strLen_is one other i j (one.length + other.length)
      have sC := strLen_is one other (i % (leastTurn one).length) (j % (leastTurn other).length) ((leastTurn one).length + (leastTurn other).length)
      have lt : strLen one other i j ((leastTurn one).length + (leastTurn other).length) < (leastTurn one).length + (leastTurn other).length := by
        have := sA.le
        have := nf (i := i) (j := j) (Nat.le_refl _)
        omega
      rw [sA.uniq sB lt (by omega)]
      exact SL.cong (W_rest one L1.per i) (W_rest other L2.per j) sA sC
    dsimp only
    have bo := best_out one other ((leastTurn one).length + (leastTurn other).length) (leastTurn other).length (List.range (leastTurn one).length) (0, 0, 0)
    have eb : (List.range (leastTurn one).length).foldl (fun b i => (List.range (leastTurn other).length).foldl (bestStep one other ((leastTurn one).length + (leastTurn other).length) i) b) (0, 0, 0) = bestAll one other (leastTurn one).length (leastTurn other).length ((leastTurn one).length + (leastTurn other).length) := rfl
    rw [eb] at bo
    generalize bestAll one other (leastTurn one).length (leastTurn other).length ((leastTurn one).length + (leastTurn other).length) = B at *
    obtain ⟨_, b2, b3⟩ := bo
    cases ho : stepL (fun b i => stepL (strStep one other (one.length + other.length) i) (List.range other.length) b) (List.range one.length) 0 with
    | inr d =>
      rw [ho] at so
      obtain ⟨i, _, j, _, e⟩ := so
      exact absurd e (nf (by omega))
    | inl x =>
      rw [ho] at so
      obtain ⟨_, s2, s3⟩ := so
      show some x = some B.1
      congr 1
      refine Nat.le_antisymm ?_ ?_
      · rcases s3 with h | ⟨i, _, j, _, h⟩
        · omega
        · rw [h, same]
          exact b2 _ (List.mem_range.mpr (Nat.mod_lt _ L1.pos)) _ (Nat.mod_lt _ L2.pos)
      · rcases b3 with h | ⟨i, hi, j, hj, h⟩
        · have h : B.1 = 0 := h
          omega
        · have hi := List.mem_range.mp hi
          have := (s2 i (List.mem_range.mpr (by omega)) j (by omega)).1
          rw [same, Nat.mod_eq_of_lt hi, Nat.mod_eq_of_lt hj] at this
          omega
theorem good_is (time : Int) : goodAt time one other = lessR (stretchR one other) time := by
  rw [stretch_common h1 h2]
  unfold goodAt
  cases commonR one other with
  | inl b => rfl
  | inr b => rfl
/-- whoever listens longer than the longest stretch hears that it is not the other one -/
theorem apart_in {M : Nat} (h : stretchR one other = some M) (i j : Nat) : ∃ k, k ≤ M ∧ W one (i + k) ≠ W other (j + k) := by
  have so := str_out one other (one.length + other.length) other.length (List.range one.length) 0
  unfold stretchR at h
  cases ho : stepL (fun b i => stepL (strStep one other (one.length + other.length) i) (List.range other.length) b) (List.range one.length) 0 with
  | inr d => rw [ho] at h; cases h
  | inl x =>
    rw [ho] at h so
    cases h
    obtain ⟨_, s2, _⟩ := so
    have q := s2 (i % one.length) (List.mem_range.mpr (Nat.mod_lt _ h1)) (j % other.length) (Nat.mod_lt _ h2)
    have s := strLen_is one other (i % one.length) (j % other.length) (one.length + other.length)
    have le := s.le
    refine ⟨_, q.1, ?_⟩
    have := s.ne (by omega)
    rwa [← W_rest one (W_per one), ← W_rest other (W_per other)] at this
end
end
end HW

namespace HW
open PySem PySem.Spec PyProof.Rows L2
noncomputable section
/-! ### least_time -/
def kvT (ks : List Int) : List (P × D) := ks.map fun k => (.int k, .pd (.bool true))
def addK (ks : List Int) (k : Int) : List Int := if ks.contains k then ks else ks ++ [k]
theorem put_kvT (k : Int) : ∀ ks : List Int, putDk (kvT ks) (.int k) (.pd (.bool true)) = kvT (addK ks k)
  | [] => rfl
  | j :: ks => by
    have ih := put_kvT k ks
    unfold addK at ih ⊢
    show (if decide (j = k) = true then _ else _) = _
    by_cases h : j = k
    · subst h
      simp [kvT]
    · have hk : ¬ k = j := fun e => h e.symm
      rw [decide_eq_false h, if_neg Bool.false_ne_true, List.contains_cons]
      show (PyData.int j, D.pd (.bool true)) :: putDk (kvT ks) _ _ = _
      rw [ih]
      have e : (k == j) = false := by simpa using hk
      rw [e, Bool.false_or]
      split <;> simp [kvT]
theorem mem_addK (ks : List Int) (k j : Int) : j ∈ addK ks k ↔ j ∈ ks ∨ j = k := by
  unfold addK
  split
  · rename_i h
    have := List.contains_iff_mem.mp h
    constructor
    · exact Or.inl
    · rintro (h1 | rfl)
      · exact h1
      · exact this
  · simp
theorem addK_len (ks : List Int) (k : Int) : (addK ks k).length ≤ ks.length + 1 := by
  unfold addK
  split <;> simp
theorem intKeys_kvT : ∀ ks : List Int, intKeys (kvT ks) = some ks
  | [] => rfl
  | k :: ks => by
    show (intKeys (kvT ks)).map _ = _
    rw [intKeys_kvT ks]
    rfl
def tStep (one : List Str) (ks : List Int) (other : List Str) : List Int := match commonR one other with
  | .inl _ => ks
  | .inr b => addK ks ((b.1 : Int) + 1)
def keysOf (rs : List (List Str)) : List Int := rs.foldl (fun ks one => rs.foldl (tStep one) ks) [0]
theorem tStep_len (one : List Str) (ks : List Int) (other : List Str) : (tStep one ks other).length ≤ ks.length + 1 := by
  unfold tStep
  split
  · omega
  · exact addK_len _ _
theorem tFold_len (one : List Str) : ∀ (os : List (List Str)) (ks : List Int), (os.foldl (tStep one) ks).length ≤ ks.length + os.length
  | [], ks => by simp
  | o :: os, ks => by
    have := tFold_len one os (tStep one ks o)
    have := tStep_len one ks o
    rw [List.foldl_cons, List.length_cons]
    omega
theorem mem_tFold (one : List Str) (j : Int) : ∀ (os : List (List Str)) (ks : List Int), j ∈ os.foldl (tStep one) ks ↔ j ∈ ks ∨ ∃ o ∈ os, ∃ b, commonR one o = .inr b ∧ j = (b.1 : Int) + 1
  | [], ks => by simp
  | o :: os, ks => by
    rw [List.foldl_cons, mem_tFold one j os]
    have h : j ∈ tStep one ks o ↔ j ∈ ks ∨ ∃ b, commonR one o = .inr b ∧ j = (b.1 : Int) + 1 := by
      unfold tStep
      cases e : commonR one o with
      | inl n => simp
      | inr b =>
        dsimp only
        rw [mem_addK]
        constructor
        · rintro (h | h)
          · exact Or.inl h
          · exact Or.inr ⟨b, rfl, h⟩
        · rintro (h | ⟨b', h1, h2⟩)
          · exact Or.inl h
          · cases h1
            exact Or.inr h2
    rw [h]
    constructor
    · rintro ((h | h) | ⟨o', h1, h2⟩)
      · exact Or.inl h
      · exact Or.inr ⟨o, by simp, h⟩
      · exact Or.inr ⟨o', by simp [h1], h2⟩
    · rintro (h | ⟨o', h1, h2⟩)
      · exact Or.inl (Or.inl h)
      · rcases List.mem_cons.mp h1 with rfl | h1
        · exact Or.inl (Or.inr h2)
        · exact Or.inr ⟨o', h1, h2⟩
theorem mem_keys (rs : List (List Str)) (j : Int) : j ∈ keysOf rs ↔ j = 0 ∨ ∃ one ∈ rs, ∃ o ∈ rs, ∃ b, commonR one o = .inr b ∧ j = (b.1 : Int) + 1 := by
  have go : ∀ (is : List (List Str)) (ks : List Int), j ∈ is.foldl (fun ks one => rs.foldl (tStep one) ks) ks ↔ j ∈ ks ∨ ∃ one ∈ is, ∃ o ∈ rs, ∃ b, commonR one o = .inr b ∧ j = (b.1 : Int) + 1 := by
    intro is
    induction is with
    | nil => intro ks; simp
    | cons i is ih =>
      intro ks
      rw [List.foldl_cons, ih, mem_tFold]
      constructor
      · rintro ((h | h) | ⟨o', h1, h2⟩)
        · exact Or.inl h
        · exact Or.inr ⟨i, by simp, h⟩
        · exact Or.inr ⟨o', by simp [h1], h2⟩
      · rintro (h | ⟨o', h1, h2⟩)
        · exact Or.inl (Or.inl h)
        · rcases List.mem_cons.mp h1 with rfl | h1
          · exact Or.inl (Or.inr h2)
          · exact Or.inr ⟨o', h1, h2⟩
  unfold keysOf
  rw [go]
  simp
def pbT (count : Nat) (near : List (Nat × Nat)) (rs : List (List Str)) (t : Int) : Pb := ⟨count, near, goodOf rs t, List.replicate rs.length 0⟩
def given (pb : Pb) : Bool := (bestOf pb).isSome
def timeR (count : Nat) (near : List (Nat × Nat)) (rs : List (List Str)) : Option Int := (ssetI (keysOf rs)).find? fun t => given (pbT count near rs t)
theorem goodM_of (rs : List (List Str)) (t : Int) : GoodM (goodOf rs t) rs.length := ⟨by simp [goodOf], fun r hr => by
  obtain ⟨o, _, rfl⟩ := List.mem_map.mp hr
  simp⟩
theorem told_first (pb : Pb) : idxP (toldOf pb) (.int 0) = some (.str (if given pb then "given" else "never")) := by
  unfold toldOf given
  cases bestOf pb with
  | none => exact atI_zero _ _
  | some z => exact atI_zero _ _
theorem stepL_find {β : Type} (p : β → Bool) (f : β → D) : ∀ xs : List β, stepL (fun (_ : Unit) t => if p t then (.inr (f t) : Unit ⊕ D) else .inl ()) xs () = (match xs.find? p with | some t => .inr (f t) | none => .inl ())
  | [] => rfl
  | x :: xs => by
    unfold stepL
    rw [List.find?_cons]
    cases p x with
    | true => rfl
    | false => exact stepL_find p f xs
theorem least_time_sem (count : Nat) (near : List (Nat × Nat)) (rs : List (List Str)) (hr : RhOk rs) (hn : rs.length ≤ 3) (hc : count ≤ 4) :
    least_time_s [.int (count : Int), .list (near.map encPr), .list (encRh rs), .int 9999] = some (encO (timeR count near rs)) := by
  have nd : nodes rs.length count ≤ 9999 := by
    match count, hc, rs.length, hn with
    | 0, _, 0, _ | 0, _, 1, _ | 0, _, 2, _ | 0, _, 3, _ | 1, _, 0, _ | 1, _, 1, _ | 1, _, 2, _ | 1, _, 3, _ | 2, _, 0, _ | 2, _, 1, _ | 2, _, 2, _ | 2, _, 3, _ | 3, _, 0, _ | 3, _, 1, _ | 3, _, 2, _ | 3, _, 3, _ | 4, _, 0, _ | 4, _, 1, _ | 4, _, 2, _ | 4, _, 3, _ => decide
  have inner := fun (one : List Str) (ho : 0 < one.length ∧ one.length < 1000) (os : List (List Str)) (ks : List Int) (ρ : Sl) (hI : RhOk os ∧ ks.length + os.length < 1000) (hs : ∃ d6 d7, ρ = [.pd (.int (count : Int)), .pd (.list (near.map encPr)), .pd (.list (encRh rs)), .pd (.int 9999), .od (kvT ks), .pd (.list (strsL one)), d6, d7, .hole]) =>
    forL_rel (t := .nm 6) (body := least_time_b1) (fun r : List Str => .list (strsL r)) (fun (ks : List Int) ρ => ∃ d6 d7, ρ = [.pd (.int (count : Int)), .pd (.list (near.map encPr)), .pd (.list (encRh rs)), .pd (.int 9999), .od (kvT ks), .pd (.list (strsL one)), d6, d7, .hole])
      (tStep one) (fun os ks => RhOk os ∧ ks.length + os.length < 1000) (fun o os ks ρ hI hs => by
        obtain ⟨d6, d7, rfl⟩ := hs
        obtain ⟨h1, h2⟩ := hI
        have hz := h1 o (by simp)
        have hl := tStep_len one ks o
        rw [List.length_cons] at h2
        have cs := common_sem one o ho.1 hz.1 ho.2 hz.2
        refine ⟨⟨fun x hx => h1 x (by simp [hx]), by omega⟩, _, [.pd (.int (count : Int)), .pd (.list (near.map encPr)), .pd (.list (encRh rs)), .pd (.int 9999), .od (kvT (tStep one ks o)), .pd (.list (strsL one)), .pd (.list (strsL o)), .pd (encCommon (commonR one o)), .hole], rfl, ?_, _, _, rfl⟩
        show least_time_b1 [.pd (.int (count : Int)), .pd (.list (near.map encPr)), .pd (.list (encRh rs)), .pd (.int 9999), .od (kvT ks), .pd (.list (strsL one)), .pd (.list (strsL o)), d7, .hole] = _
        unfold least_time_b1
        rw [seq_nx (ρ1 := [.pd (.int (count : Int)), .pd (.list (near.map encPr)), .pd (.list (encRh rs)), .pd (.int 9999), .od (kvT ks), .pd (.list (strsL one)), .pd (.list (strsL o)), .pd (encCommon (commonR one o)), .hole]) (set_of (callN_of (arg_of (v_of rfl) (arg_of (v_of rfl) dArgs_nil)) rfl cs))]
        unfold tStep
        cases hcm : commonR one o with
        | inl n =>
          rw [if_f (cmp_of (bin_of (v_of rfl) dC_ (atI_zero _ _)) dC_ (way_ne (by decide)))]
          rfl
        | inr b =>
          rw [if_t (cmp_of (bin_of (v_of rfl) dC_ (atI_zero _ _)) dC_ (way_eq _))]
          dsimp only
          rw [← put_kvT]
          have hk : (kvT ks).length = ks.length := by simp [kvT]
          generalize kvT ks = kv at *
          have e : dBin addP (dBin idxP (dV 7) (dC (.int 1))) (dC (.int 1)) [.pd (.int (count : Int)), .pd (.list (near.map encPr)), .pd (.list (encRh rs)), .pd (.int 9999), .od kv, .pd (.list (strsL one)), .pd (.list (strsL o)), .pd (encCommon (.inr b)), .hole] = some (.int ((b.1 : Int) + 1), [.pd (.int (count : Int)), .pd (.list (near.map encPr)), .pd (.list (encRh rs)), .pd (.int 9999), .od kv, .pd (.list (strsL one)), .pd (.list (strsL o)), .pd (encCommon (.inr b)), .hole]) :=
            bin_of (bin_of (v_of rfl) dC_ (atI_one _ _ _)) dC_ (addP_int _ _)
          unfold dDput
          rw [dC_, Option.bind_some]
          dsimp only
          rw [if_pos (by rfl), e, Option.bind_some]
          dsimp only [keyOf]
          show (if kv.length < 16777216 then _ else none) = _
          rw [if_pos (by omega)]
          rfl) os ks ρ hI hs
  obtain ⟨ρ', L, d5, d6, d7, hρ⟩ := forL_rel (t := .nm 5) (body := least_time_b2) (fun r : List Str => .list (strsL r)) (fun (ks : List Int) ρ => ∃ d5 d6 d7, ρ = [.pd (.int (count : Int)), .pd (.list (near.map encPr)), .pd (.list (encRh rs)), .pd (.int 9999), .od (kvT ks), d5, d6, d7, .hole])
      (fun ks one => rs.foldl (tStep one) ks) (fun os ks => RhOk os ∧ ks.length + 3 * os.length < 63) (fun o os ks ρ hI hs => by
        obtain ⟨d5, d6, d7, rfl⟩ := hs
        obtain ⟨h1, h2⟩ := hI
        have hz := h1 o (by simp)
        rw [List.length_cons] at h2
        have hl := tFold_len o rs ks
        obtain ⟨ρ', L, e6, e7, hρ⟩ := inner o hz rs ks [.pd (.int (count : Int)), .pd (.list (near.map encPr)), .pd (.list (encRh rs)), .pd (.int 9999), .od (kvT ks), .pd (.list (strsL o)), d6, d7, .hole] ⟨hr, by omega⟩ ⟨_, _, rfl⟩
        refine ⟨⟨fun x hx => h1 x (by simp [hx]), by omega⟩, _, ρ', rfl, ?_, _, e6, e7, hρ⟩
        show least_time_b2 [.pd (.int (count : Int)), .pd (.list (near.map encPr)), .pd (.list (encRh rs)), .pd (.int 9999), .od (kvT ks), .pd (.list (strsL o)), d6, d7, .hole] = _
        unfold least_time_b2
        rw [for_of (it_of (v_of rfl) rfl)]
        exact L) rs [0] [.pd (.int (count : Int)), .pd (.list (near.map encPr)), .pd (.list (encRh rs)), .pd (.int 9999), .od (kvT [0]), .hole, .hole, .hole, .hole] ⟨hr, by simp; omega⟩ ⟨_, _, _, rfl⟩
  have ek : rs.foldl (fun ks one => rs.foldl (tStep one) ks) [0] = keysOf rs := rfl
  rw [ek] at hρ
  have kl : (keysOf rs).length < 64 := by
    have go : ∀ (is : List (List Str)) (ks : List Int), (is.foldl (fun ks one => rs.foldl (tStep one) ks) ks).length ≤ ks.length + 3 * is.length := by
      intro is
      induction is with
      | nil => intro ks; simp
      | cons i is ih =>
        intro ks
        have h1 := ih (rs.foldl (tStep i) ks)
        have h2 := tFold_len i rs ks
        rw [List.foldl_cons, List.length_cons]
        omega
    have := go rs [0]
    rw [ek, List.length_singleton] at this
    omega
  subst hρ
  have A := forL_ans (t := .nm 8) (body := least_time_b3) PyData.int (fun (_ : Unit) ρ => ∃ d8, ρ = [.pd (.int (count : Int)), .pd (.list (near.map encPr)), .pd (.list (encRh rs)), .pd (.int 9999), .od (kvT (keysOf rs)), d5, d6, d7, d8]) (fun _ _ => True)
    (fun _ t => if given (pbT count near rs t) then .inr (.pd (.int t)) else .inl ()) (fun _ _ => True) (fun t ts a ρ _ hs => by
      obtain ⟨d8, rfl⟩ := hs
      have ok : PbOk (pbT count near rs t) := ⟨by
        have := goodM_of rs t
        simpa [pbT] using this, by simp [pbT]; omega, by simp [pbT]; omega⟩
      have nn : NonNeg (pbT count near rs t) := fun r => by
        show 0 ≤ (List.replicate rs.length (0 : Int)).getD r 0
        rw [List.getD_eq_getElem?_getD, List.getElem?_replicate]
        split <;> simp
      have ch := choice_of_sem (pbT count near rs t) ok nn (by show count < 6; omega) (by simpa [pbT] using nd)
      have ta := told_apart_sem rs t hr (by omega)
      have m := mulP_rep (x := PyData.int 0) (n := rs.length) (by omega)
      have em : List.replicate rs.length (PyData.int 0) = intsL (List.replicate rs.length 0) := by simp [intsL]
      rw [em] at m
      have B : dCmp eqP (dBin idxP (dCallN 5 choice_of_s (dArgs [(dV 0), (dV 1), (dCallN 2 told_apart_s (dArgs [(dV 2), (dV 8)])), (dBin mulP (dLst (dArgs [(dC (.int 0))])) (dCall lenP (dArgs [(dV 2)]))), (dV 3)])) (dC (.int 0))) (dC (.str "given")) [.pd (.int (count : Int)), .pd (.list (near.map encPr)), .pd (.list (encRh rs)), .pd (.int 9999), .od (kvT (keysOf rs)), d5, d6, d7, .pd (.int t)] = some (given (pbT count near rs t), [.pd (.int (count : Int)), .pd (.list (near.map encPr)), .pd (.list (encRh rs)), .pd (.int 9999), .od (kvT (keysOf rs)), d5, d6, d7, .pd (.int t)]) :=
        cmp_of (bin_of (callN_of (arg_of (v_of rfl) (arg_of (v_of rfl) (arg_of (callN_of (arg_of (v_of rfl) (arg_of (v_of rfl) dArgs_nil)) rfl ta) (arg_of (bin_of (lst_of (arg_of dC_ dArgs_nil)) (call_of (arg_of (v_of rfl) dArgs_nil) (by rw [lenP_list]; simp [encRh])) m) (arg_of (v_of rfl) dArgs_nil))))) rfl ch) dC_ (told_first _)) dC_ (by
          cases given (pbT count near rs t) with
          | true => exact way_eq _
          | false => exact way_ne (by decide))
      cases hg : given (pbT count near rs t) with
      | true =>
        rw [hg] at B
        exact ⟨_, _, rfl, Eq.trans (if_t B) (ret_of (v_of rfl)), trivial⟩
      | false =>
        rw [hg] at B
        exact ⟨trivial, _, _, rfl, Eq.trans (if_f B) rfl, _, rfl⟩) (ssetI (keysOf rs)) () [.pd (.int (count : Int)), .pd (.list (near.map encPr)), .pd (.list (encRh rs)), .pd (.int 9999), .od (kvT (keysOf rs)), d5, d6, d7, .hole] trivial ⟨_, rfl⟩
  rw [stepL_find] at A
  have so : dIt (dLst (dSortD 4)) [.pd (.int (count : Int)), .pd (.list (near.map encPr)), .pd (.list (encRh rs)), .pd (.int 9999), .od (kvT (keysOf rs)), d5, d6, d7, .hole] = some ((ssetI (keysOf rs)).map PyData.int, [.pd (.int (count : Int)), .pd (.list (near.map encPr)), .pd (.list (encRh rs)), .pd (.int 9999), .od (kvT (keysOf rs)), d5, d6, d7, .hole]) := by
    refine it_of (lst_of ?_) rfl
    show (intKeys (kvT (keysOf rs))).bind _ = _
    rw [intKeys_kvT, Option.bind_some, if_pos kl]
    rfl
  have start : ∀ s2 : SF, (dSeq (dSet 4 (dDict1 (dC (.int 0)) (dC (.bool true)))) (dSeq (dFor (dIt (dV 2)) (.nm 5) least_time_b2) s2)) [.pd (.int (count : Int)), .pd (.list (near.map encPr)), .pd (.list (encRh rs)), .pd (.int 9999), .hole, .hole, .hole, .hole, .hole] = s2 [.pd (.int (count : Int)), .pd (.list (near.map encPr)), .pd (.list (encRh rs)), .pd (.int 9999), .od (kvT (keysOf rs)), d5, d6, d7, .hole] := fun s2 => by
    rw [seq_nx (ρ1 := [.pd (.int (count : Int)), .pd (.list (near.map encPr)), .pd (.list (encRh rs)), .pd (.int 9999), .od (kvT [0]), .hole, .hole, .hole, .hole]) rfl]
    rw [seq_nx (Eq.trans (for_of (it_of (v_of rfl) rfl)) L)]
  unfold timeR
  cases hf : (ssetI (keysOf rs)).find? fun t => given (pbT count near rs t) with
  | none =>
    rw [hf] at A
    obtain ⟨ρ', L2, d8, rfl⟩ := A
    exact runQ_of (n := 9) (d := .pd .none) rfl (Eq.trans (start _) (Eq.trans (seq_nx (Eq.trans (for_of so) L2)) rfl)) (frz_pd _)
  | some t =>
    rw [hf] at A
    obtain ⟨ρ', L2, _⟩ := A
    exact runQ_of (n := 9) (d := .pd (.int t)) rfl (Eq.trans (start _) (seq_rt (Eq.trans (for_of so) L2))) (frz_pd _)
end
end HW

namespace HW
open PySem PySem.Spec PyProof.Rows L2
noncomputable section
/-! ### who is heard is not taken for a near one -/
theorem fit_fold (rs : List (List Str)) (heard : List (Option Str)) : ∀ (zs : List Start) (s : List Start × List (Start × Nat)), (zs.foldl (fitStep rs heard) s).1 = s.1 ++ zs.filter fun z => (barOf (rs.getD z.1 []) z.2 heard).isNone
  | [], s => by simp
  | z :: zs, s => by
    rw [List.foldl_cons, fit_fold rs heard zs]
    unfold fitStep
    rw [List.filter_cons]
    cases h : barOf (rs.getD z.1 []) z.2 heard with
    | none => simp
    | some k => simp
theorem fittingR_fits (rs : List (List Str)) (heard : List (Option Str)) : (fittingR rs heard).1 = (startsOf rs).filter fun z => (barOf (rs.getD z.1 []) z.2 heard).isNone := by
  unfold fittingR
  rw [fit_fold]
  rfl
def heardOf (one : List Str) (begin time : Nat) : List (Option Str) := (List.range time).map fun k => W one (begin + k)
theorem bar_heard {one other : List Str} {begin b time : Nat} (h0 : 0 < one.length) (h : barOf other b (heardOf one begin time) = none) : ∀ k, k < time → W one (begin + k) = W other (b + k) := by
  intro k hk
  unfold barOf at h
  rw [Option.map_eq_none_iff, List.find?_eq_none] at h
  have q := h (W one (begin + k), k) (by
    rw [List.mem_zipIdx_iff_getElem?]
    unfold heardOf
    rw [List.getElem?_map, List.getElem?_range hk]
    rfl)
  unfold okAt at q
  obtain ⟨y, hy⟩ : ∃ y, W one (begin + k) = some y := ⟨_, List.getElem?_eq_getElem (Nat.mod_lt _ h0)⟩
  rw [hy] at q ⊢
  simp at q
  exact q.symm
theorem fits_none {one other : List Str} (h1 : 0 < one.length) (h2 : 0 < other.length) {time : Nat} (hg : goodAt (time : Int) one other = true) (begin : Nat) : ∀ z ∈ (fittingR [one, other] (heardOf one begin time)).1, z.1 ≠ 1 := by
  intro z hz e
  rw [fittingR_fits, List.mem_filter] at hz
  obtain ⟨_, hz⟩ := hz
  rw [e] at hz
  have eo : [one, other].getD 1 [] = other := rfl
  rw [eo, Option.isNone_iff_eq_none] at hz
  have ag := bar_heard h1 hz
  rw [good_is h1 h2] at hg
  cases hs : stretchR one other with
  | none => rw [hs] at hg; simp [lessR] at hg
  | some M =>
    rw [hs] at hg
    have hM : (M : Int) < time := by simpa [lessR] using hg
    obtain ⟨k, hk, ne⟩ := apart_in h1 h2 hs begin z.2
    exact ne (ag k (by omega))
/-! ### the choices that keep near ones apart -/
def badIn (good : List (List Bool)) (row : List Nat) (z : Nat × Nat) : Bool := !gAt good (row.getD z.1 0) (row.getD z.2 0)
def okRow (near : List (Nat × Nat)) (good : List (List Bool)) (row : List Nat) : Bool := decide ((near.filter (badIn good row)).length = 0)
theorem okRow_is {near : List (Nat × Nat)} {good : List (List Bool)} {row : List Nat} : okRow near good row = true ↔ ∀ z ∈ near, gAt good (row.getD z.1 0) (row.getD z.2 0) = true := by
  unfold okRow
  rw [decide_eq_true_eq, List.length_eq_zero_iff, List.filter_eq_nil_iff]
  constructor
  · intro h z hz
    have := h z hz
    unfold badIn at this
    simpa using this
  · intro h z hz
    have := h z hz
    unfold badIn
    rw [this]
    exact Bool.false_ne_true
def NearOk (near : List (Nat × Nat)) (n : Nat) : Prop := ∀ z ∈ near, z.1 < z.2 ∧ z.2 < n
theorem nearR_ok (pl : List (Int × Int)) (reach : Int) : NearOk (nearR pl reach) pl.length := fun z hz => by
  unfold nearR at hz
  have hz := (List.mem_filter.mp hz).1
  unfold pairsN at hz
  obtain ⟨i, hi, hz⟩ := List.mem_flatMap.mp hz
  obtain ⟨k, hk, rfl⟩ := List.mem_map.mp hz
  have := List.mem_range.mp hk
  show i < i + 1 + k ∧ i + 1 + k < pl.length
  omega
def ableR (near : List (Nat × Nat)) (good : List (List Bool)) (n count : Nat) : List (List Nat) := (allR n count).filter (okRow near good)
theorem leaf_able (pb : Pb) (hno : NearOk pb.near pb.count) (z : Int × List Nat) : z ∈ leaves pb pb.count [] 0 ↔ z.1 = sumC pb z.2 ∧ z.2 ∈ ableR pb.near pb.good pb.costs.length pb.count := by
  rw [mem_leaves]
  unfold ableR
  rw [List.mem_filter, allR_row, okRow_is]
  constructor
  · rintro ⟨e, rfl, h2, h3, h4⟩
    simp only [List.nil_append, List.length_nil, Nat.zero_add, Int.zero_add] at h4 ⊢
    refine ⟨trivial, ⟨h2, h3⟩, fun z hz => ?_⟩
    obtain ⟨n1, n2⟩ := hno z hz
    have c := h4 z.2 (by omega) n2
    unfold clash at c
    have q := List.find?_eq_none.mp c z.1 (List.mem_range.mpr n1)
    unfold clashAt at q
    have hc : pb.near.contains (z.1, z.2) = true := List.contains_iff_mem.mpr hz
    rw [hc] at q
    simpa using q
  · rintro ⟨h1, ⟨h2, h3⟩, h4⟩
    refine ⟨z.2, ?_, h2, h3, fun m _ hm => ?_⟩
    · rw [Int.zero_add, ← h1]
      rfl
    · rw [List.nil_append]
      rw [List.length_nil, Nat.zero_add] at hm
      unfold clash
      rw [List.find?_eq_none]
      intro o ho
      have ho := List.mem_range.mp ho
      unfold clashAt
      cases hc2 : pb.near.contains (m, o) with
      | true =>
        have := hno _ (List.contains_iff_mem.mp hc2)
        simp at this
        omega
      | false =>
        cases hc : pb.near.contains (o, m) with
        | true =>
          have := h4 _ (List.contains_iff_mem.mp hc)
          simp at this
          simp [this]
        | false => simp
theorem given_able (pb : Pb) (hn : NonNeg pb) (hno : NearOk pb.near pb.count) : given pb = !(ableR pb.near pb.good pb.costs.length pb.count).isEmpty := by
  have b := best_is pb hn
  unfold given
  cases hb : bestOf pb with
  | none =>
    rw [hb] at b
    dsimp only at b
    have : ableR pb.near pb.good pb.costs.length pb.count = [] := by
      rw [List.eq_nil_iff_forall_not_mem]
      intro ch hch
      have := (leaf_able pb hno (sumC pb ch, ch)).mpr ⟨rfl, hch⟩
      rw [b] at this
      simp at this
    rw [this]
    rfl
  | some z =>
    rw [hb] at b
    have := (leaf_able pb hno z).mp b.1
    cases he : ableR pb.near pb.good pb.costs.length pb.count with
    | nil => rw [he] at this; simp at this
    | cons a r => rfl
theorem gAt_good {rs : List (List Str)} {t : Int} {a b : Nat} (ha : a < rs.length) (hb : b < rs.length) : gAt (goodOf rs t) a b = goodAt t rs[a] rs[b] := by
  unfold gAt goodOf
  simp [List.getD, ha, hb]
/-- the times at which something may change -/
def timesR (rs : List (List Str)) : List Int := 0 :: rs.flatMap fun one => (rs.filterMap fun o => stretchR one o).map fun m : Nat => (m : Int) + 1
theorem times_same (rs : List (List Str)) (hr : RhOk rs) : ssetI (timesR rs) = ssetI (keysOf rs) := by
  refine strict_unique (ssetI_sorted _) (ssetI_sorted _) fun j => ?_
  rw [ssetI_mem, ssetI_mem, mem_keys]
  unfold timesR
  rw [List.mem_cons, List.mem_flatMap]
  have key : ∀ one ∈ rs, ∀ o ∈ rs, ∀ m, stretchR one o = some m ↔ ∃ b, commonR one o = .inr b ∧ b.1 = m := fun one h1 o h2 m => by
    rw [stretch_common (hr one h1).1 (hr o h2).1]
    cases commonR one o with
    | inl n => simp
    | inr b => simp
  constructor
  · rintro (h | ⟨one, h1, h⟩)
    · exact Or.inl h
    · obtain ⟨m, hm, rfl⟩ := List.mem_map.mp h
      obtain ⟨o, h2, e⟩ := List.mem_filterMap.mp hm
      obtain ⟨b, e1, e2⟩ := (key one h1 o h2 m).mp e
      exact Or.inr ⟨one, h1, o, h2, b, e1, by rw [e2]⟩
  · rintro (h | ⟨one, h1, o, h2, b, e1, e2⟩)
    · exact Or.inl h
    · exact Or.inr ⟨one, h1, List.mem_map.mpr ⟨b.1, List.mem_filterMap.mpr ⟨o, h2, (key one h1 o h2 b.1).mpr ⟨b, e1, rfl⟩⟩, e2.symm⟩⟩
def dueR (near : List (Nat × Nat)) (rs : List (List Str)) (count : Nat) : Option Int := (ssetI (timesR rs)).find? fun t => !(ableR near (goodOf rs t) rs.length count).isEmpty
theorem pb_nonneg0 (count : Nat) (near : List (Nat × Nat)) (rs : List (List Str)) (t : Int) : NonNeg (pbT count near rs t) := fun r => by
  show 0 ≤ (List.replicate rs.length (0 : Int)).getD r 0
  rw [List.getD_eq_getElem?_getD, List.getElem?_replicate]
  split <;> simp
theorem due_same (near : List (Nat × Nat)) (rs : List (List Str)) (count : Nat) (hr : RhOk rs) (hno : NearOk near count) : timeR count near rs = dueR near rs count := by
  unfold timeR dueR
  rw [times_same rs hr]
  congr 1
  funext t
  have := given_able (pbT count near rs t) (pb_nonneg0 count near rs t) hno
  have e : (pbT count near rs t).costs.length = rs.length := by simp [pbT]
  rw [e] at this
  exact this
end
end HW

namespace HW
open PySem PySem.Spec PyProof.Rows L2
noncomputable section
/-! ### the law's slots -/
def LS (x0 x1 x2 x3 x4 x5 x6 x7 x8 x9 x10 x11 x12 x13 x14 x15 x16 x17 x18 x19 x20 x21 x22 x23 x24 x25 x26 x27 x28 x29 : D) : Sl := [x0, x1, x2, x3, x4, x5, x6, x7, x8, x9, x10, x11, x12, x13, x14, x15, x16, x17, x18, x19, x20, x21, x22, x23, x24, x25, x26, x27, x28, x29]
structure Rh (rs : List (List Str)) : Prop where
  pos : 0 < rs.length
  few : rs.length ≤ 3
  len : ∀ r ∈ rs, 0 < r.length ∧ r.length ≤ 15
theorem Rh.ok {rs : List (List Str)} (h : Rh rs) : RhOk rs := fun r hr => ⟨(h.len r hr).1, by have := (h.len r hr).2; omega⟩
section
variable {x0 x1 x2 x3 x4 x5 x6 x7 x8 x9 x10 x11 x12 x13 x14 x15 x16 x17 x18 x19 x20 x21 x22 x23 x24 : D}
theorem st_rh {d : D} (g : GoodS d) : ∃ rs d', dSet 2 (dPd (dLst (dComp (dItA rng1P (dArgs [(dBin addP (dC (.int 1)) (dFr (dFnM 1 1 _law_take_s (dArgs [(dC (.int 3))]))))])) [25] (.nm 25) dYes (dCallN 1 _law_row_s (dArgs [(dFr (dFnM 0 1 _law_runs_s (dArgs [])))]))))) (LS x0 d x2 x3 x4 x5 x6 x7 x8 x9 x10 x11 x12 x13 x14 x15 x16 x17 x18 x19 x20 x21 x22 x23 x24 .hole .hole .hole .hole .hole) = some (.nx, (LS x0 d' (.pd (.list (encRh rs))) x3 x4 x5 x6 x7 x8 x9 x10 x11 x12 x13 x14 x15 x16 x17 x18 x19 x20 x21 x22 x23 x24 .hole .hole .hole .hole .hole)) ∧ GoodS d' ∧ Rh rs := by
  obtain ⟨n, d1, e1, g1, hn⟩ := drawN (i := 1) (m := 3) (ρ := (LS x0 d x2 x3 x4 x5 x6 x7 x8 x9 x10 x11 x12 x13 x14 x15 x16 x17 x18 x19 x20 x21 x22 x23 x24 .hole .hole .hole .hole .hole)) rfl g (by omega) (by omega)
  have r1 := rng1P_nat (1 + n) (by omega)
  have a1 : (1 : Int) + (n : Int) = ((1 + n : Nat) : Int) := by omega
  obtain ⟨ys, d2, C, g2, l2, h2⟩ := dComp_st (S := D) (it := dItA rng1P (dArgs [(dBin addP (dC (.int 1)) (dFr (dFnM 1 1 _law_take_s (dArgs [(dC (.int 3))]))))])) (vs := [25]) (tg := .nm 25) (el := dCallN 1 _law_row_s (dArgs [(dFr (dFnM 0 1 _law_runs_s (dArgs [])))]))
    (fun i : Nat => PyData.int (i : Int)) (fun d => (LS x0 d x2 x3 x4 x5 x6 x7 x8 x9 x10 x11 x12 x13 x14 x15 x16 x17 x18 x19 x20 x21 x22 x23 x24 .hole .hole .hole .hole .hole)) (fun d => (LS x0 d x2 x3 x4 x5 x6 x7 x8 x9 x10 x11 x12 x13 x14 x15 x16 x17 x18 x19 x20 x21 x22 x23 x24 .hole .hole .hole .hole .hole)) GoodS (fun y => ∃ r : List Str, y = .list (strsL r) ∧ 0 < r.length ∧ r.length ≤ 15) (fun _ => rfl) (fun _ _ => rfl) (fun _ => rfl)
    (fun s x hs => by
      obtain ⟨zs, s1, q1, k1, hz⟩ := runs_sem hs
      refine ⟨(LS x0 s x2 x3 x4 x5 x6 x7 x8 x9 x10 x11 x12 x13 x14 x15 x16 x17 x18 x19 x20 x21 x22 x23 x24 (.pd (.int (x : Int))) .hole .hole .hole .hole), .list (strsL (rowOf zs)), (LS x0 s1 x2 x3 x4 x5 x6 x7 x8 x9 x10 x11 x12 x13 x14 x15 x16 x17 x18 x19 x20 x21 x22 x23 x24 (.pd (.int (x : Int))) .hole .hole .hole .hole), s1, rfl, ?_, rfl, k1, _, rfl, rowOf_len hz⟩
      have e : dFr (dFnM 0 1 _law_runs_s (dArgs [])) (LS x0 s x2 x3 x4 x5 x6 x7 x8 x9 x10 x11 x12 x13 x14 x15 x16 x17 x18 x19 x20 x21 x22 x23 x24 (.pd (.int (x : Int))) .hole .hole .hole .hole) = some (.list (zs.map encRun), (LS x0 s1 x2 x3 x4 x5 x6 x7 x8 x9 x10 x11 x12 x13 x14 x15 x16 x17 x18 x19 x20 x21 x22 x23 x24 (.pd (.int (x : Int))) .hole .hole .hole .hole)) := fr_of (fnM_of (ρ1 := (LS x0 s x2 x3 x4 x5 x6 x7 x8 x9 x10 x11 x12 x13 x14 x15 x16 x17 x18 x19 x20 x21 x22 x23 x24 (.pd (.int (x : Int))) .hole .hole .hole .hole)) (i := 1) rfl hs rfl rfl rfl hs q1) (frz_pd _)
      exact callN_of (arg_of e dArgs_nil) rfl (row_sem zs hz))
    d1 (List.range (1 + n)) (LS x0 d x2 x3 x4 x5 x6 x7 x8 x9 x10 x11 x12 x13 x14 x15 x16 x17 x18 x19 x20 x21 x22 x23 x24 .hole .hole .hole .hole .hole) (itA_of (arg_of (bin_of dC_ e1 (by rw [addP_int, a1])) dArgs_nil) r1) g1 (by rw [List.length_range]; omega)
  obtain ⟨rs, rfl, h3⟩ := goodCodes h2
  rw [List.length_map, List.length_range] at l2
  exact ⟨rs, d2, set_of (lst_of C), g2, ⟨by omega, by omega, h3⟩⟩
theorem st_count {d : D} (g : GoodS d) : ∃ (count : Nat) (d' : D), dSet 3 (dPd (dBin addP (dC (.int 1)) (dFr (dFnM 1 1 _law_take_s (dArgs [(dC (.int 4))]))))) (LS x0 d x2 x3 x4 x5 x6 x7 x8 x9 x10 x11 x12 x13 x14 x15 x16 x17 x18 x19 x20 x21 x22 x23 x24 .hole .hole .hole .hole .hole) = some (.nx, (LS x0 d' x2 (.pd (.int (count : Int))) x4 x5 x6 x7 x8 x9 x10 x11 x12 x13 x14 x15 x16 x17 x18 x19 x20 x21 x22 x23 x24 .hole .hole .hole .hole .hole)) ∧ GoodS d' ∧ 0 < count ∧ count ≤ 4 := by
  obtain ⟨n, d1, e1, g1, hn⟩ := drawN (i := 1) (m := 4) (ρ := (LS x0 d x2 x3 x4 x5 x6 x7 x8 x9 x10 x11 x12 x13 x14 x15 x16 x17 x18 x19 x20 x21 x22 x23 x24 .hole .hole .hole .hole .hole)) rfl g (by omega) (by omega)
  have a1 : (1 : Int) + (n : Int) = ((1 + n : Nat) : Int) := by omega
  exact ⟨1 + n, d1, set_of (bin_of dC_ e1 (by rw [addP_int, a1])), g1, by omega, by omega⟩
theorem st_time {d : D} (g : GoodS d) : ∃ (time : Nat) (d' : D), dSet 10 (dPd (dBin addP (dC (.int 1)) (dFr (dFnM 1 1 _law_take_s (dArgs [(dC (.int 8))]))))) (LS x0 d x2 x3 x4 x5 x6 x7 x8 x9 x10 x11 x12 x13 x14 x15 x16 x17 x18 x19 x20 x21 x22 x23 x24 .hole .hole .hole .hole .hole) = some (.nx, (LS x0 d' x2 x3 x4 x5 x6 x7 x8 x9 (.pd (.int (time : Int))) x11 x12 x13 x14 x15 x16 x17 x18 x19 x20 x21 x22 x23 x24 .hole .hole .hole .hole .hole)) ∧ GoodS d' ∧ 0 < time ∧ time ≤ 8 := by
  obtain ⟨n, d1, e1, g1, hn⟩ := drawN (i := 1) (m := 8) (ρ := (LS x0 d x2 x3 x4 x5 x6 x7 x8 x9 x10 x11 x12 x13 x14 x15 x16 x17 x18 x19 x20 x21 x22 x23 x24 .hole .hole .hole .hole .hole)) rfl g (by omega) (by omega)
  have a1 : (1 : Int) + (n : Int) = ((1 + n : Nat) : Int) := by omega
  exact ⟨1 + n, d1, set_of (bin_of dC_ e1 (by rw [addP_int, a1])), g1, by omega, by omega⟩
theorem st_reach {d : D} (g : GoodS d) : ∃ (reach : Nat) (d' : D), dSet 5 (dPd (dFr (dFnM 1 1 _law_take_s (dArgs [(dC (.int 7))])))) (LS x0 d x2 x3 x4 x5 x6 x7 x8 x9 x10 x11 x12 x13 x14 x15 x16 x17 x18 x19 x20 x21 x22 x23 x24 .hole .hole .hole .hole .hole) = some (.nx, (LS x0 d' x2 x3 x4 (.pd (.int (reach : Int))) x6 x7 x8 x9 x10 x11 x12 x13 x14 x15 x16 x17 x18 x19 x20 x21 x22 x23 x24 .hole .hole .hole .hole .hole)) ∧ GoodS d' ∧ reach < 7 := by
  obtain ⟨n, d1, e1, g1, hn⟩ := drawN (i := 1) (m := 7) (ρ := (LS x0 d x2 x3 x4 x5 x6 x7 x8 x9 x10 x11 x12 x13 x14 x15 x16 x17 x18 x19 x20 x21 x22 x23 x24 .hole .hole .hole .hole .hole)) rfl g (by omega) (by omega)
  exact ⟨n, d1, set_of e1, g1, hn⟩
theorem st_places {d : D} {count : Nat} (g : GoodS d) (hc : count ≤ 4) : ∃ (pl : List (Int × Int)) (d' : D), dSet 4 (dPd (dLst (dComp (dItA rng1P (dArgs [(dV 3)])) [25] (.nm 25) dYes (dTup [(dFr (dFnM 1 1 _law_take_s (dArgs [(dC (.int 7))]))), (dFr (dFnM 1 1 _law_take_s (dArgs [(dC (.int 7))])))])))) (LS x0 d x2 (.pd (.int (count : Int))) x4 x5 x6 x7 x8 x9 x10 x11 x12 x13 x14 x15 x16 x17 x18 x19 x20 x21 x22 x23 x24 .hole .hole .hole .hole .hole) = some (.nx, (LS x0 d' x2 (.pd (.int (count : Int))) (.pd (.list (pl.map encPl))) x5 x6 x7 x8 x9 x10 x11 x12 x13 x14 x15 x16 x17 x18 x19 x20 x21 x22 x23 x24 .hole .hole .hole .hole .hole)) ∧ GoodS d' ∧ PlOk pl ∧ pl.length = count := by
  have r1 := rng1P_nat count (by omega)
  obtain ⟨ys, d2, C, g2, l2, h2⟩ := dComp_st (S := D) (it := dItA rng1P (dArgs [(dV 3)])) (vs := [25]) (tg := .nm 25) (el := dTup [(dFr (dFnM 1 1 _law_take_s (dArgs [(dC (.int 7))]))), (dFr (dFnM 1 1 _law_take_s (dArgs [(dC (.int 7))])))])
    (fun i : Nat => PyData.int (i : Int)) (fun d => (LS x0 d x2 (.pd (.int (count : Int))) x4 x5 x6 x7 x8 x9 x10 x11 x12 x13 x14 x15 x16 x17 x18 x19 x20 x21 x22 x23 x24 .hole .hole .hole .hole .hole)) (fun d => (LS x0 d x2 (.pd (.int (count : Int))) x4 x5 x6 x7 x8 x9 x10 x11 x12 x13 x14 x15 x16 x17 x18 x19 x20 x21 x22 x23 x24 .hole .hole .hole .hole .hole)) GoodS (fun y => ∃ z : Int × Int, y = encPl z ∧ 0 ≤ z.1 ∧ z.1 < 1000 ∧ 0 ≤ z.2 ∧ z.2 < 1000) (fun _ => rfl) (fun _ _ => rfl) (fun _ => rfl)
    (fun s x hs => by
      obtain ⟨u, s1, q1, k1, hu⟩ := drawN (i := 1) (m := 7) (ρ := (LS x0 s x2 (.pd (.int (count : Int))) x4 x5 x6 x7 x8 x9 x10 x11 x12 x13 x14 x15 x16 x17 x18 x19 x20 x21 x22 x23 x24 (.pd (.int (x : Int))) .hole .hole .hole .hole)) rfl hs (by omega) (by omega)
      obtain ⟨w, s2, q2, k2, hw⟩ := drawN (i := 1) (m := 7) (ρ := (LS x0 s1 x2 (.pd (.int (count : Int))) x4 x5 x6 x7 x8 x9 x10 x11 x12 x13 x14 x15 x16 x17 x18 x19 x20 x21 x22 x23 x24 (.pd (.int (x : Int))) .hole .hole .hole .hole)) rfl k1 (by omega) (by omega)
      refine ⟨(LS x0 s x2 (.pd (.int (count : Int))) x4 x5 x6 x7 x8 x9 x10 x11 x12 x13 x14 x15 x16 x17 x18 x19 x20 x21 x22 x23 x24 (.pd (.int (x : Int))) .hole .hole .hole .hole), encPl ((u : Int), (w : Int)), (LS x0 s2 x2 (.pd (.int (count : Int))) x4 x5 x6 x7 x8 x9 x10 x11 x12 x13 x14 x15 x16 x17 x18 x19 x20 x21 x22 x23 x24 (.pd (.int (x : Int))) .hole .hole .hole .hole), s2, rfl, tup_of (arg_of q1 (arg_of q2 dArgs_nil)), rfl, k2, ((u : Int), (w : Int)), rfl, ?_⟩
      dsimp only
      omega)
    d (List.range count) (LS x0 d x2 (.pd (.int (count : Int))) x4 x5 x6 x7 x8 x9 x10 x11 x12 x13 x14 x15 x16 x17 x18 x19 x20 x21 x22 x23 x24 .hole .hole .hole .hole .hole) (itA_of (arg_of (v_of rfl) dArgs_nil) r1) g (by rw [List.length_range]; omega)
  obtain ⟨pl, rfl, h3⟩ := goodCodes h2
  rw [List.length_map, List.length_range] at l2
  exact ⟨pl, d2, set_of (lst_of C), g2, h3, l2⟩
theorem st_near {pl : List (Int × Int)} {reach : Int} (h : PlOk pl) (hn : pl.length ≤ 4) (hr : 0 ≤ reach ∧ reach < 1000) : ∃ d7 d8 d9, dFor (dItA rng1P (dArgs [(dV 3)])) (.nm 7) law_b2 (LS x0 x1 x2 (.pd (.int (pl.length : Int))) (.pd (.list (pl.map encPl))) (.pd (.int reach)) (.pd (.list (([] : List (Nat × Nat)).map encPr))) x7 x8 x9 x10 x11 x12 x13 x14 x15 x16 x17 x18 x19 x20 x21 x22 x23 x24 .hole .hole .hole .hole .hole) = some (.nx, (LS x0 x1 x2 (.pd (.int (pl.length : Int))) (.pd (.list (pl.map encPl))) (.pd (.int reach)) (.pd (.list ((nearR pl reach).map encPr))) d7 d8 d9 x10 x11 x12 x13 x14 x15 x16 x17 x18 x19 x20 x21 x22 x23 x24 .hole .hole .hole .hole .hole)) := by
  have inner := fun (i : Nat) (hi : i < pl.length) (ks : List Nat) (acc : List (Nat × Nat)) (ρ : Sl) (hI : (∀ k ∈ ks, i + 1 + k < pl.length) ∧ acc.length + ks.length < 100000) (hs : ∃ d8 d9, ρ = (LS x0 x1 x2 (.pd (.int (pl.length : Int))) (.pd (.list (pl.map encPl))) (.pd (.int reach)) (.pd (.list (acc.map encPr))) (.pd (.int (i : Int))) d8 d9 x10 x11 x12 x13 x14 x15 x16 x17 x18 x19 x20 x21 x22 x23 x24 .hole .hole .hole .hole .hole)) =>
    forL_rel (t := .nm 8) (body := law_b1) (fun k : Nat => .int ((i + 1 + k : Nat) : Int)) (fun (acc : List (Nat × Nat)) ρ => ∃ d8 d9, ρ = (LS x0 x1 x2 (.pd (.int (pl.length : Int))) (.pd (.list (pl.map encPl))) (.pd (.int reach)) (.pd (.list (acc.map encPr))) (.pd (.int (i : Int))) d8 d9 x10 x11 x12 x13 x14 x15 x16 x17 x18 x19 x20 x21 x22 x23 x24 .hole .hole .hole .hole .hole))
      (fun acc k => addIf (isNr pl reach) acc (i, i + 1 + k)) (fun ks acc => (∀ k ∈ ks, i + 1 + k < pl.length) ∧ acc.length + ks.length < 100000) (fun k ks acc ρ hI hs => by
        obtain ⟨d8, d9, rfl⟩ := hs
        obtain ⟨h1, h2⟩ := hI
        have hk := h1 k (by simp)
        rw [List.length_cons] at h2
        obtain ⟨a1, b1, b2, b3, b4⟩ := pl_at h hi
        obtain ⟨a2, c1, c2, c3, c4⟩ := pl_at h hk
        have hal := addIf_len (isNr pl reach) acc (i, i + 1 + k)
        refine ⟨⟨fun x hx => h1 x (by simp [hx]), by omega⟩, _, (LS x0 x1 x2 (.pd (.int (pl.length : Int))) (.pd (.list (pl.map encPl))) (.pd (.int reach)) (.pd (.list ((addIf (isNr pl reach) acc (i, i + 1 + k)).map encPr))) (.pd (.int (i : Int))) (.pd (.int ((i + 1 + k : Nat) : Int))) (.pd (.tuple [.int ((pl.getD i (0, 0)).1 - (pl.getD (i + 1 + k) (0, 0)).1), .int ((pl.getD i (0, 0)).2 - (pl.getD (i + 1 + k) (0, 0)).2)])) x10 x11 x12 x13 x14 x15 x16 x17 x18 x19 x20 x21 x22 x23 x24 .hole .hole .hole .hole .hole), rfl, ?_, _, _, rfl⟩
        show law_b1 (LS x0 x1 x2 (.pd (.int (pl.length : Int))) (.pd (.list (pl.map encPl))) (.pd (.int reach)) (.pd (.list (acc.map encPr))) (.pd (.int (i : Int))) (.pd (.int ((i + 1 + k : Nat) : Int))) d9 x10 x11 x12 x13 x14 x15 x16 x17 x18 x19 x20 x21 x22 x23 x24 .hole .hole .hole .hole .hole) = _
        have en : isNr pl reach (i, i + 1 + k) = decide (((pl.getD i (0, 0)).1 - (pl.getD (i + 1 + k) (0, 0)).1) * ((pl.getD i (0, 0)).1 - (pl.getD (i + 1 + k) (0, 0)).1) + ((pl.getD i (0, 0)).2 - (pl.getD (i + 1 + k) (0, 0)).2) * ((pl.getD i (0, 0)).2 - (pl.getD (i + 1 + k) (0, 0)).2) ≤ reach * reach) := rfl
        unfold law_b1
        generalize hji : i + 1 + k = j at *
        generalize pl.getD i (0, 0) = A at *
        generalize pl.getD j (0, 0) = B at *
        have m1 := mulP_sm (i := A.1 - B.1) (j := A.1 - B.1) (by omega)
        have m2 := mulP_sm (i := A.2 - B.2) (j := A.2 - B.2) (by omega)
        have m3 := mulP_sm (i := reach) (j := reach) (by omega)
        replace a1 : atI (pl.map encPl) (i : Int) = some (.tuple [.int A.1, .int A.2]) := a1
        replace a2 : atI (pl.map encPl) (j : Int) = some (.tuple [.int B.1, .int B.2]) := a2
        rw [seq_nx (ρ1 := (LS x0 x1 x2 (.pd (.int (pl.length : Int))) (.pd (.list (pl.map encPl))) (.pd (.int reach)) (.pd (.list (acc.map encPr))) (.pd (.int (i : Int))) (.pd (.int (j : Int))) (.pd (.tuple [.int (A.1 - B.1), .int (A.2 - B.2)])) x10 x11 x12 x13 x14 x15 x16 x17 x18 x19 x20 x21 x22 x23 x24 .hole .hole .hole .hole .hole)) (set_of (tup_of (arg_of (bin_of (bin_of (bin_of (v_of rfl) (v_of rfl) a1) dC_ (atI_zero _ _)) (bin_of (bin_of (v_of rfl) (v_of rfl) a2) dC_ (atI_zero _ _)) (subP_int _ _))
          (arg_of (bin_of (bin_of (bin_of (v_of rfl) (v_of rfl) a1) dC_ (atI_one _ _ _)) (bin_of (bin_of (v_of rfl) (v_of rfl) a2) dC_ (atI_one _ _ _)) (subP_int _ _)) dArgs_nil))))]
        unfold addIf
        rw [en]
        have T : dCmp leP (dBin addP (dBin mulP (dBin idxP (dV 9) (dC (.int 0))) (dBin idxP (dV 9) (dC (.int 0)))) (dBin mulP (dBin idxP (dV 9) (dC (.int 1))) (dBin idxP (dV 9) (dC (.int 1))))) (dBin mulP (dV 5) (dV 5)) (LS x0 x1 x2 (.pd (.int (pl.length : Int))) (.pd (.list (pl.map encPl))) (.pd (.int reach)) (.pd (.list (acc.map encPr))) (.pd (.int (i : Int))) (.pd (.int (j : Int))) (.pd (.tuple [.int (A.1 - B.1), .int (A.2 - B.2)])) x10 x11 x12 x13 x14 x15 x16 x17 x18 x19 x20 x21 x22 x23 x24 .hole .hole .hole .hole .hole) = some (decide ((A.1 - B.1) * (A.1 - B.1) + (A.2 - B.2) * (A.2 - B.2) ≤ reach * reach), (LS x0 x1 x2 (.pd (.int (pl.length : Int))) (.pd (.list (pl.map encPl))) (.pd (.int reach)) (.pd (.list (acc.map encPr))) (.pd (.int (i : Int))) (.pd (.int (j : Int))) (.pd (.tuple [.int (A.1 - B.1), .int (A.2 - B.2)])) x10 x11 x12 x13 x14 x15 x16 x17 x18 x19 x20 x21 x22 x23 x24 .hole .hole .hole .hole .hole)) :=
          cmp_of (bin_of (bin_of (bin_of (v_of rfl) dC_ (atI_zero _ _)) (bin_of (v_of rfl) dC_ (atI_zero _ _)) m1) (bin_of (bin_of (v_of rfl) dC_ (atI_one _ _ _)) (bin_of (v_of rfl) dC_ (atI_one _ _ _)) m2) (addP_int _ _)) (bin_of (v_of rfl) (v_of rfl) m3) (leP_int _ _)
        refine Eq.trans (set_of (ρ1 := (LS x0 x1 x2 (.pd (.int (pl.length : Int))) (.pd (.list (pl.map encPl))) (.pd (.int reach)) (.pd (.list (acc.map encPr))) (.pd (.int (i : Int))) (.pd (.int (j : Int))) (.pd (.tuple [.int (A.1 - B.1), .int (A.2 - B.2)])) x10 x11 x12 x13 x14 x15 x16 x17 x18 x19 x20 x21 x22 x23 x24 .hole .hole .hole .hole .hole)) (p := .list ((if decide ((A.1 - B.1) * (A.1 - B.1) + (A.2 - B.2) * (A.2 - B.2) ≤ reach * reach) = true then acc ++ [(i, j)] else acc).map encPr)) ?_) rfl
        rw [dIf_, T, Option.bind_some]
        by_cases hd : (A.1 - B.1) * (A.1 - B.1) + (A.2 - B.2) * (A.2 - B.2) ≤ reach * reach
        · rw [decide_eq_true hd]
          have ap := addP_list (xs := acc.map encPr) (ys := [encPr (i, j)]) (by simp; omega)
          exact bin_of (v_of rfl) (lst_of (arg_of (tup_of (arg_of (v_of rfl) (arg_of (v_of rfl) dArgs_nil))) dArgs_nil)) (by
            rw [if_pos rfl, List.map_append]
            exact ap)
        · rw [decide_eq_false hd]
          show dV 6 (LS x0 x1 x2 (.pd (.int (pl.length : Int))) (.pd (.list (pl.map encPl))) (.pd (.int reach)) (.pd (.list (acc.map encPr))) (.pd (.int (i : Int))) (.pd (.int (j : Int))) (.pd (.tuple [.int (A.1 - B.1), .int (A.2 - B.2)])) x10 x11 x12 x13 x14 x15 x16 x17 x18 x19 x20 x21 x22 x23 x24 .hole .hole .hole .hole .hole) = _
          exact v_of rfl) ks acc ρ hI hs
  obtain ⟨ρ', L, d7, d8, d9, hρ⟩ := forL_rel (t := .nm 7) (body := law_b2) (fun i : Nat => .int (i : Int)) (fun (acc : List (Nat × Nat)) ρ => ∃ d7 d8 d9, ρ = (LS x0 x1 x2 (.pd (.int (pl.length : Int))) (.pd (.list (pl.map encPl))) (.pd (.int reach)) (.pd (.list (acc.map encPr))) d7 d8 d9 x10 x11 x12 x13 x14 x15 x16 x17 x18 x19 x20 x21 x22 x23 x24 .hole .hole .hole .hole .hole))
      (fun acc i => acc ++ ((List.range (pl.length - (i + 1))).map fun k => (i, i + 1 + k)).filter (isNr pl reach)) (fun is acc => (∀ i ∈ is, i < pl.length) ∧ acc.length + 100 * is.length < 20000) (fun i is acc ρ hI hs => by
        obtain ⟨d7, d8, d9, rfl⟩ := hs
        obtain ⟨h1, h2⟩ := hI
        have hi := h1 i (by simp)
        rw [List.length_cons] at h2
        obtain ⟨ρ', L, e8, e9, hρ⟩ := inner i hi (List.range (pl.length - (i + 1))) acc (LS x0 x1 x2 (.pd (.int (pl.length : Int))) (.pd (.list (pl.map encPl))) (.pd (.int reach)) (.pd (.list (acc.map encPr))) (.pd (.int (i : Int))) d8 d9 x10 x11 x12 x13 x14 x15 x16 x17 x18 x19 x20 x21 x22 x23 x24 .hole .hole .hole .hole .hole) ⟨fun k hk => by have := List.mem_range.mp hk; omega, by rw [List.length_range]; omega⟩ ⟨_, _, rfl⟩
        have ef : (List.range (pl.length - (i + 1))).foldl (fun acc k => addIf (isNr pl reach) acc (i, i + 1 + k)) acc = acc ++ ((List.range (pl.length - (i + 1))).map fun k => (i, i + 1 + k)).filter (isNr pl reach) := by
          rw [← addIf_fold, List.foldl_map]
        rw [ef] at hρ
        have hl : (((List.range (pl.length - (i + 1))).map fun k => (i, i + 1 + k)).filter (isNr pl reach)).length ≤ 100 := by
          refine Nat.le_trans (List.length_filter_le _ _) ?_
          rw [List.length_map, List.length_range]
          omega
        refine ⟨⟨fun x hx => h1 x (by simp [hx]), by rw [List.length_append]; omega⟩, _, ρ', rfl, ?_, .pd (.int (i : Int)), e8, e9, hρ⟩
        have r2 := rng2P_nat (i + 1) pl.length (by omega) (by omega)
        have ec : ((i + 1 : Nat) : Int) = (i : Int) + 1 := by omega
        rw [ec] at r2
        show law_b2 (LS x0 x1 x2 (.pd (.int (pl.length : Int))) (.pd (.list (pl.map encPl))) (.pd (.int reach)) (.pd (.list (acc.map encPr))) (.pd (.int (i : Int))) d8 d9 x10 x11 x12 x13 x14 x15 x16 x17 x18 x19 x20 x21 x22 x23 x24 .hole .hole .hole .hole .hole) = _
        unfold law_b2
        rw [for_of (itA_of (arg_of (bin_of (v_of rfl) dC_ (addP_int _ _)) (arg_of (v_of rfl) dArgs_nil)) r2)]
        exact L) (List.range pl.length) [] (LS x0 x1 x2 (.pd (.int (pl.length : Int))) (.pd (.list (pl.map encPl))) (.pd (.int reach)) (.pd (.list (([] : List (Nat × Nat)).map encPr))) x7 x8 x9 x10 x11 x12 x13 x14 x15 x16 x17 x18 x19 x20 x21 x22 x23 x24 .hole .hole .hole .hole .hole) ⟨fun i hi => List.mem_range.mp hi, by rw [List.length_nil, List.length_range]; omega⟩ ⟨_, _, _, rfl⟩
  rw [fold_app, List.nil_append] at hρ
  have e0 : (List.range pl.length).flatMap (fun i => ((List.range (pl.length - (i + 1))).map fun k => (i, i + 1 + k)).filter (isNr pl reach)) = nearR pl reach := by
    unfold nearR pairsN
    rw [List.filter_flatMap]
  rw [e0] at hρ
  subst hρ
  have r1 := rng1P_nat pl.length (by omega)
  exact ⟨d7, d8, d9, Eq.trans (for_of (itA_of (arg_of (v_of rfl) dArgs_nil) r1)) L⟩
theorem plain_pr (z : Nat × Nat) : plainP (encPr z) = true := rfl
theorem st_near2 {pl : List (Int × Int)} {reach : Int} (h : PlOk pl) (hn : pl.length ≤ 4) (hr : 0 ≤ reach ∧ reach < 1000) : dIfS (dCmp neP (dCallN 2 near_pairs_s (dArgs [(dV 4), (dV 5)])) (dV 6)) (dRet (dPd (dC (.bool false)))) dNx (LS x0 x1 x2 (.pd (.int (pl.length : Int))) (.pd (.list (pl.map encPl))) (.pd (.int reach)) (.pd (.list ((nearR pl reach).map encPr))) x7 x8 x9 x10 x11 x12 x13 x14 x15 x16 x17 x18 x19 x20 x21 x22 x23 x24 .hole .hole .hole .hole .hole) = some (.nx, (LS x0 x1 x2 (.pd (.int (pl.length : Int))) (.pd (.list (pl.map encPl))) (.pd (.int reach)) (.pd (.list ((nearR pl reach).map encPr))) x7 x8 x9 x10 x11 x12 x13 x14 x15 x16 x17 x18 x19 x20 x21 x22 x23 x24 .hole .hole .hole .hole .hole)) :=
  Eq.trans (if_f (cmp_of (callN_of (arg_of (v_of rfl) (arg_of (v_of rfl) dArgs_nil)) rfl (near_sem pl reach h (by omega) hr)) (v_of rfl) (neP_refl (by simp only [plainP]; exact plain_map _ plain_pr _) (Nat.le_trans (depth_map _ 1 (fun z => by simp [encPr, PyData.depth, PyData.depthAll]) _) (by omega))))) rfl
end
end
end HW

namespace HW
open PySem PySem.Spec PyProof.Rows L2
noncomputable section
def encStr (rs : List (List Str)) : List P := rs.map fun one => .list (rs.map fun other => encN (stretchR one other))
section
variable {x0 x1 x2 x3 x4 x5 x6 x7 x8 x9 x10 x11 x12 x13 x14 x15 x16 x17 x18 x19 x20 x21 x22 x23 x24 : D} {rs : List (List Str)} (hr : Rh rs)
include hr
theorem st_str : dSet 11 (dPd (dLst (dComp (dIt (dV 2)) [16] (.nm 16) dYes (dLst (dComp (dIt (dV 2)) [17] (.nm 17) dYes (dCallN 2 _law_stretch_s (dArgs [(dV 16), (dV 17)]))))))) (LS x0 x1 (.pd (.list (encRh rs))) x3 x4 x5 x6 x7 x8 x9 x10 x11 x12 x13 x14 x15 .hole .hole x18 x19 x20 x21 x22 x23 x24 .hole .hole .hole .hole .hole) = some (.nx, (LS x0 x1 (.pd (.list (encRh rs))) x3 x4 x5 x6 x7 x8 x9 x10 (.pd (.list (encStr rs))) x12 x13 x14 x15 .hole .hole x18 x19 x20 x21 x22 x23 x24 .hole .hole .hole .hole .hole)) := by
  have few := hr.few
  refine set_of (lst_of (dComp_map (fun r : List Str => .list (strsL r)) (fun one => .list (rs.map fun other => encN (stretchR one other))) rs _ _ (it_of (v_of rfl) rfl) (by omega) rfl rfl fun one h1 => ⟨(LS x0 x1 (.pd (.list (encRh rs))) x3 x4 x5 x6 x7 x8 x9 x10 x11 x12 x13 x14 x15 (.pd (.list (strsL one))) .hole x18 x19 x20 x21 x22 x23 x24 .hole .hole .hole .hole .hole), rfl, ?_⟩))
  have k1 := hr.ok one h1
  refine lst_of (dComp_map (fun r : List Str => .list (strsL r)) (fun other => encN (stretchR one other)) rs _ _ (it_of (v_of rfl) rfl) (by omega) rfl rfl fun other h2 => ⟨(LS x0 x1 (.pd (.list (encRh rs))) x3 x4 x5 x6 x7 x8 x9 x10 x11 x12 x13 x14 x15 (.pd (.list (strsL one))) (.pd (.list (strsL other))) x18 x19 x20 x21 x22 x23 x24 .hole .hole .hole .hole .hole), rfl, ?_⟩)
  have k2 := hr.ok other h2
  exact callN_of (arg_of (v_of rfl) (arg_of (v_of rfl) dArgs_nil)) rfl (stretch_sem one other k1.1 k2.1 k1.2 k2.2)
theorem st_good {time : Nat} : dSet 12 (dPd (dLst (dComp (dIt (dV 11)) [22] (.nm 22) dYes (dLst (dComp (dIt (dV 22)) [27] (.nm 27) dYes (dB (dAnd (dNot (dIsN (dV 27))) (dCmp ltP (dV 27) (dV 10))))))))) (LS x0 x1 (.pd (.list (encRh rs))) x3 x4 x5 x6 x7 x8 x9 (.pd (.int (time : Int))) (.pd (.list (encStr rs))) x12 x13 x14 x15 x16 x17 x18 x19 x20 x21 .hole x23 x24 .hole .hole .hole .hole .hole) = some (.nx, (LS x0 x1 (.pd (.list (encRh rs))) x3 x4 x5 x6 x7 x8 x9 (.pd (.int (time : Int))) (.pd (.list (encStr rs))) (.pd (.list (encGood (goodOf rs (time : Int))))) x13 x14 x15 x16 x17 x18 x19 x20 x21 .hole x23 x24 .hole .hole .hole .hole .hole)) := by
  have few := hr.few
  have eg : encGood (goodOf rs (time : Int)) = rs.map fun one => .list (rs.map fun other => .bool (goodAt (time : Int) one other)) := by
    simp [encGood, goodOf, boolsL, Function.comp_def]
  rw [eg]
  refine set_of (lst_of (dComp_map (fun one : List Str => .list (rs.map fun other => encN (stretchR one other))) (fun one => .list (rs.map fun other => .bool (goodAt (time : Int) one other))) rs _ _ (it_of (v_of rfl) rfl) (by omega) rfl rfl fun one h1 => ⟨(LS x0 x1 (.pd (.list (encRh rs))) x3 x4 x5 x6 x7 x8 x9 (.pd (.int (time : Int))) (.pd (.list (encStr rs))) x12 x13 x14 x15 x16 x17 x18 x19 x20 x21 (.pd (.list (rs.map fun other => encN (stretchR one other)))) x23 x24 .hole .hole .hole .hole .hole), rfl, ?_⟩))
  have k1 := hr.ok one h1
  refine lst_of (dComp_map (fun other => encN (stretchR one other)) (fun other => .bool (goodAt (time : Int) one other)) rs _ _ (it_of (v_of rfl) rfl) (by omega) rfl rfl fun other h2 => ⟨(LS x0 x1 (.pd (.list (encRh rs))) x3 x4 x5 x6 x7 x8 x9 (.pd (.int (time : Int))) (.pd (.list (encStr rs))) x12 x13 x14 x15 x16 x17 x18 x19 x20 x21 (.pd (.list (rs.map fun other => encN (stretchR one other)))) x23 x24 .hole .hole (.pd (encN (stretchR one other))) .hole .hole), rfl, ?_⟩)
  have k2 := hr.ok other h2
  rw [good_is k1.1 k2.1]
  have q : dAnd (dNot (dIsN (dV 27))) (dCmp ltP (dV 27) (dV 10)) (LS x0 x1 (.pd (.list (encRh rs))) x3 x4 x5 x6 x7 x8 x9 (.pd (.int (time : Int))) (.pd (.list (encStr rs))) x12 x13 x14 x15 x16 x17 x18 x19 x20 x21 (.pd (.list (rs.map fun other => encN (stretchR one other)))) x23 x24 .hole .hole (.pd (encN (stretchR one other))) .hole .hole) = some (lessR (stretchR one other) (time : Int), (LS x0 x1 (.pd (.list (encRh rs))) x3 x4 x5 x6 x7 x8 x9 (.pd (.int (time : Int))) (.pd (.list (encStr rs))) x12 x13 x14 x15 x16 x17 x18 x19 x20 x21 (.pd (.list (rs.map fun other => encN (stretchR one other)))) x23 x24 .hole .hole (.pd (encN (stretchR one other))) .hole .hole)) := by
    cases hs : stretchR one other with
    | none => exact and_f (notN_y (v_of rfl) rfl)
    | some M => exact Eq.trans (and_t (notN_n (v_of rfl) rfl)) (cmp_of (v_of rfl) (v_of rfl) (ltP_int _ _))
  rw [dB_, q]
  rfl
theorem plain_good (g : List (List Bool)) : plainP (.list (encGood g)) = true := by
  simp only [plainP]
  exact plain_map _ (fun row => by simp only [plainP]; exact plain_map _ (fun _ => rfl) row) g
theorem depth_good (g : List (List Bool)) : (PyData.list (encGood g)).depth ≤ 100 :=
  Nat.le_trans (depth_map _ 1 (fun row => depth_map _ 0 (fun _ => by simp) row) g) (by omega)
theorem st_told {time : Nat} : dIfS (dCmp neP (dCallN 2 told_apart_s (dArgs [(dV 2), (dV 10)])) (dV 12)) (dRet (dPd (dC (.bool false)))) dNx (LS x0 x1 (.pd (.list (encRh rs))) x3 x4 x5 x6 x7 x8 x9 (.pd (.int (time : Int))) (.pd (.list (encStr rs))) (.pd (.list (encGood (goodOf rs (time : Int))))) x13 x14 x15 x16 x17 x18 x19 x20 x21 x22 x23 x24 .hole .hole .hole .hole .hole) = some (.nx, (LS x0 x1 (.pd (.list (encRh rs))) x3 x4 x5 x6 x7 x8 x9 (.pd (.int (time : Int))) (.pd (.list (encStr rs))) (.pd (.list (encGood (goodOf rs (time : Int))))) x13 x14 x15 x16 x17 x18 x19 x20 x21 x22 x23 x24 .hole .hole .hole .hole .hole)) :=
  Eq.trans (if_f (cmp_of (callN_of (arg_of (v_of rfl) (arg_of (v_of rfl) dArgs_nil)) rfl (told_apart_sem rs (time : Int) hr.ok (by have := hr.few; omega))) (v_of rfl) (neP_refl (plain_good hr _) (depth_good hr _)))) rfl
theorem str_at {i j : Nat} (hi : i < rs.length) (hj : j < rs.length) : ∃ row, atI (encStr rs) (i : Int) = some (.list row) ∧ atI row (j : Int) = some (encN (stretchR rs[i] rs[j])) :=
  ⟨rs.map fun other => encN (stretchR rs[i] other), atI_natP (by simp [encStr, hi]), atI_natP (by simp [hj])⟩
theorem rh_at {i : Nat} (hi : i < rs.length) : atI (encRh rs) (i : Int) = some (.list (strsL rs[i])) := atI_natP (by simp [encRh, hi])
theorem lw_common {time : Nat} : ∃ d7 d8 d13, dFor (dItA rng1P (dArgs [(dCall lenP (dArgs [(dV 2)]))])) (.nm 7) law_b4 (LS x0 x1 (.pd (.list (encRh rs))) x3 x4 x5 x6 x7 x8 x9 (.pd (.int (time : Int))) (.pd (.list (encStr rs))) (.pd (.list (encGood (goodOf rs (time : Int))))) x13 x14 x15 x16 x17 x18 x19 x20 x21 x22 x23 x24 .hole .hole .hole .hole .hole) = some (.nx, (LS x0 x1 (.pd (.list (encRh rs))) x3 x4 x5 x6 d7 d8 x9 (.pd (.int (time : Int))) (.pd (.list (encStr rs))) (.pd (.list (encGood (goodOf rs (time : Int))))) d13 x14 x15 x16 x17 x18 x19 x20 x21 x22 x23 x24 .hole .hole .hole .hole .hole)) := by
  have few := hr.few
  have r1 := rng1P_nat rs.length (by omega)
  have el : (encRh rs).length = rs.length := by simp [encRh]
  have body : ∀ (i j : Nat) (d13 : D), i < rs.length → j < rs.length → ∃ e13, law_b3 (LS x0 x1 (.pd (.list (encRh rs))) x3 x4 x5 x6 (.pd (.int (i : Int))) (.pd (.int (j : Int))) x9 (.pd (.int (time : Int))) (.pd (.list (encStr rs))) (.pd (.list (encGood (goodOf rs (time : Int))))) d13 x14 x15 x16 x17 x18 x19 x20 x21 x22 x23 x24 .hole .hole .hole .hole .hole) = some (.nx, (LS x0 x1 (.pd (.list (encRh rs))) x3 x4 x5 x6 (.pd (.int (i : Int))) (.pd (.int (j : Int))) x9 (.pd (.int (time : Int))) (.pd (.list (encStr rs))) (.pd (.list (encGood (goodOf rs (time : Int))))) e13 x14 x15 x16 x17 x18 x19 x20 x21 x22 x23 x24 .hole .hole .hole .hole .hole)) := fun i j d13 hi hj => by
    have k1 := hr.ok _ (List.getElem_mem hi)
    have k2 := hr.ok _ (List.getElem_mem hj)
    have cs := common_sem rs[i] rs[j] k1.1 k2.1 k1.2 k2.2
    have sc := stretch_common k1.1 k2.1
    obtain ⟨row, a1, a2⟩ := str_at hr hi hj
    refine ⟨.pd (encCommon (commonR rs[i] rs[j])), ?_⟩
    unfold law_b3
    rw [seq_nx (ρ1 := (LS x0 x1 (.pd (.list (encRh rs))) x3 x4 x5 x6 (.pd (.int (i : Int))) (.pd (.int (j : Int))) x9 (.pd (.int (time : Int))) (.pd (.list (encStr rs))) (.pd (.list (encGood (goodOf rs (time : Int))))) (.pd (encCommon (commonR rs[i] rs[j]))) x14 x15 x16 x17 x18 x19 x20 x21 x22 x23 x24 .hole .hole .hole .hole .hole)) (set_of (callN_of (arg_of (bin_of (v_of rfl) (v_of rfl) (rh_at hr hi)) (arg_of (bin_of (v_of rfl) (v_of rfl) (rh_at hr hj)) dArgs_nil)) rfl cs))]
    cases hc : commonR rs[i] rs[j] with
    | inl b =>
      rw [hc] at sc
      rw [sc] at a2
      have A : dCmp neP (dB (dCmp eqP (dBin idxP (dV 13) (dC (.int 0))) (dC (.str "same")))) (dB (dIsN (dBin idxP (dBin idxP (dV 11) (dV 7)) (dV 8)))) (LS x0 x1 (.pd (.list (encRh rs))) x3 x4 x5 x6 (.pd (.int (i : Int))) (.pd (.int (j : Int))) x9 (.pd (.int (time : Int))) (.pd (.list (encStr rs))) (.pd (.list (encGood (goodOf rs (time : Int))))) (.pd (encCommon (.inl b))) x14 x15 x16 x17 x18 x19 x20 x21 x22 x23 x24 .hole .hole .hole .hole .hole) = some (false, (LS x0 x1 (.pd (.list (encRh rs))) x3 x4 x5 x6 (.pd (.int (i : Int))) (.pd (.int (j : Int))) x9 (.pd (.int (time : Int))) (.pd (.list (encStr rs))) (.pd (.list (encGood (goodOf rs (time : Int))))) (.pd (encCommon (.inl b))) x14 x15 x16 x17 x18 x19 x20 x21 x22 x23 x24 .hole .hole .hole .hole .hole)) :=
        cmp_of (p := .bool true) (q := .bool true) (by rw [dB_, cmp_of (bin_of (v_of rfl) dC_ (atI_zero _ _)) dC_ (way_eq _)]; rfl) (by rw [dB_, isN_by (bin_of (bin_of (v_of rfl) (v_of rfl) a1) (v_of rfl) a2)]; rfl) (neP_refl rfl (by simp))
      exact Eq.trans (if_f (Eq.trans (or_f A) (and_f (cmp_of (bin_of (v_of rfl) dC_ (atI_zero _ _)) dC_ (way_ne (by decide)))))) rfl
    | inr b =>
      rw [hc] at sc
      rw [sc] at a2
      have A : dCmp neP (dB (dCmp eqP (dBin idxP (dV 13) (dC (.int 0))) (dC (.str "same")))) (dB (dIsN (dBin idxP (dBin idxP (dV 11) (dV 7)) (dV 8)))) (LS x0 x1 (.pd (.list (encRh rs))) x3 x4 x5 x6 (.pd (.int (i : Int))) (.pd (.int (j : Int))) x9 (.pd (.int (time : Int))) (.pd (.list (encStr rs))) (.pd (.list (encGood (goodOf rs (time : Int))))) (.pd (encCommon (.inr b))) x14 x15 x16 x17 x18 x19 x20 x21 x22 x23 x24 .hole .hole .hole .hole .hole) = some (false, (LS x0 x1 (.pd (.list (encRh rs))) x3 x4 x5 x6 (.pd (.int (i : Int))) (.pd (.int (j : Int))) x9 (.pd (.int (time : Int))) (.pd (.list (encStr rs))) (.pd (.list (encGood (goodOf rs (time : Int))))) (.pd (encCommon (.inr b))) x14 x15 x16 x17 x18 x19 x20 x21 x22 x23 x24 .hole .hole .hole .hole .hole)) :=
        cmp_of (p := .bool false) (q := .bool false) (by rw [dB_, cmp_of (bin_of (v_of rfl) dC_ (atI_zero _ _)) dC_ (way_ne (by decide))]; rfl) (by rw [dB_, isN_by (bin_of (bin_of (v_of rfl) (v_of rfl) a1) (v_of rfl) a2)]; rfl) (neP_refl rfl (by simp))
      exact Eq.trans (if_f (Eq.trans (or_f A) (Eq.trans (and_t (cmp_of (bin_of (v_of rfl) dC_ (atI_zero _ _)) dC_ (way_eq _))) (cmp_of (bin_of (v_of rfl) dC_ (atI_one _ _ _)) (bin_of (bin_of (v_of rfl) (v_of rfl) a1) (v_of rfl) a2) (neP_refl rfl (by simp)))))) rfl
  obtain ⟨ρ', L, d7, d8, d13, rfl⟩ := forL_all (t := .nm 7) (body := law_b4) (fun i : Nat => .int (i : Int)) (fun ρ => ∃ d7 d8 d13, ρ = (LS x0 x1 (.pd (.list (encRh rs))) x3 x4 x5 x6 d7 d8 x9 (.pd (.int (time : Int))) (.pd (.list (encStr rs))) (.pd (.list (encGood (goodOf rs (time : Int))))) d13 x14 x15 x16 x17 x18 x19 x20 x21 x22 x23 x24 .hole .hole .hole .hole .hole)) (List.range rs.length) (fun i ρ hi hs => by
    obtain ⟨d7, d8, d13, rfl⟩ := hs
    have hi := List.mem_range.mp hi
    obtain ⟨ρ', L, e8, e13, rfl⟩ := forL_all (t := .nm 8) (body := law_b3) (fun i : Nat => .int (i : Int)) (fun ρ => ∃ d8 d13, ρ = (LS x0 x1 (.pd (.list (encRh rs))) x3 x4 x5 x6 (.pd (.int (i : Int))) d8 x9 (.pd (.int (time : Int))) (.pd (.list (encStr rs))) (.pd (.list (encGood (goodOf rs (time : Int))))) d13 x14 x15 x16 x17 x18 x19 x20 x21 x22 x23 x24 .hole .hole .hole .hole .hole)) (List.range rs.length) (fun j ρ hj hs => by
      obtain ⟨d8, d13, rfl⟩ := hs
      obtain ⟨e13, e⟩ := body i j d13 hi (List.mem_range.mp hj)
      exact ⟨_, _, rfl, e, _, _, rfl⟩) (LS x0 x1 (.pd (.list (encRh rs))) x3 x4 x5 x6 (.pd (.int (i : Int))) d8 x9 (.pd (.int (time : Int))) (.pd (.list (encStr rs))) (.pd (.list (encGood (goodOf rs (time : Int))))) d13 x14 x15 x16 x17 x18 x19 x20 x21 x22 x23 x24 .hole .hole .hole .hole .hole) ⟨_, _, rfl⟩
    refine ⟨(LS x0 x1 (.pd (.list (encRh rs))) x3 x4 x5 x6 (.pd (.int (i : Int))) d8 x9 (.pd (.int (time : Int))) (.pd (.list (encStr rs))) (.pd (.list (encGood (goodOf rs (time : Int))))) d13 x14 x15 x16 x17 x18 x19 x20 x21 x22 x23 x24 .hole .hole .hole .hole .hole), (LS x0 x1 (.pd (.list (encRh rs))) x3 x4 x5 x6 (.pd (.int (i : Int))) e8 x9 (.pd (.int (time : Int))) (.pd (.list (encStr rs))) (.pd (.list (encGood (goodOf rs (time : Int))))) e13 x14 x15 x16 x17 x18 x19 x20 x21 x22 x23 x24 .hole .hole .hole .hole .hole), rfl, ?_, _, _, _, rfl⟩
    · unfold law_b4
      exact Eq.trans (for_of (itA_of (arg_of (call_of (arg_of (v_of rfl) dArgs_nil) (by rw [lenP_list, el])) dArgs_nil) r1)) L) (LS x0 x1 (.pd (.list (encRh rs))) x3 x4 x5 x6 x7 x8 x9 (.pd (.int (time : Int))) (.pd (.list (encStr rs))) (.pd (.list (encGood (goodOf rs (time : Int))))) x13 x14 x15 x16 x17 x18 x19 x20 x21 x22 x23 x24 .hole .hole .hole .hole .hole) ⟨_, _, _, rfl⟩
  exact ⟨d7, d8, d13, Eq.trans (for_of (itA_of (arg_of (call_of (arg_of (v_of rfl) dArgs_nil) (by rw [lenP_list, el])) dArgs_nil) r1)) L⟩
theorem st_costs {d : D} (g : GoodS d) : ∃ (costs : List Int) (d' : D), dSet 14 (dPd (dLst (dComp (dIt (dV 2)) [26] (.nm 26) dYes (dFr (dFnM 1 1 _law_take_s (dArgs [(dC (.int 5))])))))) (LS x0 d (.pd (.list (encRh rs))) x3 x4 x5 x6 x7 x8 x9 x10 x11 x12 x13 x14 x15 x16 x17 x18 x19 x20 x21 x22 x23 x24 .hole .hole .hole .hole .hole) = some (.nx, (LS x0 d' (.pd (.list (encRh rs))) x3 x4 x5 x6 x7 x8 x9 x10 x11 x12 x13 (.pd (.list (intsL costs))) x15 x16 x17 x18 x19 x20 x21 x22 x23 x24 .hole .hole .hole .hole .hole)) ∧ GoodS d' ∧ costs.length = rs.length ∧ ∀ c ∈ costs, 0 ≤ c := by
  have few := hr.few
  obtain ⟨ys, d2, C, g2, l2, h2⟩ := dComp_st (S := D) (it := dIt (dV 2)) (vs := [26]) (tg := .nm 26) (el := dFr (dFnM 1 1 _law_take_s (dArgs [(dC (.int 5))])))
    (fun r : List Str => .list (strsL r)) (fun d => (LS x0 d (.pd (.list (encRh rs))) x3 x4 x5 x6 x7 x8 x9 x10 x11 x12 x13 x14 x15 x16 x17 x18 x19 x20 x21 x22 x23 x24 .hole .hole .hole .hole .hole)) (fun d => (LS x0 d (.pd (.list (encRh rs))) x3 x4 x5 x6 x7 x8 x9 x10 x11 x12 x13 x14 x15 x16 x17 x18 x19 x20 x21 x22 x23 x24 .hole .hole .hole .hole .hole)) GoodS (fun y => ∃ z : Int, y = .int z ∧ 0 ≤ z) (fun _ => rfl) (fun _ _ => rfl) (fun _ => rfl)
    (fun s x hs => by
      obtain ⟨u, s1, q1, k1, hu⟩ := drawN (i := 1) (m := 5) (ρ := (LS x0 s (.pd (.list (encRh rs))) x3 x4 x5 x6 x7 x8 x9 x10 x11 x12 x13 x14 x15 x16 x17 x18 x19 x20 x21 x22 x23 x24 .hole (.pd (.list (strsL x))) .hole .hole .hole)) rfl hs (by omega) (by omega)
      exact ⟨(LS x0 s (.pd (.list (encRh rs))) x3 x4 x5 x6 x7 x8 x9 x10 x11 x12 x13 x14 x15 x16 x17 x18 x19 x20 x21 x22 x23 x24 .hole (.pd (.list (strsL x))) .hole .hole .hole), _, (LS x0 s1 (.pd (.list (encRh rs))) x3 x4 x5 x6 x7 x8 x9 x10 x11 x12 x13 x14 x15 x16 x17 x18 x19 x20 x21 x22 x23 x24 .hole (.pd (.list (strsL x))) .hole .hole .hole), s1, rfl, q1, rfl, k1, (u : Int), rfl, by omega⟩)
    d rs (LS x0 d (.pd (.list (encRh rs))) x3 x4 x5 x6 x7 x8 x9 x10 x11 x12 x13 x14 x15 x16 x17 x18 x19 x20 x21 x22 x23 x24 .hole .hole .hole .hole .hole) (it_of (v_of rfl) rfl) g (by omega)
  obtain ⟨costs, rfl, h3⟩ := goodCodes h2
  rw [List.length_map] at l2
  exact ⟨costs, d2, set_of (lst_of C), g2, l2, h3⟩
end
end
end HW

namespace HW
open PySem PySem.Spec PyProof.Rows L2
noncomputable section
theorem eqP_refl {p : P} (h : plainP p = true) (hd : p.depth ≤ 100) : eqP p p = some true := by
  unfold eqP
  rw [shal_of hd]
  simp [eqv_refl p h]
theorem nodes_small {n count : Nat} (hn : n ≤ 3) (hc : count ≤ 4) : nodes n count ≤ 9999 := by
  match count, hc, n, hn with
  | 0, _, 0, _ | 0, _, 1, _ | 0, _, 2, _ | 0, _, 3, _ | 1, _, 0, _ | 1, _, 1, _ | 1, _, 2, _ | 1, _, 3, _ | 2, _, 0, _ | 2, _, 1, _ | 2, _, 2, _ | 2, _, 3, _ | 3, _, 0, _ | 3, _, 1, _ | 3, _, 2, _ | 3, _, 3, _ | 4, _, 0, _ | 4, _, 1, _ | 4, _, 2, _ | 4, _, 3, _ => decide
theorem ch_at {n count : Nat} {row : List Nat} (h : row ∈ allR n count) {k : Nat} (hk : k < count) : atI (natsL row) (k : Int) = some (.int (row.getD k 0 : Nat)) ∧ row.getD k 0 < n := by
  obtain ⟨h1, h2⟩ := (allR_row count row).mp h
  have hl : k < row.length := by omega
  have e : row.getD k 0 = row[k] := by simp [List.getD, hl]
  rw [e]
  exact ⟨atI_natP (by simp [natsL, hl]), h2 _ (List.getElem_mem hl)⟩
section
variable {x0 x1 x2 x3 x4 x5 x6 x7 x8 x9 x10 x11 x12 x13 x14 x15 x16 x17 x18 x19 x20 x21 x22 x23 x24 : D} {rs : List (List Str)} {count : Nat} {near : List (Nat × Nat)}
theorem near_comp {elt : EB} {p : Nat × Nat → Bool} {ρ : Sl} (hi : ρ[6]? = some (.pd (.list (near.map encPr)))) (hl : near.length < 1000) (ho : ownOk ρ [28] = true)
    (h : ∀ z ∈ near, ∃ ρx, bindT (.nm 28) (encPr z) (wipeR ρ [28]) = some ρx ∧ elt ρx = some (p z, ρx) ∧ ρx[28]? = some (.pd (encPr z))) :
    dCmp eqP (dCall lenP (dArgs [(dLst (dComp (dIt (dV 6)) [28] (.nm 28) elt (dV 28)))])) (dC (.int 0)) ρ = some (decide ((near.filter p).length = 0), ρ) := by
  have C := dComp_pure (it := dIt (dV 6)) (vs := [28]) (tg := .nm 28) (cnd := elt) (el := dV 28) encPr p encPr near ρ ρ (it_of (v_of hi) rfl) (by omega) ho rfl fun z hz => by
    obtain ⟨ρx, h1, h2, h3⟩ := h z hz
    exact ⟨ρx, h1, h2, fun _ => v_of h3⟩
  refine cmp_of (call_of (arg_of (lst_of C) dArgs_nil) (lenP_list _)) dC_ ?_
  rw [eqP_int, List.length_map]
  congr 1
  rw [decide_eq_decide]
  omega
theorem st_able {t : Int} (hr : Rh rs) (hc : count ≤ 4) (hno : NearOk near count) (hnl : near.length < 1000) : dSet 15 (dPd (dLst (dComp (dIt (dCallN 2 _law_choices_s (dArgs [(dCall lenP (dArgs [(dV 2)])), (dV 3)]))) [22] (.nm 22) (dCmp eqP (dCall lenP (dArgs [(dLst (dComp (dIt (dV 6)) [28] (.nm 28) (dNot (dTru (dBin idxP (dBin idxP (dV 12) (dBin idxP (dV 22) (dBin idxP (dV 28) (dC (.int 0))))) (dBin idxP (dV 22) (dBin idxP (dV 28) (dC (.int 1))))))) (dV 28)))])) (dC (.int 0))) (dV 22)))) (LS x0 x1 (.pd (.list (encRh rs))) (.pd (.int (count : Int))) x4 x5 (.pd (.list (near.map encPr))) x7 x8 x9 x10 x11 (.pd (.list (encGood (goodOf rs t)))) x13 x14 x15 x16 x17 x18 x19 x20 x21 .hole x23 x24 .hole .hole .hole .hole .hole) =
    some (.nx, (LS x0 x1 (.pd (.list (encRh rs))) (.pd (.int (count : Int))) x4 x5 (.pd (.list (near.map encPr))) x7 x8 x9 x10 x11 (.pd (.list (encGood (goodOf rs t)))) x13 x14 (.pd (.list ((ableR near (goodOf rs t) rs.length count).map encCh))) x16 x17 x18 x19 x20 x21 .hole x23 x24 .hole .hole .hole .hole .hole)) := by
  have few := hr.few
  have el : (encRh rs).length = rs.length := by simp [encRh]
  have cl : (allR rs.length count).length ≤ 81 := by
    rw [allR_len]
    exact Nat.le_trans (Nat.pow_le_pow_left few count) (Nat.pow_le_pow_right (by omega) hc)
  refine set_of (lst_of (dComp_pure encCh (okRow near (goodOf rs t)) encCh (allR rs.length count) _ _ (it_of (callN_of (arg_of (call_of (arg_of (v_of rfl) dArgs_nil) (by rw [lenP_list, el])) (arg_of (v_of rfl) dArgs_nil)) rfl (choices_sem rs.length count few hc)) rfl) (by omega) rfl rfl fun row hrow => ⟨(LS x0 x1 (.pd (.list (encRh rs))) (.pd (.int (count : Int))) x4 x5 (.pd (.list (near.map encPr))) x7 x8 x9 x10 x11 (.pd (.list (encGood (goodOf rs t)))) x13 x14 x15 x16 x17 x18 x19 x20 x21 (.pd (encCh row)) x23 x24 .hole .hole .hole .hole .hole), rfl, ?_, fun _ => v_of rfl⟩))
  refine near_comp (p := badIn (goodOf rs t) row) rfl hnl rfl fun z hz => ⟨(LS x0 x1 (.pd (.list (encRh rs))) (.pd (.int (count : Int))) x4 x5 (.pd (.list (near.map encPr))) x7 x8 x9 x10 x11 (.pd (.list (encGood (goodOf rs t)))) x13 x14 x15 x16 x17 x18 x19 x20 x21 (.pd (encCh row)) x23 x24 .hole .hole .hole (.pd (encPr z)) .hole), rfl, ?_, rfl⟩
  obtain ⟨n1, n2⟩ := hno z hz
  obtain ⟨a1, b1⟩ := ch_at hrow (k := z.1) (by omega)
  obtain ⟨a2, b2⟩ := ch_at hrow (k := z.2) n2
  obtain ⟨gr, g1, g2⟩ := (goodM_of rs t).at b1 b2
  have q1 : atI (encGood (goodOf rs t)) ((row.getD z.1 0 : Nat) : Int) = some (.list (boolsL gr)) := atI_natP (by simp only [encGood, List.getElem?_map, g1, Option.map_some])
  have q2 : atI (boolsL gr) ((row.getD z.2 0 : Nat) : Int) = some (.bool (gAt (goodOf rs t) (row.getD z.1 0) (row.getD z.2 0))) := atI_natP (by simp only [boolsL, List.getElem?_map, g2, Option.map_some])
  exact not_of (tru_by (bin_of (bin_of (v_of rfl) (bin_of (v_of rfl) (bin_of (v_of rfl) dC_ (atI_zero _ _)) a1) q1) (bin_of (v_of rfl) (bin_of (v_of rfl) dC_ (atI_one _ _ _)) a2) q2) (truP_bool _))
theorem st_fine {most : Int} (hr : Rh rs) (hc : count ≤ 4) (hno : NearOk near count) (hnl : near.length < 1000) (p22 : isPd x22 = true) : dSet 24 (dPd (dLst (dComp (dIt (dCallN 2 _law_choices_s (dArgs [(dCall lenP (dArgs [(dV 2)])), (dV 3)]))) [22] (.nm 22) (dCmp eqP (dCall lenP (dArgs [(dLst (dComp (dIt (dV 6)) [28] (.nm 28) (dNot (dTru (dCallN 2 _law_less_s (dArgs [(dBin idxP (dBin idxP (dV 11) (dBin idxP (dV 22) (dBin idxP (dV 28) (dC (.int 0))))) (dBin idxP (dV 22) (dBin idxP (dV 28) (dC (.int 1))))), (dV 23)])))) (dV 28)))])) (dC (.int 0))) (dV 22)))) (LS x0 x1 (.pd (.list (encRh rs))) (.pd (.int (count : Int))) x4 x5 (.pd (.list (near.map encPr))) x7 x8 x9 x10 (.pd (.list (encStr rs))) x12 x13 x14 x15 x16 x17 x18 x19 x20 x21 x22 (.pd (.int most)) x24 .hole .hole .hole .hole .hole) =
    some (.nx, (LS x0 x1 (.pd (.list (encRh rs))) (.pd (.int (count : Int))) x4 x5 (.pd (.list (near.map encPr))) x7 x8 x9 x10 (.pd (.list (encStr rs))) x12 x13 x14 x15 x16 x17 x18 x19 x20 x21 x22 (.pd (.int most)) (.pd (.list ((ableR near (goodOf rs most) rs.length count).map encCh))) .hole .hole .hole .hole .hole)) := by
  have few := hr.few
  have el : (encRh rs).length = rs.length := by simp [encRh]
  have cl : (allR rs.length count).length ≤ 81 := by
    rw [allR_len]
    exact Nat.le_trans (Nat.pow_le_pow_left few count) (Nat.pow_le_pow_right (by omega) hc)
  refine set_of (lst_of (dComp_pure encCh (okRow near (goodOf rs most)) encCh (allR rs.length count) _ _ (it_of (callN_of (arg_of (call_of (arg_of (v_of rfl) dArgs_nil) (by rw [lenP_list, el])) (arg_of (v_of rfl) dArgs_nil)) rfl (choices_sem rs.length count few hc)) rfl) (by omega) (by simp [ownOk, LS, p22]) rfl fun row hrow => ⟨(LS x0 x1 (.pd (.list (encRh rs))) (.pd (.int (count : Int))) x4 x5 (.pd (.list (near.map encPr))) x7 x8 x9 x10 (.pd (.list (encStr rs))) x12 x13 x14 x15 x16 x17 x18 x19 x20 x21 (.pd (encCh row)) (.pd (.int most)) x24 .hole .hole .hole .hole .hole), rfl, ?_, fun _ => v_of rfl⟩))
  refine near_comp (p := badIn (goodOf rs most) row) rfl hnl rfl fun z hz => ⟨(LS x0 x1 (.pd (.list (encRh rs))) (.pd (.int (count : Int))) x4 x5 (.pd (.list (near.map encPr))) x7 x8 x9 x10 (.pd (.list (encStr rs))) x12 x13 x14 x15 x16 x17 x18 x19 x20 x21 (.pd (encCh row)) (.pd (.int most)) x24 .hole .hole .hole (.pd (encPr z)) .hole), rfl, ?_, rfl⟩
  obtain ⟨n1, n2⟩ := hno z hz
  obtain ⟨a1, b1⟩ := ch_at hrow (k := z.1) (by omega)
  obtain ⟨a2, b2⟩ := ch_at hrow (k := z.2) n2
  obtain ⟨sr, q1, q2⟩ := str_at hr b1 b2
  have k1 := hr.ok _ (List.getElem_mem b1)
  have k2 := hr.ok _ (List.getElem_mem b2)
  have eb : badIn (goodOf rs most) row z = !lessR (stretchR rs[row.getD z.1 0] rs[row.getD z.2 0]) most := by
    unfold badIn
    rw [gAt_good b1 b2, good_is k1.1 k2.1]
  rw [eb]
  exact not_of (tru_by (callN_of (arg_of (bin_of (bin_of (v_of rfl) (bin_of (v_of rfl) (bin_of (v_of rfl) dC_ (atI_zero _ _)) a1) q1) (bin_of (v_of rfl) (bin_of (v_of rfl) dC_ (atI_one _ _ _)) a2) q2) (arg_of (v_of rfl) dArgs_nil)) rfl (less_sem _ _)) (truP_bool _))
end
/-! ### the choice is the best -/
section
variable {x0 x1 x2 x3 x4 x5 x6 x7 x8 x9 x10 x11 x12 x13 x14 x15 x16 x17 x18 x19 x20 x21 x22 x23 x24 : D} {rs : List (List Str)} {count time : Nat} {near : List (Nat × Nat)} {costs : List Int}
def pbOf (count : Nat) (near : List (Nat × Nat)) (rs : List (List Str)) (time : Nat) (costs : List Int) : Pb := ⟨count, near, goodOf rs (time : Int), costs⟩
structure Setup (count : Nat) (near : List (Nat × Nat)) (rs : List (List Str)) (costs : List Int) : Prop where
  rh : Rh rs
  cnt : count ≤ 4
  no : NearOk near count
  nl : near.length < 1000
  cl : costs.length = rs.length
  cn : ∀ c ∈ costs, 0 ≤ c
theorem Setup.ok (s : Setup count near rs costs) : PbOk (pbOf count near rs time costs) := by
  have few := s.rh.few
  have cnt := s.cnt
  have cl := s.cl
  refine ⟨?_, ?_, ?_⟩
  · show GoodM (goodOf rs (time : Int)) costs.length
    rw [cl]
    exact goodM_of rs _
  · show costs.length < 100
    omega
  · show count < 100
    omega
theorem Setup.nn (s : Setup count near rs costs) : NonNeg (pbOf count near rs time costs) := fun r => by
  show 0 ≤ costs.getD r 0
  rw [List.getD_eq_getElem?_getD]
  cases h : costs[r]? with
  | none => simp
  | some c => exact s.cn c (List.mem_of_getElem? h)
theorem st_choice (s : Setup count near rs costs) : dSet 13 (dPd (dCallN 5 choice_of_s (dArgs [(dV 3), (dV 6), (dV 12), (dV 14), (dC (.int 9999))]))) (LS x0 x1 (.pd (.list (encRh rs))) (.pd (.int (count : Int))) x4 x5 (.pd (.list (near.map encPr))) x7 x8 x9 x10 x11 (.pd (.list (encGood (goodOf rs (time : Int))))) x13 (.pd (.list (intsL costs))) x15 x16 x17 x18 x19 x20 x21 x22 x23 x24 .hole .hole .hole .hole .hole) = some (.nx, (LS x0 x1 (.pd (.list (encRh rs))) (.pd (.int (count : Int))) x4 x5 (.pd (.list (near.map encPr))) x7 x8 x9 x10 x11 (.pd (.list (encGood (goodOf rs (time : Int))))) (.pd (toldOf (pbOf count near rs time costs))) (.pd (.list (intsL costs))) x15 x16 x17 x18 x19 x20 x21 x22 x23 x24 .hole .hole .hole .hole .hole)) := by
  have cl := s.cl
  have few := s.rh.few
  have cnt := s.cnt
  exact set_of (callN_of (arg_of (v_of rfl) (arg_of (v_of rfl) (arg_of (v_of rfl) (arg_of (v_of rfl) (arg_of dC_ dArgs_nil))))) rfl
    (choice_of_sem (pbOf count near rs time costs) s.ok s.nn (by show count < 6; omega) (nodes_small (by show costs.length ≤ 3; omega) cnt)))
theorem given_is (s : Setup count near rs costs) : given (pbOf count near rs time costs) = !(ableR near (goodOf rs (time : Int)) rs.length count).isEmpty := by
  have := given_able (pbOf count near rs time costs) s.nn s.no
  have e : (pbOf count near rs time costs).costs.length = rs.length := s.cl
  rw [e] at this
  exact this
theorem st_fault (s : Setup count near rs costs) : dIfS (dOr (dCmp neP (dBin idxP (dV 13) (dC (.int 0))) (dIf (dCmp gtP (dCall lenP (dArgs [(dV 15)])) (dC (.int 0))) (dC (.str "given")) (dC (.str "never")))) (dNot (dIsN (dCallN 5 choice_fault_s (dArgs [(dV 3), (dV 6), (dV 12), (dV 14), (dV 13)]))))) (dRet (dPd (dC (.bool false)))) dNx (LS x0 x1 (.pd (.list (encRh rs))) (.pd (.int (count : Int))) x4 x5 (.pd (.list (near.map encPr))) x7 x8 x9 x10 x11 (.pd (.list (encGood (goodOf rs (time : Int))))) (.pd (toldOf (pbOf count near rs time costs))) (.pd (.list (intsL costs))) (.pd (.list ((ableR near (goodOf rs (time : Int)) rs.length count).map encCh))) x16 x17 x18 x19 x20 x21 x22 x23 x24 .hole .hole .hole .hole .hole) = some (.nx, (LS x0 x1 (.pd (.list (encRh rs))) (.pd (.int (count : Int))) x4 x5 (.pd (.list (near.map encPr))) x7 x8 x9 x10 x11 (.pd (.list (encGood (goodOf rs (time : Int))))) (.pd (toldOf (pbOf count near rs time costs))) (.pd (.list (intsL costs))) (.pd (.list ((ableR near (goodOf rs (time : Int)) rs.length count).map encCh))) x16 x17 x18 x19 x20 x21 x22 x23 x24 .hole .hole .hole .hole .hole)) := by
  have cnt := s.cnt
  have fs := fault_sem (pbOf count near rs time costs) s.ok s.nn (by show count < 6; omega)
  have tf := told_first (pbOf count near rs time costs)
  have gi := given_is (time := time) s
  rw [gi] at tf
  generalize hAb : ableR near (goodOf rs (time : Int)) rs.length count = Ab at *
  have ei : dIf (dCmp gtP (dCall lenP (dArgs [(dV 15)])) (dC (.int 0))) (dC (.str "given")) (dC (.str "never")) (LS x0 x1 (.pd (.list (encRh rs))) (.pd (.int (count : Int))) x4 x5 (.pd (.list (near.map encPr))) x7 x8 x9 x10 x11 (.pd (.list (encGood (goodOf rs (time : Int))))) (.pd (toldOf (pbOf count near rs time costs))) (.pd (.list (intsL costs))) (.pd (.list (Ab.map encCh))) x16 x17 x18 x19 x20 x21 x22 x23 x24 .hole .hole .hole .hole .hole) = some (.str (if !Ab.isEmpty then "given" else "never"), (LS x0 x1 (.pd (.list (encRh rs))) (.pd (.int (count : Int))) x4 x5 (.pd (.list (near.map encPr))) x7 x8 x9 x10 x11 (.pd (.list (encGood (goodOf rs (time : Int))))) (.pd (toldOf (pbOf count near rs time costs))) (.pd (.list (intsL costs))) (.pd (.list (Ab.map encCh))) x16 x17 x18 x19 x20 x21 x22 x23 x24 .hole .hole .hole .hole .hole)) := by
    cases Ab with
    | nil =>
      have T : dCmp gtP (dCall lenP (dArgs [(dV 15)])) (dC (.int 0)) (LS x0 x1 (.pd (.list (encRh rs))) (.pd (.int (count : Int))) x4 x5 (.pd (.list (near.map encPr))) x7 x8 x9 x10 x11 (.pd (.list (encGood (goodOf rs (time : Int))))) (.pd (toldOf (pbOf count near rs time costs))) (.pd (.list (intsL costs))) (.pd (.list (([] : List (List Nat)).map encCh))) x16 x17 x18 x19 x20 x21 x22 x23 x24 .hole .hole .hole .hole .hole) = some (false, (LS x0 x1 (.pd (.list (encRh rs))) (.pd (.int (count : Int))) x4 x5 (.pd (.list (near.map encPr))) x7 x8 x9 x10 x11 (.pd (.list (encGood (goodOf rs (time : Int))))) (.pd (toldOf (pbOf count near rs time costs))) (.pd (.list (intsL costs))) (.pd (.list (([] : List (List Nat)).map encCh))) x16 x17 x18 x19 x20 x21 x22 x23 x24 .hole .hole .hole .hole .hole)) := cmp_of (call_of (arg_of (v_of rfl) dArgs_nil) (lenP_list _)) dC_ rfl
      exact Eq.trans (ife_f T) dC_
    | cons a r =>
      have T : dCmp gtP (dCall lenP (dArgs [(dV 15)])) (dC (.int 0)) (LS x0 x1 (.pd (.list (encRh rs))) (.pd (.int (count : Int))) x4 x5 (.pd (.list (near.map encPr))) x7 x8 x9 x10 x11 (.pd (.list (encGood (goodOf rs (time : Int))))) (.pd (toldOf (pbOf count near rs time costs))) (.pd (.list (intsL costs))) (.pd (.list ((a :: r).map encCh))) x16 x17 x18 x19 x20 x21 x22 x23 x24 .hole .hole .hole .hole .hole) = some (true, (LS x0 x1 (.pd (.list (encRh rs))) (.pd (.int (count : Int))) x4 x5 (.pd (.list (near.map encPr))) x7 x8 x9 x10 x11 (.pd (.list (encGood (goodOf rs (time : Int))))) (.pd (toldOf (pbOf count near rs time costs))) (.pd (.list (intsL costs))) (.pd (.list ((a :: r).map encCh))) x16 x17 x18 x19 x20 x21 x22 x23 x24 .hole .hole .hole .hole .hole)) := cmp_of (call_of (arg_of (v_of rfl) dArgs_nil) (lenP_list _)) dC_ (by rw [gtP_int, decide_eq_true (by simp)])
      exact Eq.trans (ife_t T) dC_
  exact Eq.trans (if_f (Eq.trans (or_f (cmp_of (bin_of (v_of rfl) dC_ tf) ei (neP_refl rfl (by simp)))) (notN_y (callN_of (arg_of (v_of rfl) (arg_of (v_of rfl) (arg_of (v_of rfl) (arg_of (v_of rfl) (arg_of (v_of rfl) dArgs_nil))))) rfl fs) rfl))) rfl
theorem depth_nats (r : List Nat) : (PyData.list (natsL r)).depth ≤ 1 := depth_map _ 0 (fun x => by simp) r
theorem inP_able {Ab : List (List Nat)} {ch : List Nat} (h : ch ∈ Ab) : ninP (.list (natsL ch)) (.list (Ab.map encCh)) = some false := by
  have e : inP (.list (natsL ch)) (.list (Ab.map encCh)) = if Nat.ble (min (PyData.depthAll (Ab.map encCh)) (PyData.list (natsL ch)).depth) 100 then some ((Ab.map encCh).any fun z => PyData.eqv z (.list (natsL ch))) else none := rfl
  have hd := depth_nats ch
  unfold ninP
  rw [e, if_pos (Nat.ble_eq_true_of_le (by omega))]
  have ha : ((Ab.map encCh).any fun z => PyData.eqv z (.list (natsL ch))) = true := by
    rw [List.any_eq_true]
    exact ⟨encCh ch, List.mem_map.mpr ⟨ch, h, rfl⟩, eqv_refl _ (by show plainAll (natsL ch) = true; exact plain_map _ (fun _ => rfl) ch)⟩
  rw [ha]
  rfl
end
end
end HW

namespace HW
open PySem PySem.Spec PyProof.Rows L2
noncomputable section
section
variable {x0 x1 x2 x3 x4 x5 x6 x7 x8 x9 x10 x11 x12 x13 x14 x15 x16 x17 x18 x19 x20 x21 x22 x23 x24 : D} {rs : List (List Str)} {count time : Nat} {near : List (Nat × Nat)} {costs : List Int}
theorem st_heard {one other : List Str} (h1 : 0 < one.length ∧ one.length ≤ 15) (h2 : 0 < other.length ∧ other.length ≤ 15) (hg : goodAt (time : Int) one other = true) (ht : time ≤ 8) (begin : Nat) : law_b5 (LS x0 x1 x2 x3 x4 x5 x6 x7 x8 x9 (.pd (.int (time : Int))) x11 x12 x13 x14 x15 (.pd (.list (strsL one))) (.pd (.list (strsL other))) (.pd (.int (begin : Int))) x19 x20 x21 x22 x23 x24 .hole .hole .hole .hole .hole) = some (.nx, (LS x0 x1 x2 x3 x4 x5 x6 x7 x8 x9 (.pd (.int (time : Int))) x11 x12 x13 x14 x15 (.pd (.list (strsL one))) (.pd (.list (strsL other))) (.pd (.int (begin : Int))) (.pd (.list ((heardOf one begin time).map encH))) x20 x21 x22 x23 x24 .hole .hole .hole .hole .hole)) := by
  have r1 := rng1P_nat time (by omega)
  have C := dComp_map (it := dItA rng1P (dArgs [(dV 10)])) (vs := [25]) (tg := .nm 25) (el := dBin idxP (dV 16) (dBin modP (dBin addP (dV 18) (dV 25)) (dCall lenP (dArgs [(dV 16)])))) (fun k : Nat => .int (k : Int)) (fun k => encH (W one (begin + k))) (List.range time) (LS x0 x1 x2 x3 x4 x5 x6 x7 x8 x9 (.pd (.int (time : Int))) x11 x12 x13 x14 x15 (.pd (.list (strsL one))) (.pd (.list (strsL other))) (.pd (.int (begin : Int))) x19 x20 x21 x22 x23 x24 .hole .hole .hole .hole .hole) (LS x0 x1 x2 x3 x4 x5 x6 x7 x8 x9 (.pd (.int (time : Int))) x11 x12 x13 x14 x15 (.pd (.list (strsL one))) (.pd (.list (strsL other))) (.pd (.int (begin : Int))) x19 x20 x21 x22 x23 x24 .hole .hole .hole .hole .hole) (itA_of (arg_of (v_of rfl) dArgs_nil) r1) (by rw [List.length_range]; omega) rfl rfl fun k hk => ⟨(LS x0 x1 x2 x3 x4 x5 x6 x7 x8 x9 (.pd (.int (time : Int))) x11 x12 x13 x14 x15 (.pd (.list (strsL one))) (.pd (.list (strsL other))) (.pd (.int (begin : Int))) x19 x20 x21 x22 x23 x24 (.pd (.int (k : Int))) .hole .hole .hole .hole), rfl, by
    have m1 : (begin + k) % one.length < one.length := Nat.mod_lt _ h1.1
    have q1 := modP_pos (i := (((begin + k : Nat)) : Int)) (j := (one.length : Int)) (by omega)
    rw [← Int.natCast_emod] at q1
    have e : encH (W one (begin + k)) = .str one[(begin + k) % one.length] := by
      unfold W
      rw [List.getElem?_eq_getElem m1]
      rfl
    rw [e]
    have a1 : atI (strsL one) (((begin + k) % one.length : Nat) : Int) = some (.str one[(begin + k) % one.length]) := atI_natP (by simp [strsL, m1])
    exact bin_of (v_of rfl) (bin_of (bin_of (v_of rfl) (v_of rfl) (by rw [addP_int, ← Int.natCast_add])) (call_of (arg_of (v_of rfl) dArgs_nil) (by rw [lenP_list, strsL_len])) q1) a1⟩
  have eh : (List.range time).map (fun k => encH (W one (begin + k))) = (heardOf one begin time).map encH := by simp [heardOf, Function.comp_def]
  rw [eh] at C
  have F := fitting_sem [one, other] (heardOf one begin time) (fun r hr => by
    rcases List.mem_cons.mp hr with rfl | hr
    · omega
    · rw [List.mem_singleton.mp hr]; omega) (by simp)
  have fl : (fittingR [one, other] (heardOf one begin time)).1.length ≤ 200 := by
    rw [fittingR_fits]
    refine Nat.le_trans (List.length_filter_le _ _) ?_
    have := startsOf_len [one, other] (fun r hr => by
      rcases List.mem_cons.mp hr with rfl | hr
      · omega
      · rw [List.mem_singleton.mp hr]; omega)
    simpa using this
  have fn := fits_none h1.1 h2.1 hg begin
  generalize fittingR [one, other] (heardOf one begin time) = fr at *
  have C2 := dComp_pure (it := dIt (dBin idxP (dCallN 2 fitting_s (dArgs [(dLst (dArgs [(dV 16), (dV 17)])), (dV 19)])) (dC (.int 0)))) (vs := [29]) (tg := .nm 29) (cnd := dCmp eqP (dBin idxP (dV 29) (dC (.int 0))) (dC (.int 1))) (el := dV 29) encSt (fun z => decide ((z.1 : Int) = 1)) encSt fr.1 (LS x0 x1 x2 x3 x4 x5 x6 x7 x8 x9 (.pd (.int (time : Int))) x11 x12 x13 x14 x15 (.pd (.list (strsL one))) (.pd (.list (strsL other))) (.pd (.int (begin : Int))) (.pd (.list ((heardOf one begin time).map encH))) x20 x21 x22 x23 x24 .hole .hole .hole .hole .hole) (LS x0 x1 x2 x3 x4 x5 x6 x7 x8 x9 (.pd (.int (time : Int))) x11 x12 x13 x14 x15 (.pd (.list (strsL one))) (.pd (.list (strsL other))) (.pd (.int (begin : Int))) (.pd (.list ((heardOf one begin time).map encH))) x20 x21 x22 x23 x24 .hole .hole .hole .hole .hole)
    (it_of (bin_of (callN_of (arg_of (lst_of (arg_of (v_of rfl) (arg_of (v_of rfl) dArgs_nil))) (arg_of (v_of rfl) dArgs_nil)) rfl F) dC_ (atI_zero _ _)) rfl) (by omega) rfl rfl fun z hz => ⟨(LS x0 x1 x2 x3 x4 x5 x6 x7 x8 x9 (.pd (.int (time : Int))) x11 x12 x13 x14 x15 (.pd (.list (strsL one))) (.pd (.list (strsL other))) (.pd (.int (begin : Int))) (.pd (.list ((heardOf one begin time).map encH))) x20 x21 x22 x23 x24 .hole .hole .hole .hole (.pd (encSt z))), rfl, cmp_of (bin_of (v_of rfl) dC_ (atI_zero _ _)) dC_ (eqP_int _ _), fun _ => v_of rfl⟩
  have e0 : fr.1.filter (fun z => decide ((z.1 : Int) = 1)) = [] := by
    rw [List.filter_eq_nil_iff]
    intro z hz h
    rw [decide_eq_true_eq] at h
    exact fn z hz (by omega)
  rw [e0] at C2
  unfold law_b5
  rw [seq_nx (ρ1 := (LS x0 x1 x2 x3 x4 x5 x6 x7 x8 x9 (.pd (.int (time : Int))) x11 x12 x13 x14 x15 (.pd (.list (strsL one))) (.pd (.list (strsL other))) (.pd (.int (begin : Int))) (.pd (.list ((heardOf one begin time).map encH))) x20 x21 x22 x23 x24 .hole .hole .hole .hole .hole)) (set_of (lst_of C))]
  exact Eq.trans (if_f (cmp_of (call_of (arg_of (lst_of C2) dArgs_nil) (lenP_list _)) dC_ rfl)) rfl
theorem st_given (s : Setup count near rs costs) (ht : time ≤ 8) : ∃ d7 d8 d16 d17 d18 d19, dIfS (dCmp eqP (dBin idxP (dV 13) (dC (.int 0))) (dC (.str "given"))) (dSeq (dIfS (dOr (dCmp neP (dBin idxP (dV 13) (dC (.int 2))) (dCall minP (dArgs [(dLst (dComp (dIt (dV 15)) [22] (.nm 22) dYes (dCall sumP (dArgs [(dLst (dComp (dIt (dV 22)) [16] (.nm 16) dYes (dBin idxP (dV 14) (dV 16))))]))))]))) (dCmp ninP (dBin idxP (dV 13) (dC (.int 1))) (dV 15))) (dRet (dPd (dC (.bool false)))) dNx)
  (dFor (dIt (dV 6)) (.tcons (.nm 7) (.tcons (.nm 8) .tnil)) law_b6)) dNx (LS x0 x1 (.pd (.list (encRh rs))) (.pd (.int (count : Int))) x4 x5 (.pd (.list (near.map encPr))) x7 x8 x9 (.pd (.int (time : Int))) x11 (.pd (.list (encGood (goodOf rs (time : Int))))) (.pd (toldOf (pbOf count near rs time costs))) (.pd (.list (intsL costs))) (.pd (.list ((ableR near (goodOf rs (time : Int)) rs.length count).map encCh))) .hole x17 x18 x19 x20 x21 .hole x23 x24 .hole .hole .hole .hole .hole) = some (.nx, (LS x0 x1 (.pd (.list (encRh rs))) (.pd (.int (count : Int))) x4 x5 (.pd (.list (near.map encPr))) d7 d8 x9 (.pd (.int (time : Int))) x11 (.pd (.list (encGood (goodOf rs (time : Int))))) (.pd (toldOf (pbOf count near rs time costs))) (.pd (.list (intsL costs))) (.pd (.list ((ableR near (goodOf rs (time : Int)) rs.length count).map encCh))) d16 d17 d18 d19 x20 x21 .hole x23 x24 .hole .hole .hole .hole .hole)) := by
  have bi := best_is (pbOf count near rs time costs) s.nn
  have tf := told_first (pbOf count near rs time costs)
  have cl := s.cl
  have few := s.rh.few
  cases hb : bestOf (pbOf count near rs time costs) with
  | none =>
    have hg : given (pbOf count near rs time costs) = false := by unfold given; rw [hb]; rfl
    rw [hg] at tf
    exact ⟨x7, x8, .hole, x17, x18, x19, Eq.trans (if_f (cmp_of (bin_of (v_of rfl) dC_ tf) dC_ (way_ne (by decide)))) rfl⟩
  | some z =>
    obtain ⟨c, ch⟩ := z
    rw [hb] at bi
    have hg : given (pbOf count near rs time costs) = true := by unfold given; rw [hb]; rfl
    rw [hg] at tf
    obtain ⟨b1, b2⟩ := bi
    have la := (leaf_able (pbOf count near rs time costs) s.no (c, ch)).mp b1
    have ecl : (pbOf count near rs time costs).costs.length = rs.length := cl
    rw [ecl] at la
    have hc : c = sumC (pbOf count near rs time costs) ch := la.1
    have hch : ch ∈ ableR near (goodOf rs (time : Int)) rs.length count := la.2
    have mn : ∀ row ∈ ableR near (goodOf rs (time : Int)) rs.length count, c ≤ sumC (pbOf count near rs time costs) row := fun row hrow => b2 (_, row) ((leaf_able (pbOf count near rs time costs) s.no (_, row)).mpr ⟨rfl, by rw [ecl]; exact hrow⟩)
    have t1 : idxP (toldOf (pbOf count near rs time costs)) (.int 1) = some (.list (natsL ch)) := by unfold toldOf; rw [hb]; exact atI_one _ _ _
    have t2 : idxP (toldOf (pbOf count near rs time costs)) (.int 2) = some (.int c) := by unfold toldOf; rw [hb]; exact atI_two _ _ _ _
    generalize toldOf (pbOf count near rs time costs) = Tl at *
    have abLen : (ableR near (goodOf rs (time : Int)) rs.length count).length ≤ 81 := by
      refine Nat.le_trans (List.length_filter_le _ _) ?_
      rw [allR_len]
      exact Nat.le_trans (Nat.pow_le_pow_left few count) (Nat.pow_le_pow_right (by omega) s.cnt)
    have abRow : ∀ row ∈ ableR near (goodOf rs (time : Int)) rs.length count, row ∈ allR rs.length count ∧ okRow near (goodOf rs (time : Int)) row = true := fun row h => List.mem_filter.mp h
    have okc := (abRow ch hch).2
    have inc := (abRow ch hch).1
    generalize hAb : ableR near (goodOf rs (time : Int)) rs.length count = Ab at *
    have C := dComp_map (it := dIt (dV 15)) (vs := [22]) (tg := .nm 22) (el := dCall sumP (dArgs [(dLst (dComp (dIt (dV 22)) [16] (.nm 16) dYes (dBin idxP (dV 14) (dV 16))))])) encCh (fun row => .int (sumC (pbOf count near rs time costs) row)) Ab
      (LS x0 x1 (.pd (.list (encRh rs))) (.pd (.int (count : Int))) x4 x5 (.pd (.list (near.map encPr))) x7 x8 x9 (.pd (.int (time : Int))) x11 (.pd (.list (encGood (goodOf rs (time : Int))))) (.pd Tl) (.pd (.list (intsL costs))) (.pd (.list (Ab.map encCh))) .hole x17 x18 x19 x20 x21 .hole x23 x24 .hole .hole .hole .hole .hole) (LS x0 x1 (.pd (.list (encRh rs))) (.pd (.int (count : Int))) x4 x5 (.pd (.list (near.map encPr))) x7 x8 x9 (.pd (.int (time : Int))) x11 (.pd (.list (encGood (goodOf rs (time : Int))))) (.pd Tl) (.pd (.list (intsL costs))) (.pd (.list (Ab.map encCh))) .hole x17 x18 x19 x20 x21 .hole x23 x24 .hole .hole .hole .hole .hole)
      (it_of (v_of rfl) rfl) (by omega) rfl rfl fun row hrow => ⟨(LS x0 x1 (.pd (.list (encRh rs))) (.pd (.int (count : Int))) x4 x5 (.pd (.list (near.map encPr))) x7 x8 x9 (.pd (.int (time : Int))) x11 (.pd (.list (encGood (goodOf rs (time : Int))))) (.pd Tl) (.pd (.list (intsL costs))) (.pd (.list (Ab.map encCh))) .hole x17 x18 x19 x20 x21 (.pd (encCh row)) x23 x24 .hole .hole .hole .hole .hole), rfl, by
        obtain ⟨l1, l2⟩ := (allR_row count row).mp (abRow row hrow).1
        have cnt := s.cnt
        have C2 := dComp_map (it := dIt (dV 22)) (vs := [16]) (tg := .nm 16) (el := dBin idxP (dV 14) (dV 16)) (fun n : Nat => .int (n : Int)) (fun r => .int (costs.getD r 0)) row (LS x0 x1 (.pd (.list (encRh rs))) (.pd (.int (count : Int))) x4 x5 (.pd (.list (near.map encPr))) x7 x8 x9 (.pd (.int (time : Int))) x11 (.pd (.list (encGood (goodOf rs (time : Int))))) (.pd Tl) (.pd (.list (intsL costs))) (.pd (.list (Ab.map encCh))) .hole x17 x18 x19 x20 x21 (.pd (encCh row)) x23 x24 .hole .hole .hole .hole .hole) (LS x0 x1 (.pd (.list (encRh rs))) (.pd (.int (count : Int))) x4 x5 (.pd (.list (near.map encPr))) x7 x8 x9 (.pd (.int (time : Int))) x11 (.pd (.list (encGood (goodOf rs (time : Int))))) (.pd Tl) (.pd (.list (intsL costs))) (.pd (.list (Ab.map encCh))) .hole x17 x18 x19 x20 x21 (.pd (encCh row)) x23 x24 .hole .hole .hole .hole .hole)
          (it_of (v_of rfl) rfl) (by omega) rfl rfl fun x hx => ⟨(LS x0 x1 (.pd (.list (encRh rs))) (.pd (.int (count : Int))) x4 x5 (.pd (.list (near.map encPr))) x7 x8 x9 (.pd (.int (time : Int))) x11 (.pd (.list (encGood (goodOf rs (time : Int))))) (.pd Tl) (.pd (.list (intsL costs))) (.pd (.list (Ab.map encCh))) (.pd (.int (x : Int))) x17 x18 x19 x20 x21 (.pd (encCh row)) x23 x24 .hole .hole .hole .hole .hole), rfl, by
            have hx' := l2 x hx
            have a1 : atI (intsL costs) (x : Int) = some (.int (costs.getD x 0)) := atI_natP (by simp [intsL, List.getD, cl, hx'])
            exact bin_of (v_of rfl) (v_of rfl) (by rw [idxP_list, a1])⟩
        have sm := sumP_ints (row.map fun r => costs.getD r 0)
        have es : intsL (row.map fun r => costs.getD r 0) = row.map fun r => .int (costs.getD r 0) := by simp [intsL]
        rw [es] at sm
        exact call_of (arg_of (lst_of C2) dArgs_nil) sm⟩
    have em : Ab.map (fun row => PyData.int (sumC (pbOf count near rs time costs) row)) = intsL (Ab.map (sumC (pbOf count near rs time costs))) := by simp [intsL]
    rw [em] at C
    have mq : minP [.list (intsL (Ab.map (sumC (pbOf count near rs time costs))))] = some (.int c) := by
      cases hA : Ab with
      | nil => rw [hA] at hch; simp at hch
      | cons a r =>
        rw [List.map_cons]
        obtain ⟨m, q1, q2, q3⟩ := minP_ints (sumC (pbOf count near rs time costs) a) (r.map (sumC (pbOf count near rs time costs)))
        rw [q1]
        have e2 : sumC (pbOf count near rs time costs) a :: r.map (sumC (pbOf count near rs time costs)) = Ab.map (sumC (pbOf count near rs time costs)) := by rw [hA]; rfl
        rw [e2] at q2 q3
        obtain ⟨row, h1, h2⟩ := List.mem_map.mp q2
        have u1 := mn row h1
        have u2 := q3 _ (List.mem_map.mpr ⟨ch, hch, rfl⟩)
        have u3 : c = sumC (pbOf count near rs time costs) ch := hc
        have : m = c := by omega
        rw [this]
    have T : dOr (dCmp neP (dBin idxP (dV 13) (dC (.int 2))) (dCall minP (dArgs [(dLst (dComp (dIt (dV 15)) [22] (.nm 22) dYes (dCall sumP (dArgs [(dLst (dComp (dIt (dV 22)) [16] (.nm 16) dYes (dBin idxP (dV 14) (dV 16))))]))))]))) (dCmp ninP (dBin idxP (dV 13) (dC (.int 1))) (dV 15)) (LS x0 x1 (.pd (.list (encRh rs))) (.pd (.int (count : Int))) x4 x5 (.pd (.list (near.map encPr))) x7 x8 x9 (.pd (.int (time : Int))) x11 (.pd (.list (encGood (goodOf rs (time : Int))))) (.pd Tl) (.pd (.list (intsL costs))) (.pd (.list (Ab.map encCh))) .hole x17 x18 x19 x20 x21 .hole x23 x24 .hole .hole .hole .hole .hole) = some (false, (LS x0 x1 (.pd (.list (encRh rs))) (.pd (.int (count : Int))) x4 x5 (.pd (.list (near.map encPr))) x7 x8 x9 (.pd (.int (time : Int))) x11 (.pd (.list (encGood (goodOf rs (time : Int))))) (.pd Tl) (.pd (.list (intsL costs))) (.pd (.list (Ab.map encCh))) .hole x17 x18 x19 x20 x21 .hole x23 x24 .hole .hole .hole .hole .hole)) :=
      Eq.trans (or_f (cmp_of (bin_of (v_of rfl) dC_ t2) (call_of (arg_of (lst_of C) dArgs_nil) mq) (neP_refl rfl (by simp)))) (cmp_of (bin_of (v_of rfl) dC_ t1) (v_of rfl) (inP_able hch))
    obtain ⟨ρ', L, d7, d8, d16, d17, d18, d19, rfl⟩ := forL_all (t := .tcons (.nm 7) (.tcons (.nm 8) .tnil)) (body := law_b6) encPr (fun ρ => ∃ d7 d8 d16 d17 d18 d19, ρ = (LS x0 x1 (.pd (.list (encRh rs))) (.pd (.int (count : Int))) x4 x5 (.pd (.list (near.map encPr))) d7 d8 x9 (.pd (.int (time : Int))) x11 (.pd (.list (encGood (goodOf rs (time : Int))))) (.pd Tl) (.pd (.list (intsL costs))) (.pd (.list (Ab.map encCh))) d16 d17 d18 d19 x20 x21 .hole x23 x24 .hole .hole .hole .hole .hole)) near (fun z ρ hz hs => by
      obtain ⟨d7, d8, d16, d17, d18, d19, rfl⟩ := hs
      obtain ⟨n1, n2⟩ := s.no z hz
      obtain ⟨a1, c1⟩ := ch_at inc (k := z.1) (by omega)
      obtain ⟨a2, c2⟩ := ch_at inc (k := z.2) n2
      have gz := okRow_is.mp okc z hz
      rw [gAt_good c1 c2] at gz
      have r1 := rh_at s.rh c1
      have r2 := rh_at s.rh c2
      have k1 := s.rh.len _ (List.getElem_mem c1)
      have k2 := s.rh.len _ (List.getElem_mem c2)
      generalize rs[ch.getD z.1 0] = one at *
      generalize rs[ch.getD z.2 0] = other at *
      obtain ⟨ρ', L, e18, e19, rfl⟩ := forL_all (t := .nm 18) (body := law_b5) (fun i : Nat => .int (i : Int)) (fun ρ => ∃ d18 d19, ρ = (LS x0 x1 (.pd (.list (encRh rs))) (.pd (.int (count : Int))) x4 x5 (.pd (.list (near.map encPr))) (.pd (.int (z.1 : Int))) (.pd (.int (z.2 : Int))) x9 (.pd (.int (time : Int))) x11 (.pd (.list (encGood (goodOf rs (time : Int))))) (.pd Tl) (.pd (.list (intsL costs))) (.pd (.list (Ab.map encCh))) (.pd (.list (strsL one))) (.pd (.list (strsL other))) d18 d19 x20 x21 .hole x23 x24 .hole .hole .hole .hole .hole)) (List.range one.length) (fun b ρ hb hs => by
        obtain ⟨d18, d19, rfl⟩ := hs
        exact ⟨_, _, rfl, st_heard k1 k2 gz ht b, _, _, rfl⟩) (LS x0 x1 (.pd (.list (encRh rs))) (.pd (.int (count : Int))) x4 x5 (.pd (.list (near.map encPr))) (.pd (.int (z.1 : Int))) (.pd (.int (z.2 : Int))) x9 (.pd (.int (time : Int))) x11 (.pd (.list (encGood (goodOf rs (time : Int))))) (.pd Tl) (.pd (.list (intsL costs))) (.pd (.list (Ab.map encCh))) (.pd (.list (strsL one))) (.pd (.list (strsL other))) d18 d19 x20 x21 .hole x23 x24 .hole .hole .hole .hole .hole) ⟨_, _, rfl⟩
      have rg := rng1P_nat one.length (by omega)
      refine ⟨(LS x0 x1 (.pd (.list (encRh rs))) (.pd (.int (count : Int))) x4 x5 (.pd (.list (near.map encPr))) (.pd (.int (z.1 : Int))) (.pd (.int (z.2 : Int))) x9 (.pd (.int (time : Int))) x11 (.pd (.list (encGood (goodOf rs (time : Int))))) (.pd Tl) (.pd (.list (intsL costs))) (.pd (.list (Ab.map encCh))) d16 d17 d18 d19 x20 x21 .hole x23 x24 .hole .hole .hole .hole .hole), (LS x0 x1 (.pd (.list (encRh rs))) (.pd (.int (count : Int))) x4 x5 (.pd (.list (near.map encPr))) (.pd (.int (z.1 : Int))) (.pd (.int (z.2 : Int))) x9 (.pd (.int (time : Int))) x11 (.pd (.list (encGood (goodOf rs (time : Int))))) (.pd Tl) (.pd (.list (intsL costs))) (.pd (.list (Ab.map encCh))) (.pd (.list (strsL one))) (.pd (.list (strsL other))) e18 e19 x20 x21 .hole x23 x24 .hole .hole .hole .hole .hole), rfl, ?_, _, _, _, _, _, _, rfl⟩
      unfold law_b6
      rw [seq_nx (ρ1 := (LS x0 x1 (.pd (.list (encRh rs))) (.pd (.int (count : Int))) x4 x5 (.pd (.list (near.map encPr))) (.pd (.int (z.1 : Int))) (.pd (.int (z.2 : Int))) x9 (.pd (.int (time : Int))) x11 (.pd (.list (encGood (goodOf rs (time : Int))))) (.pd Tl) (.pd (.list (intsL costs))) (.pd (.list (Ab.map encCh))) (.pd (.list (strsL one))) (.pd (.list (strsL other))) d18 d19 x20 x21 .hole x23 x24 .hole .hole .hole .hole .hole)) (by
        rw [dTgt_, tup_of (arg_of (bin_of (v_of rfl) (bin_of (bin_of (v_of rfl) dC_ t1) (v_of rfl) a1) r1) (arg_of (bin_of (v_of rfl) (bin_of (bin_of (v_of rfl) dC_ t1) (v_of rfl) a2) r2) dArgs_nil))]
        rfl)]
      exact Eq.trans (for_of (itA_of (arg_of (call_of (arg_of (v_of rfl) dArgs_nil) (by rw [lenP_list, strsL_len])) dArgs_nil) rg)) L) (LS x0 x1 (.pd (.list (encRh rs))) (.pd (.int (count : Int))) x4 x5 (.pd (.list (near.map encPr))) x7 x8 x9 (.pd (.int (time : Int))) x11 (.pd (.list (encGood (goodOf rs (time : Int))))) (.pd Tl) (.pd (.list (intsL costs))) (.pd (.list (Ab.map encCh))) .hole x17 x18 x19 x20 x21 .hole x23 x24 .hole .hole .hole .hole .hole) ⟨_, _, _, _, _, _, rfl⟩
    exact ⟨d7, d8, d16, d17, d18, d19, Eq.trans (if_t (cmp_of (bin_of (v_of rfl) dC_ tf) dC_ (way_eq _))) (Eq.trans (seq_nx (Eq.trans (if_f T) rfl)) (Eq.trans (for_of (it_of (v_of rfl) rfl)) L))⟩
/-! ### the least time -/
theorem map_less (one : List Str) : ∀ os : List (List Str), (os.filter fun o => (stretchR one o).isSome).map (fun o => PyData.int ((((stretchR one o).getD 0 : Nat) : Int) + 1)) = intsL ((os.filterMap fun o => stretchR one o).map fun m : Nat => (m : Int) + 1)
  | [] => rfl
  | o :: os => by
    have ih := map_less one os
    rw [List.filter_cons, List.filterMap_cons]
    cases h : stretchR one o with
    | none => simpa [h] using ih
    | some m =>
      simp only [Option.isSome_some, if_true, List.map_cons, ih, h, Option.getD_some]
      rfl
theorem timesR_len (h : Rh rs) : (timesR rs).length ≤ 10 := by
  have few := h.few
  unfold timesR
  have go : ∀ is : List (List Str), (is.flatMap fun one => (rs.filterMap fun o => stretchR one o).map fun m : Nat => (m : Int) + 1).length ≤ 3 * is.length := by
    intro is
    induction is with
    | nil => simp
    | cons i is ih =>
      have := List.length_filterMap_le (fun o => stretchR i o) rs
      rw [List.flatMap_cons, List.length_append, List.length_map, List.length_cons]
      omega
  have := go rs
  rw [List.length_cons]
  omega
theorem st_times (h : Rh rs) (p22 : isPd x22 = true) : ∃ d22, isPd d22 = true ∧ dFor (dIt (dV 11)) (.nm 22) law_b7 (LS x0 x1 x2 x3 x4 x5 x6 x7 x8 x9 x10 (.pd (.list (encStr rs))) x12 x13 x14 x15 x16 x17 x18 x19 x20 (.pd (.list (intsL [0]))) x22 x23 x24 .hole .hole .hole .hole .hole) = some (.nx, (LS x0 x1 x2 x3 x4 x5 x6 x7 x8 x9 x10 (.pd (.list (encStr rs))) x12 x13 x14 x15 x16 x17 x18 x19 x20 (.pd (.list (intsL (timesR rs)))) d22 x23 x24 .hole .hole .hole .hole .hole)) := by
  have few := h.few
  obtain ⟨ρ', L, d22, q22, hρ⟩ := forL_rel (t := .nm 22) (body := law_b7) (fun one : List Str => .list (rs.map fun other => encN (stretchR one other))) (fun (acc : List Int) ρ => ∃ d22, isPd d22 = true ∧ ρ = (LS x0 x1 x2 x3 x4 x5 x6 x7 x8 x9 x10 (.pd (.list (encStr rs))) x12 x13 x14 x15 x16 x17 x18 x19 x20 (.pd (.list (intsL acc))) d22 x23 x24 .hole .hole .hole .hole .hole))
    (fun acc one => acc ++ (rs.filterMap fun o => stretchR one o).map fun m : Nat => (m : Int) + 1) (fun os acc => acc.length + 3 * os.length < 1000) (fun one os acc ρ hI hs => by
      obtain ⟨d22, q22, rfl⟩ := hs
      have hl := List.length_filterMap_le (fun o => stretchR one o) rs
      rw [List.length_cons] at hI
      refine ⟨by rw [List.length_append, List.length_map]; omega, (LS x0 x1 x2 x3 x4 x5 x6 x7 x8 x9 x10 (.pd (.list (encStr rs))) x12 x13 x14 x15 x16 x17 x18 x19 x20 (.pd (.list (intsL acc))) (.pd (.list (rs.map fun other => encN (stretchR one other)))) x23 x24 .hole .hole .hole .hole .hole), (LS x0 x1 x2 x3 x4 x5 x6 x7 x8 x9 x10 (.pd (.list (encStr rs))) x12 x13 x14 x15 x16 x17 x18 x19 x20 (.pd (.list (intsL (acc ++ (rs.filterMap fun o => stretchR one o).map fun m : Nat => (m : Int) + 1)))) (.pd (.list (rs.map fun other => encN (stretchR one other)))) x23 x24 .hole .hole .hole .hole .hole), rfl, ?_, _, rfl, rfl⟩
      have C := dComp_pure (it := dIt (dV 22)) (vs := [27]) (tg := .nm 27) (cnd := dNot (dIsN (dV 27))) (el := dBin addP (dV 27) (dC (.int 1))) (fun other => encN (stretchR one other)) (fun o => (stretchR one o).isSome) (fun o => PyData.int ((((stretchR one o).getD 0 : Nat) : Int) + 1)) rs (LS x0 x1 x2 x3 x4 x5 x6 x7 x8 x9 x10 (.pd (.list (encStr rs))) x12 x13 x14 x15 x16 x17 x18 x19 x20 (.pd (.list (intsL acc))) (.pd (.list (rs.map fun other => encN (stretchR one other)))) x23 x24 .hole .hole .hole .hole .hole) (LS x0 x1 x2 x3 x4 x5 x6 x7 x8 x9 x10 (.pd (.list (encStr rs))) x12 x13 x14 x15 x16 x17 x18 x19 x20 (.pd (.list (intsL acc))) (.pd (.list (rs.map fun other => encN (stretchR one other)))) x23 x24 .hole .hole .hole .hole .hole)
        (it_of (v_of rfl) rfl) (by omega) rfl rfl fun o ho => ⟨(LS x0 x1 x2 x3 x4 x5 x6 x7 x8 x9 x10 (.pd (.list (encStr rs))) x12 x13 x14 x15 x16 x17 x18 x19 x20 (.pd (.list (intsL acc))) (.pd (.list (rs.map fun other => encN (stretchR one other)))) x23 x24 .hole .hole (.pd (encN (stretchR one o))) .hole .hole), rfl, by
          cases stretchR one o with
          | none => exact notN_y (v_of rfl) rfl
          | some m => exact notN_n (v_of rfl) rfl, fun hc => by
          cases hs : stretchR one o with
          | none => rw [hs] at hc; cases hc
          | some m => exact bin_of (v_of rfl) dC_ (addP_int _ _)⟩
      rw [map_less] at C
      have ap := addP_list (xs := intsL acc) (ys := intsL ((rs.filterMap fun o => stretchR one o).map fun m : Nat => (m : Int) + 1)) (by simp [intsL]; omega)
      rw [ints_app] at ap
      unfold law_b7
      exact set_of (bin_of (v_of rfl) (lst_of C) ap)) rs [0] (LS x0 x1 x2 x3 x4 x5 x6 x7 x8 x9 x10 (.pd (.list (encStr rs))) x12 x13 x14 x15 x16 x17 x18 x19 x20 (.pd (.list (intsL [0]))) x22 x23 x24 .hole .hole .hole .hole .hole) (by simp; omega) ⟨_, p22, rfl⟩
  rw [fold_app] at hρ
  subst hρ
  exact ⟨d22, q22, Eq.trans (for_of (it_of (v_of rfl) rfl)) L⟩
theorem due_fold (p : Int → Bool) : ∀ (ts : List Int) (o : Option Int), ts.foldl (fun o t => if o.isNone && p t then some t else o) o = o.or (ts.find? p)
  | [], o => by cases o <;> rfl
  | t :: ts, o => by
    rw [List.foldl_cons, due_fold p ts, List.find?_cons]
    cases o with
    | some a => rfl
    | none => cases p t <;> rfl
theorem st_due (s : Setup count near rs costs) (p22 : isPd x22 = true) : ∃ d22 d23 d24, dFor (dIt (dLst (dCallL ssetP (dArgs [(dV 21)])))) (.nm 23) law_b8 (LS x0 x1 (.pd (.list (encRh rs))) (.pd (.int (count : Int))) x4 x5 (.pd (.list (near.map encPr))) x7 x8 x9 x10 (.pd (.list (encStr rs))) x12 x13 x14 x15 x16 x17 x18 x19 (.pd .none) (.pd (.list (intsL (timesR rs)))) x22 x23 x24 .hole .hole .hole .hole .hole) = some (.nx, (LS x0 x1 (.pd (.list (encRh rs))) (.pd (.int (count : Int))) x4 x5 (.pd (.list (near.map encPr))) x7 x8 x9 x10 (.pd (.list (encStr rs))) x12 x13 x14 x15 x16 x17 x18 x19 (.pd (encO (dueR near rs count))) (.pd (.list (intsL (timesR rs)))) d22 d23 d24 .hole .hole .hole .hole .hole)) := by
  obtain ⟨ρ', L, d22, d23, d24, q22, hρ⟩ := forL_rel (t := .nm 23) (body := law_b8) PyData.int (fun (due : Option Int) ρ => ∃ d22 d23 d24, isPd d22 = true ∧ ρ = (LS x0 x1 (.pd (.list (encRh rs))) (.pd (.int (count : Int))) x4 x5 (.pd (.list (near.map encPr))) x7 x8 x9 x10 (.pd (.list (encStr rs))) x12 x13 x14 x15 x16 x17 x18 x19 (.pd (encO due)) (.pd (.list (intsL (timesR rs)))) d22 d23 d24 .hole .hole .hole .hole .hole))
    (fun o t => if o.isNone && (!(ableR near (goodOf rs t) rs.length count).isEmpty) then some t else o) (fun _ _ => True) (fun t ts o ρ _ hs => by
      obtain ⟨d22, d23, d24, q22, rfl⟩ := hs
      have F := st_fine (rs := rs) (count := count) (near := near) (x0 := x0) (x1 := x1) (x4 := x4) (x5 := x5) (x7 := x7) (x8 := x8) (x9 := x9) (x10 := x10) (x12 := x12) (x13 := x13) (x14 := x14) (x15 := x15) (x16 := x16) (x17 := x17) (x18 := x18) (x19 := x19) (x20 := .pd (encO o)) (x21 := .pd (.list (intsL (timesR rs)))) (x24 := d24) (most := t) s.rh s.cnt s.no s.nl q22
      generalize ableR near (goodOf rs t) rs.length count = Ab at *
      refine ⟨trivial, (LS x0 x1 (.pd (.list (encRh rs))) (.pd (.int (count : Int))) x4 x5 (.pd (.list (near.map encPr))) x7 x8 x9 x10 (.pd (.list (encStr rs))) x12 x13 x14 x15 x16 x17 x18 x19 (.pd (encO o)) (.pd (.list (intsL (timesR rs)))) d22 (.pd (.int t)) d24 .hole .hole .hole .hole .hole), (LS x0 x1 (.pd (.list (encRh rs))) (.pd (.int (count : Int))) x4 x5 (.pd (.list (near.map encPr))) x7 x8 x9 x10 (.pd (.list (encStr rs))) x12 x13 x14 x15 x16 x17 x18 x19 (.pd (encO (if o.isNone && (!Ab.isEmpty) then some t else o))) (.pd (.list (intsL (timesR rs)))) d22 (.pd (.int t)) (.pd (.list (Ab.map encCh))) .hole .hole .hole .hole .hole), rfl, ?_, _, _, _, q22, rfl⟩
      unfold law_b8
      rw [seq_nx F]
      have T2 : dCmp gtP (dCall lenP (dArgs [(dV 24)])) (dC (.int 0)) (LS x0 x1 (.pd (.list (encRh rs))) (.pd (.int (count : Int))) x4 x5 (.pd (.list (near.map encPr))) x7 x8 x9 x10 (.pd (.list (encStr rs))) x12 x13 x14 x15 x16 x17 x18 x19 (.pd (encO o)) (.pd (.list (intsL (timesR rs)))) d22 (.pd (.int t)) (.pd (.list (Ab.map encCh))) .hole .hole .hole .hole .hole) = some (!Ab.isEmpty, (LS x0 x1 (.pd (.list (encRh rs))) (.pd (.int (count : Int))) x4 x5 (.pd (.list (near.map encPr))) x7 x8 x9 x10 (.pd (.list (encStr rs))) x12 x13 x14 x15 x16 x17 x18 x19 (.pd (encO o)) (.pd (.list (intsL (timesR rs)))) d22 (.pd (.int t)) (.pd (.list (Ab.map encCh))) .hole .hole .hole .hole .hole)) := cmp_of (call_of (arg_of (v_of rfl) dArgs_nil) (lenP_list _)) dC_ (by
        rw [gtP_int]
        cases Ab with
        | nil => rfl
        | cons a r => simp)
      have T : dAnd (dIsN (dV 20)) (dCmp gtP (dCall lenP (dArgs [(dV 24)])) (dC (.int 0))) (LS x0 x1 (.pd (.list (encRh rs))) (.pd (.int (count : Int))) x4 x5 (.pd (.list (near.map encPr))) x7 x8 x9 x10 (.pd (.list (encStr rs))) x12 x13 x14 x15 x16 x17 x18 x19 (.pd (encO o)) (.pd (.list (intsL (timesR rs)))) d22 (.pd (.int t)) (.pd (.list (Ab.map encCh))) .hole .hole .hole .hole .hole) = some (o.isNone && (!Ab.isEmpty), (LS x0 x1 (.pd (.list (encRh rs))) (.pd (.int (count : Int))) x4 x5 (.pd (.list (near.map encPr))) x7 x8 x9 x10 (.pd (.list (encStr rs))) x12 x13 x14 x15 x16 x17 x18 x19 (.pd (encO o)) (.pd (.list (intsL (timesR rs)))) d22 (.pd (.int t)) (.pd (.list (Ab.map encCh))) .hole .hole .hole .hole .hole)) := by
        cases o with
        | none => exact Eq.trans (and_t (isN_y (v_of rfl) rfl)) T2
        | some a => exact and_f (isN_n (v_of rfl) rfl)
      refine Eq.trans (set_of (ρ1 := (LS x0 x1 (.pd (.list (encRh rs))) (.pd (.int (count : Int))) x4 x5 (.pd (.list (near.map encPr))) x7 x8 x9 x10 (.pd (.list (encStr rs))) x12 x13 x14 x15 x16 x17 x18 x19 (.pd (encO o)) (.pd (.list (intsL (timesR rs)))) d22 (.pd (.int t)) (.pd (.list (Ab.map encCh))) .hole .hole .hole .hole .hole)) (p := encO (if o.isNone && (!Ab.isEmpty) then some t else o)) ?_) rfl
      cases hb : o.isNone && (!Ab.isEmpty) with
      | true =>
        rw [hb] at T
        exact Eq.trans (ife_t T) (v_of rfl)
      | false =>
        rw [hb] at T
        exact Eq.trans (ife_f T) (v_of rfl)) (ssetI (timesR rs)) none (LS x0 x1 (.pd (.list (encRh rs))) (.pd (.int (count : Int))) x4 x5 (.pd (.list (near.map encPr))) x7 x8 x9 x10 (.pd (.list (encStr rs))) x12 x13 x14 x15 x16 x17 x18 x19 (.pd .none) (.pd (.list (intsL (timesR rs)))) x22 x23 x24 .hole .hole .hole .hole .hole) trivial ⟨_, _, _, p22, rfl⟩
  rw [due_fold] at hρ
  have e : (none : Option Int).or ((ssetI (timesR rs)).find? fun t => !(ableR near (goodOf rs t) rs.length count).isEmpty) = dueR near rs count := rfl
  rw [e] at hρ
  subst hρ
  have tl := timesR_len s.rh
  have sp : ssetP [.list (intsL (timesR rs))] = some ((ssetI (timesR rs)).map PyData.int) := by
    show (intsP (intsL (timesR rs))).bind _ = _
    rw [intsP_ints, Option.bind_some, if_pos (by omega)]
  exact ⟨d22, d23, d24, Eq.trans (for_of (it_of (lst_of (callL_of (arg_of (v_of rfl) dArgs_nil) sp)) rfl)) L⟩
theorem st_last (s : Setup count near rs costs) : dRet (dPd (dB (dCmp eqP (dCallN 4 least_time_s (dArgs [(dV 3), (dV 6), (dV 2), (dC (.int 9999))])) (dV 20)))) (LS x0 x1 (.pd (.list (encRh rs))) (.pd (.int (count : Int))) x4 x5 (.pd (.list (near.map encPr))) x7 x8 x9 x10 x11 x12 x13 x14 x15 x16 x17 x18 x19 (.pd (encO (dueR near rs count))) x21 x22 x23 x24 .hole .hole .hole .hole .hole) = some (.rt (.pd (.bool true)), (LS x0 x1 (.pd (.list (encRh rs))) (.pd (.int (count : Int))) x4 x5 (.pd (.list (near.map encPr))) x7 x8 x9 x10 x11 x12 x13 x14 x15 x16 x17 x18 x19 (.pd (encO (dueR near rs count))) x21 x22 x23 x24 .hole .hole .hole .hole .hole)) := by
  have lt := least_time_sem count near rs s.rh.ok s.rh.few s.cnt
  rw [due_same near rs count s.rh.ok s.no] at lt
  refine ret_of (b_of (cmp_of (callN_of (arg_of (v_of rfl) (arg_of (v_of rfl) (arg_of (v_of rfl) (arg_of dC_ dArgs_nil)))) rfl lt) (v_of rfl) (eqP_refl ?_ ?_)))
  · cases dueR near rs count <;> rfl
  · cases dueR near rs count <;> simp [encO]
end
end
end HW

namespace HW
open PySem PySem.Spec PyProof.Rows L2
noncomputable section
/-! ### the state to draw from -/
theorem ls_cells (script : List Int) : dSet 1 (dOl (dComp (dIt (dSlA (dV 0) dNo (dSo (dC (.int 63))))) [2] (.nm 2) dYes (dCall absP (dArgs [(dV 2)])))) [.pd (.list (intsL script)), .hole, .hole] = some (.nx, [.pd (.list (intsL script)), .ol (pds (intsL (cells0 script))), .hole]) := by
  have s1 := slA_to (intsL script) 63
  have e1 : (intsL script).take 63 = intsL (script.take 63) := by simp [intsL]
  rw [e1] at s1
  have C := dComp_map (it := dIt (dSlA (dV 0) dNo (dSo (dC (.int 63))))) (vs := [2]) (tg := .nm 2) (el := dCall absP (dArgs [(dV 2)])) PyData.int (fun i => .int (absI i)) (script.take 63) [.pd (.list (intsL script)), .hole, .hole] [.pd (.list (intsL script)), .hole, .hole] (by
    show ((sliceA (.list (intsL script)) none (some (63 : Int))).map _).bind _ = _
    rw [show (63 : Int) = ((63 : Nat) : Int) from rfl, s1]
    rfl) (by rw [List.length_take]; omega) rfl rfl fun i hi => ⟨_, bind_nm, rfl⟩
  have e2 : (script.take 63).map (fun i => PyData.int (absI i)) = intsL (cells0 script) := by simp [intsL, cells0, Function.comp_def]
  rw [e2] at C
  rw [dSet_, dOl_, C]
  rfl
theorem law_state_sem (script : List Int) : ∃ d, _law_state_s [.list (intsL script)] = some d ∧ GoodS d := by
  unfold _law_state_s runP _law_state_d
  show ∃ d, (match dSeq _ _ [.pd (.list (intsL script)), .hole, .hole] with | some (.rt d, _) => some d | some (.nx, _) => some (.pd .none) | _ => none) = some d ∧ _
  rw [seq_nx (ls_cells script)]
  have hp : ∀ x ∈ cells0 script, 0 ≤ x := fun x hx => by
    obtain ⟨y, _, rfl⟩ := List.mem_map.mp hx
    exact absI_nonneg y
  generalize cells0 script = cs at hp
  have T : dCmp eqP (dPk 1 (dCall lenP (dArgs [(dV 1)]))) (dC (.int 0)) [.pd (.list (intsL script)), .ol (pds (intsL cs)), .hole] = some (decide ((cs.length : Int) = 0), [.pd (.list (intsL script)), .ol (pds (intsL cs)), .hole]) := by simp
  by_cases h : cs = []
  · subst h
    refine ⟨.ol [.pd (.int 0), .ol (pds (intsL [0]))], ?_, 0, [0], rfl, by omega, by simp, by simp⟩
    rw [seq_nx (ρ1 := [.pd (.list (intsL script)), .ol (pds (intsL [0])), .hole])]
    · rfl
    · rw [dIfS_, T, Option.bind_some]
      rfl
  · refine ⟨.ol [.pd (.int 0), .ol (pds (intsL cs))], ?_, 0, cs, rfl, by omega, h, hp⟩
    have hl : ¬ ((cs.length : Int) = 0) := by
      have := List.length_pos_iff.mpr h
      omega
    rw [seq_nx (ρ1 := [.pd (.list (intsL script)), .ol (pds (intsL cs)), .hole])]
    · rfl
    · rw [dIfS_, T, Option.bind_some]
      dsimp only
      rw [if_neg (by simpa using hl)]
      rfl
/-! ### the law -/
theorem law_sem (script : List Int) : law_s [.list (intsL script)] = some (.bool true) := by
  have K : ∃ ρ', law_d (LS (.pd (.list (intsL script))) .hole .hole .hole .hole .hole .hole .hole .hole .hole .hole .hole .hole .hole .hole .hole .hole .hole .hole .hole .hole .hole .hole .hole .hole .hole .hole .hole .hole .hole) = some (.rt (.pd (.bool true)), ρ') := by
    obtain ⟨d0, e0, g0⟩ := law_state_sem script
    unfold law_d
    rw [seq_nx (ρ1 := (LS (.pd (.list (intsL script))) d0 .hole .hole .hole .hole .hole .hole .hole .hole .hole .hole .hole .hole .hole .hole .hole .hole .hole .hole .hole .hole .hole .hole .hole .hole .hole .hole .hole .hole)) (by
      show ((_law_state_s [.list (intsL script)]).map _).map _ = _
      rw [e0]
      rfl)]
    obtain ⟨rs, d1, e1, g1, hr⟩ := st_rh (x0 := .pd (.list (intsL script))) (x2 := .hole) (x3 := .hole) (x4 := .hole) (x5 := .hole) (x6 := .hole) (x7 := .hole) (x8 := .hole) (x9 := .hole) (x10 := .hole) (x11 := .hole) (x12 := .hole) (x13 := .hole) (x14 := .hole) (x15 := .hole) (x16 := .hole) (x17 := .hole) (x18 := .hole) (x19 := .hole) (x20 := .hole) (x21 := .hole) (x22 := .hole) (x23 := .hole) (x24 := .hole) g0
    rw [seq_nx e1]
    obtain ⟨count, d2, e2, g2, hc0, hc⟩ := st_count (x0 := .pd (.list (intsL script))) (x2 := .pd (.list (encRh rs))) (x3 := .hole) (x4 := .hole) (x5 := .hole) (x6 := .hole) (x7 := .hole) (x8 := .hole) (x9 := .hole) (x10 := .hole) (x11 := .hole) (x12 := .hole) (x13 := .hole) (x14 := .hole) (x15 := .hole) (x16 := .hole) (x17 := .hole) (x18 := .hole) (x19 := .hole) (x20 := .hole) (x21 := .hole) (x22 := .hole) (x23 := .hole) (x24 := .hole) g1
    rw [seq_nx e2]
    obtain ⟨pl, d3, e3, g3, hpl, hpn⟩ := st_places (x0 := .pd (.list (intsL script))) (x2 := .pd (.list (encRh rs))) (x4 := .hole) (x5 := .hole) (x6 := .hole) (x7 := .hole) (x8 := .hole) (x9 := .hole) (x10 := .hole) (x11 := .hole) (x12 := .hole) (x13 := .hole) (x14 := .hole) (x15 := .hole) (x16 := .hole) (x17 := .hole) (x18 := .hole) (x19 := .hole) (x20 := .hole) (x21 := .hole) (x22 := .hole) (x23 := .hole) (x24 := .hole) g2 hc
    rw [seq_nx e3]
    subst hpn
    obtain ⟨reach, d4, e4, g4, hre⟩ := st_reach (x0 := .pd (.list (intsL script))) (x2 := .pd (.list (encRh rs))) (x3 := .pd (.int (pl.length : Int))) (x4 := .pd (.list (pl.map encPl))) (x5 := .hole) (x6 := .hole) (x7 := .hole) (x8 := .hole) (x9 := .hole) (x10 := .hole) (x11 := .hole) (x12 := .hole) (x13 := .hole) (x14 := .hole) (x15 := .hole) (x16 := .hole) (x17 := .hole) (x18 := .hole) (x19 := .hole) (x20 := .hole) (x21 := .hole) (x22 := .hole) (x23 := .hole) (x24 := .hole) g3
    rw [seq_nx e4]
    have hr2 : (0 : Int) ≤ (reach : Int) ∧ (reach : Int) < 1000 := by omega
    rw [seq_nx (s1 := dSet 6 (dPd (dLst (dArgs [])))) (ρ1 := (LS (.pd (.list (intsL script))) d4 (.pd (.list (encRh rs))) (.pd (.int (pl.length : Int))) (.pd (.list (pl.map encPl))) (.pd (.int (reach : Int))) (.pd (.list (([] : List (Nat × Nat)).map encPr))) .hole .hole .hole .hole .hole .hole .hole .hole .hole .hole .hole .hole .hole .hole .hole .hole .hole .hole .hole .hole .hole .hole .hole)) rfl]
    obtain ⟨y7, y8, y9, e5⟩ := st_near (pl := pl) (reach := (reach : Int)) (x0 := .pd (.list (intsL script))) (x1 := d4) (x2 := .pd (.list (encRh rs))) (x7 := .hole) (x8 := .hole) (x9 := .hole) (x10 := .hole) (x11 := .hole) (x12 := .hole) (x13 := .hole) (x14 := .hole) (x15 := .hole) (x16 := .hole) (x17 := .hole) (x18 := .hole) (x19 := .hole) (x20 := .hole) (x21 := .hole) (x22 := .hole) (x23 := .hole) (x24 := .hole) hpl hc hr2
    rw [seq_nx e5, seq_nx (st_near2 hpl hc hr2)]
    have hno := nearR_ok pl (reach : Int)
    have hnl : (nearR pl (reach : Int)).length < 1000 := by
      unfold nearR
      refine Nat.lt_of_le_of_lt (List.length_filter_le _ _) ?_
      match pl.length, hc with
      | 0, _ | 1, _ | 2, _ | 3, _ | 4, _ => decide
    generalize nearR pl (reach : Int) = near at *
    obtain ⟨time, d5, e6, g5, ht0, ht⟩ := st_time (x0 := .pd (.list (intsL script))) (x2 := .pd (.list (encRh rs))) (x3 := .pd (.int (pl.length : Int))) (x4 := .pd (.list (pl.map encPl))) (x5 := .pd (.int (reach : Int))) (x6 := .pd (.list (near.map encPr))) (x7 := y7) (x8 := y8) (x9 := y9) (x10 := .hole) (x11 := .hole) (x12 := .hole) (x13 := .hole) (x14 := .hole) (x15 := .hole) (x16 := .hole) (x17 := .hole) (x18 := .hole) (x19 := .hole) (x20 := .hole) (x21 := .hole) (x22 := .hole) (x23 := .hole) (x24 := .hole) g4
    rw [seq_nx e6, seq_nx (st_str hr), seq_nx (st_good hr), seq_nx (st_told hr)]
    obtain ⟨z7, z8, z13, e7⟩ := lw_common hr (time := time) (x0 := .pd (.list (intsL script))) (x1 := d5) (x3 := .pd (.int (pl.length : Int))) (x4 := .pd (.list (pl.map encPl))) (x5 := .pd (.int (reach : Int))) (x6 := .pd (.list (near.map encPr))) (x7 := y7) (x8 := y8) (x9 := y9) (x13 := .hole) (x14 := .hole) (x15 := .hole) (x16 := .hole) (x17 := .hole) (x18 := .hole) (x19 := .hole) (x20 := .hole) (x21 := .hole) (x22 := .hole) (x23 := .hole) (x24 := .hole)
    rw [seq_nx e7]
    obtain ⟨costs, d6, e8, g6, hcl, hcn⟩ := st_costs hr (x0 := .pd (.list (intsL script))) (x3 := .pd (.int (pl.length : Int))) (x4 := .pd (.list (pl.map encPl))) (x5 := .pd (.int (reach : Int))) (x6 := .pd (.list (near.map encPr))) (x7 := z7) (x8 := z8) (x9 := y9) (x10 := .pd (.int (time : Int))) (x11 := .pd (.list (encStr rs))) (x12 := .pd (.list (encGood (goodOf rs (time : Int))))) (x13 := z13) (x14 := .hole) (x15 := .hole) (x16 := .hole) (x17 := .hole) (x18 := .hole) (x19 := .hole) (x20 := .hole) (x21 := .hole) (x22 := .hole) (x23 := .hole) (x24 := .hole) g5
    rw [seq_nx e8]
    have su : Setup pl.length near rs costs := ⟨hr, hc, hno, hnl, hcl, hcn⟩
    rw [seq_nx (st_able (t := (time : Int)) hr hc hno hnl), seq_nx (st_choice su), seq_nx (st_fault su)]
    obtain ⟨u7, u8, u16, u17, u18, u19, e9⟩ := st_given su ht (x0 := .pd (.list (intsL script))) (x1 := d6) (x4 := .pd (.list (pl.map encPl))) (x5 := .pd (.int (reach : Int))) (x7 := z7) (x8 := z8) (x9 := y9) (x11 := .pd (.list (encStr rs))) (x17 := .hole) (x18 := .hole) (x19 := .hole) (x20 := .hole) (x21 := .hole) (x23 := .hole) (x24 := .hole)
    rw [seq_nx e9]
    rw [seq_nx (s1 := dSet 20 (dPd (dC .none))) (ρ1 := (LS (.pd (.list (intsL script))) d6 (.pd (.list (encRh rs))) (.pd (.int (pl.length : Int))) (.pd (.list (pl.map encPl))) (.pd (.int (reach : Int))) (.pd (.list (near.map encPr))) u7 u8 y9 (.pd (.int (time : Int))) (.pd (.list (encStr rs))) (.pd (.list (encGood (goodOf rs (time : Int))))) (.pd (toldOf (pbOf pl.length near rs time costs))) (.pd (.list (intsL costs))) (.pd (.list ((ableR near (goodOf rs (time : Int)) rs.length pl.length).map encCh))) u16 u17 u18 u19 (.pd .none) .hole .hole .hole .hole .hole .hole .hole .hole .hole)) rfl]
    rw [seq_nx (s1 := dSet 21 (dPd (dLst (dArgs [(dC (.int 0))])))) (ρ1 := (LS (.pd (.list (intsL script))) d6 (.pd (.list (encRh rs))) (.pd (.int (pl.length : Int))) (.pd (.list (pl.map encPl))) (.pd (.int (reach : Int))) (.pd (.list (near.map encPr))) u7 u8 y9 (.pd (.int (time : Int))) (.pd (.list (encStr rs))) (.pd (.list (encGood (goodOf rs (time : Int))))) (.pd (toldOf (pbOf pl.length near rs time costs))) (.pd (.list (intsL costs))) (.pd (.list ((ableR near (goodOf rs (time : Int)) rs.length pl.length).map encCh))) u16 u17 u18 u19 (.pd .none) (.pd (.list (intsL [0]))) .hole .hole .hole .hole .hole .hole .hole .hole)) rfl]
    obtain ⟨w22, q22, e10⟩ := st_times hr (x0 := .pd (.list (intsL script))) (x1 := d6) (x2 := .pd (.list (encRh rs))) (x3 := .pd (.int (pl.length : Int))) (x4 := .pd (.list (pl.map encPl))) (x5 := .pd (.int (reach : Int))) (x6 := .pd (.list (near.map encPr))) (x7 := u7) (x8 := u8) (x9 := y9) (x10 := .pd (.int (time : Int))) (x12 := .pd (.list (encGood (goodOf rs (time : Int))))) (x13 := .pd (toldOf (pbOf pl.length near rs time costs))) (x14 := .pd (.list (intsL costs))) (x15 := .pd (.list ((ableR near (goodOf rs (time : Int)) rs.length pl.length).map encCh))) (x16 := u16) (x17 := u17) (x18 := u18) (x19 := u19) (x20 := .pd .none) (x22 := .hole) (x23 := .hole) (x24 := .hole) rfl
    rw [seq_nx e10]
    obtain ⟨v22, v23, v24, e11⟩ := st_due su q22 (x0 := .pd (.list (intsL script))) (x1 := d6) (x4 := .pd (.list (pl.map encPl))) (x5 := .pd (.int (reach : Int))) (x7 := u7) (x8 := u8) (x9 := y9) (x10 := .pd (.int (time : Int))) (x12 := .pd (.list (encGood (goodOf rs (time : Int))))) (x13 := .pd (toldOf (pbOf pl.length near rs time costs))) (x14 := .pd (.list (intsL costs))) (x15 := .pd (.list ((ableR near (goodOf rs (time : Int)) rs.length pl.length).map encCh))) (x16 := u16) (x17 := u17) (x18 := u18) (x19 := u19) (x23 := .hole) (x24 := .hole)
    rw [seq_nx e11]
    exact ⟨_, st_last su⟩
  obtain ⟨ρ', e⟩ := K
  exact runQ_of (n := 30) (d := .pd (.bool true)) rfl e (frz_pd _)
end
end HW

namespace HW
open PySem PySem.Spec PyProof.Rows L2

theorem all_mk {P : Program} {w : World} {K : PySem.W.Frag} {h : Heap} {mg : Str → Option Value} {fa : Addr} (X : K.In h) (G : h.Ns mainGlobals mg) (hfa : mg "law" = some (.ref fa))
    {f0 : Addr} {od0 an0 : Option Addr} {sl0 : Array (Option Value)} {oc0 kV0 dc0 pm0 cd0 ct0 : Value}
    {f1 : Addr} {od1 an1 : Option Addr} {sl1 : Array (Option Value)} {oc1 kV1 dc1 pm1 cd1 ct1 : Value}
    {f2 : Addr} {od2 an2 : Option Addr} {sl2 : Array (Option Value)} {oc2 kV2 dc2 pm2 cd2 ct2 : Value}
    {f3 : Addr} {od3 an3 : Option Addr} {sl3 : Array (Option Value)} {oc3 kV3 dc3 pm3 cd3 ct3 : Value}
    {f4 : Addr} {od4 an4 : Option Addr} {sl4 : Array (Option Value)} {oc4 kV4 dc4 pm4 cd4 ct4 : Value}
    {f5 : Addr} {od5 an5 : Option Addr} {sl5 : Array (Option Value)} {oc5 kV5 dc5 pm5 cd5 ct5 : Value}
    {f6 : Addr} {od6 an6 : Option Addr} {sl6 : Array (Option Value)} {oc6 kV6 dc6 pm6 cd6 ct6 : Value}
    {f7 : Addr} {od7 an7 : Option Addr} {sl7 : Array (Option Value)} {oc7 kV7 dc7 pm7 cd7 ct7 : Value}
    {f8 : Addr} {od8 an8 : Option Addr} {sl8 : Array (Option Value)} {oc8 kV8 dc8 pm8 cd8 ct8 : Value}
    {f9 : Addr} {od9 an9 : Option Addr} {sl9 : Array (Option Value)} {oc9 kV9 dc9 pm9 cd9 ct9 : Value}
    {f10 : Addr} {od10 an10 : Option Addr} {sl10 : Array (Option Value)} {oc10 kV10 dc10 pm10 cd10 ct10 : Value}
    {f11 : Addr} {od11 an11 : Option Addr} {sl11 : Array (Option Value)} {oc11 kV11 dc11 pm11 cd11 ct11 : Value}
    {f12 : Addr} {od12 an12 : Option Addr} {sl12 : Array (Option Value)} {oc12 kV12 dc12 pm12 cd12 ct12 : Value}
    {f13 : Addr} {od13 an13 : Option Addr} {sl13 : Array (Option Value)} {oc13 kV13 dc13 pm13 cd13 ct13 : Value}
    {f14 : Addr} {od14 an14 : Option Addr} {sl14 : Array (Option Value)} {oc14 kV14 dc14 pm14 cd14 ct14 : Value}
    {f15 : Addr} {od15 an15 : Option Addr} {sl15 : Array (Option Value)} {oc15 kV15 dc15 pm15 cd15 ct15 : Value}
    {f16 : Addr} {od16 an16 : Option Addr} {sl16 : Array (Option Value)} {oc16 kV16 dc16 pm16 cd16 ct16 : Value}
    {f17 : Addr} {od17 an17 : Option Addr} {sl17 : Array (Option Value)} {oc17 kV17 dc17 pm17 cd17 ct17 : Value}
    {f18 : Addr} {od18 an18 : Option Addr} {sl18 : Array (Option Value)} {oc18 kV18 dc18 pm18 cd18 ct18 : Value}
    {f19 : Addr} {od19 an19 : Option Addr} {sl19 : Array (Option Value)} {oc19 kV19 dc19 pm19 cd19 ct19 : Value}
    {f20 : Addr} {od20 an20 : Option Addr} {sl20 : Array (Option Value)} {oc20 kV20 dc20 pm20 cd20 ct20 : Value}
    {f21 : Addr} {od21 an21 : Option Addr} {sl21 : Array (Option Value)} {oc21 kV21 dc21 pm21 cd21 ct21 : Value}
    {f22 : Addr} {od22 an22 : Option Addr} {sl22 : Array (Option Value)} {oc22 kV22 dc22 pm22 cd22 ct22 : Value}
    {f23 : Addr} {od23 an23 : Option Addr} {sl23 : Array (Option Value)} {oc23 kV23 dc23 pm23 cd23 ct23 : Value}
    {f24 : Addr} {od24 an24 : Option Addr} {sl24 : Array (Option Value)} {oc24 kV24 dc24 pm24 cd24 ct24 : Value}
    {f25 : Addr} {od25 an25 : Option Addr} {sl25 : Array (Option Value)} {oc25 kV25 dc25 pm25 cd25 ct25 : Value}
    {f26 : Addr} {od26 an26 : Option Addr} {sl26 : Array (Option Value)} {oc26 kV26 dc26 pm26 cd26 ct26 : Value}
    {f27 : Addr} {od27 an27 : Option Addr} {sl27 : Array (Option Value)} {oc27 kV27 dc27 pm27 cd27 ct27 : Value}
    {f28 : Addr} {od28 an28 : Option Addr} {sl28 : Array (Option Value)} {oc28 kV28 dc28 pm28 cd28 ct28 : Value}
    {C0 : Addr}
    (a__law_take : PySem.W.nsIn K mainGlobals "_law_take" = some (some (.ref f1)))
    (a_least_turn : PySem.W.nsIn K mainGlobals "least_turn" = some (some (.ref f6)))
    (a_turned : PySem.W.nsIn K mainGlobals "turned" = some (some (.ref f7)))
    (a_at : PySem.W.nsIn K mainGlobals "at" = some (some (.ref f10)))
    (a_same_but_for_begin : PySem.W.nsIn K mainGlobals "same_but_for_begin" = some (some (.ref f8)))
    (a_bound_for : PySem.W.nsIn K mainGlobals "bound_for" = some (some (.ref f9)))
    (a_stretch_from : PySem.W.nsIn K mainGlobals "stretch_from" = some (some (.ref f11)))
    (a_common : PySem.W.nsIn K mainGlobals "common" = some (some (.ref f12)))
    (a_clash_with : PySem.W.nsIn K mainGlobals "clash_with" = some (some (.ref f16)))
    (a_starts_of : PySem.W.nsIn K mainGlobals "starts_of" = some (some (.ref f23)))
    (a_bar_of : PySem.W.nsIn K mainGlobals "bar_of" = some (some (.ref f24)))
    (a_told_apart : PySem.W.nsIn K mainGlobals "told_apart" = some (some (.ref f13)))
    (a_choice_of : PySem.W.nsIn K mainGlobals "choice_of" = some (some (.ref f20)))
    (a__law_state : PySem.W.nsIn K mainGlobals "_law_state" = some (some (.ref f0)))
    (a__law_runs : PySem.W.nsIn K mainGlobals "_law_runs" = some (some (.ref f2)))
    (a__law_row : PySem.W.nsIn K mainGlobals "_law_row" = some (some (.ref f3)))
    (a_near_pairs : PySem.W.nsIn K mainGlobals "near_pairs" = some (some (.ref f4)))
    (a__law_stretch : PySem.W.nsIn K mainGlobals "_law_stretch" = some (some (.ref f5)))
    (a__law_choices : PySem.W.nsIn K mainGlobals "_law_choices" = some (some (.ref f14)))
    (a_choice_fault : PySem.W.nsIn K mainGlobals "choice_fault" = some (some (.ref f22)))
    (a_fitting : PySem.W.nsIn K mainGlobals "fitting" = some (some (.ref f25)))
    (a__law_less : PySem.W.nsIn K mainGlobals "_law_less" = some (some (.ref f26)))
    (a_least_time : PySem.W.nsIn K mainGlobals "least_time" = some (some (.ref f27)))
    (a_law : PySem.W.nsIn K mainGlobals "law" = some (some (.ref f28)))
    (aC : PySem.W.nsIn K mainGlobals "Giving" = some (some (.ref C0))) (m1 : PySem.W.makesIn K C0 = true) (m2 : PySem.W.keepIn K (.ref C0) = true) (q1 : PySem.W.plainGet K C0 Str.empty = true) (q2 : PySem.W.hasDictIn K C0 = true) (q3 : PySem.W.plainOver K C0 = true) (q4 : PySem.W.findIn K (.ref C0) "__setattr__" = some (some (.builtin "object.__setattr__")))
    (e_Giving_init : PySem.W.findIn K (.ref C0) "__init__" = some (some (.ref f15))) (i_Giving_init : PySem.W.isFn K (.ref f15) = true)
    (e_Giving_step : PySem.W.findIn K (.ref C0) "step" = some (some (.ref f17))) (i_Giving_step : PySem.W.isFn K (.ref f17) = true)
    (e_Giving_go : PySem.W.findIn K (.ref C0) "go" = some (some (.ref f18))) (i_Giving_go : PySem.W.isFn K (.ref f18) = true)
    (e_Giving_tree : PySem.W.findIn K (.ref C0) "tree" = some (some (.ref f19))) (i_Giving_tree : PySem.W.isFn K (.ref f19) = true)
    (e_Giving_path : PySem.W.findIn K (.ref C0) "path" = some (some (.ref f21))) (i_Giving_path : PySem.W.isFn K (.ref f21) = true)
    (n_count : PySem.W.findIn K (.ref C0) "count" = some none)
    (n_near : PySem.W.findIn K (.ref C0) "near" = some none)
    (n_good : PySem.W.findIn K (.ref C0) "good" = some none)
    (n_costs : PySem.W.findIn K (.ref C0) "costs" = some none)
    (n_limit : PySem.W.findIn K (.ref C0) "limit" = some none)
    (n_places : PySem.W.findIn K (.ref C0) "places" = some none)
    (n_best : PySem.W.findIn K (.ref C0) "best" = some none)
    (l0 : K.lookup f0 = some ⟨oc0, od0, .func (PySem.W.fnOf "_law_state" "_law_state" (defArgs st__law_state) (defBody st__law_state) (defScope st__law_state) .none kV0 dc0 pm0 an0 cd0 ct0), sl0⟩) (c0 : PySem.W.codeIn K cd0 "_law_state" = true) (k0 : PySem.W.keepIn K (.ref f0) = true)
    (l1 : K.lookup f1 = some ⟨oc1, od1, .func (PySem.W.fnOf "_law_take" "_law_take" (defArgs st__law_take) (defBody st__law_take) (defScope st__law_take) .none kV1 dc1 pm1 an1 cd1 ct1), sl1⟩) (c1 : PySem.W.codeIn K cd1 "_law_take" = true) (k1 : PySem.W.keepIn K (.ref f1) = true)
    (l2 : K.lookup f2 = some ⟨oc2, od2, .func (PySem.W.fnOf "_law_runs" "_law_runs" (defArgs st__law_runs) (defBody st__law_runs) (defScope st__law_runs) .none kV2 dc2 pm2 an2 cd2 ct2), sl2⟩) (c2 : PySem.W.codeIn K cd2 "_law_runs" = true) (k2 : PySem.W.keepIn K (.ref f2) = true)
    (l3 : K.lookup f3 = some ⟨oc3, od3, .func (PySem.W.fnOf "_law_row" "_law_row" (defArgs st__law_row) (defBody st__law_row) (defScope st__law_row) .none kV3 dc3 pm3 an3 cd3 ct3), sl3⟩) (c3 : PySem.W.codeIn K cd3 "_law_row" = true) (k3 : PySem.W.keepIn K (.ref f3) = true)
    (l4 : K.lookup f4 = some ⟨oc4, od4, .func (PySem.W.fnOf "near_pairs" "near_pairs" (defArgs st_near_pairs) (defBody st_near_pairs) (defScope st_near_pairs) .none kV4 dc4 pm4 an4 cd4 ct4), sl4⟩) (c4 : PySem.W.codeIn K cd4 "near_pairs" = true) (k4 : PySem.W.keepIn K (.ref f4) = true)
    (l5 : K.lookup f5 = some ⟨oc5, od5, .func (PySem.W.fnOf "_law_stretch" "_law_stretch" (defArgs st__law_stretch) (defBody st__law_stretch) (defScope st__law_stretch) .none kV5 dc5 pm5 an5 cd5 ct5), sl5⟩) (c5 : PySem.W.codeIn K cd5 "_law_stretch" = true) (k5 : PySem.W.keepIn K (.ref f5) = true)
    (l6 : K.lookup f6 = some ⟨oc6, od6, .func (PySem.W.fnOf "least_turn" "least_turn" (defArgs st_least_turn) (defBody st_least_turn) (defScope st_least_turn) .none kV6 dc6 pm6 an6 cd6 ct6), sl6⟩) (c6 : PySem.W.codeIn K cd6 "least_turn" = true) (k6 : PySem.W.keepIn K (.ref f6) = true)
    (l7 : K.lookup f7 = some ⟨oc7, od7, .func (PySem.W.fnOf "turned" "turned" (defArgs st_turned) (defBody st_turned) (defScope st_turned) .none kV7 dc7 pm7 an7 cd7 ct7), sl7⟩) (c7 : PySem.W.codeIn K cd7 "turned" = true) (k7 : PySem.W.keepIn K (.ref f7) = true)
    (l8 : K.lookup f8 = some ⟨oc8, od8, .func (PySem.W.fnOf "same_but_for_begin" "same_but_for_begin" (defArgs st_same_but_for_begin) (defBody st_same_but_for_begin) (defScope st_same_but_for_begin) .none kV8 dc8 pm8 an8 cd8 ct8), sl8⟩) (c8 : PySem.W.codeIn K cd8 "same_but_for_begin" = true) (k8 : PySem.W.keepIn K (.ref f8) = true)
    (l9 : K.lookup f9 = some ⟨oc9, od9, .func (PySem.W.fnOf "bound_for" "bound_for" (defArgs st_bound_for) (defBody st_bound_for) (defScope st_bound_for) .none kV9 dc9 pm9 an9 cd9 ct9), sl9⟩) (c9 : PySem.W.codeIn K cd9 "bound_for" = true) (k9 : PySem.W.keepIn K (.ref f9) = true)
    (l10 : K.lookup f10 = some ⟨oc10, od10, .func (PySem.W.fnOf "at" "at" (defArgs st_at) (defBody st_at) (defScope st_at) .none kV10 dc10 pm10 an10 cd10 ct10), sl10⟩) (c10 : PySem.W.codeIn K cd10 "at" = true) (k10 : PySem.W.keepIn K (.ref f10) = true)
    (l11 : K.lookup f11 = some ⟨oc11, od11, .func (PySem.W.fnOf "stretch_from" "stretch_from" (defArgs st_stretch_from) (defBody st_stretch_from) (defScope st_stretch_from) .none kV11 dc11 pm11 an11 cd11 ct11), sl11⟩) (c11 : PySem.W.codeIn K cd11 "stretch_from" = true) (k11 : PySem.W.keepIn K (.ref f11) = true)
    (l12 : K.lookup f12 = some ⟨oc12, od12, .func (PySem.W.fnOf "common" "common" (defArgs st_common) (defBody st_common) (defScope st_common) .none kV12 dc12 pm12 an12 cd12 ct12), sl12⟩) (c12 : PySem.W.codeIn K cd12 "common" = true) (k12 : PySem.W.keepIn K (.ref f12) = true)
    (l13 : K.lookup f13 = some ⟨oc13, od13, .func (PySem.W.fnOf "told_apart" "told_apart" (defArgs st_told_apart) (defBody st_told_apart) (defScope st_told_apart) .none kV13 dc13 pm13 an13 cd13 ct13), sl13⟩) (c13 : PySem.W.codeIn K cd13 "told_apart" = true) (k13 : PySem.W.keepIn K (.ref f13) = true)
    (l14 : K.lookup f14 = some ⟨oc14, od14, .func (PySem.W.fnOf "_law_choices" "_law_choices" (defArgs st__law_choices) (defBody st__law_choices) (defScope st__law_choices) .none kV14 dc14 pm14 an14 cd14 ct14), sl14⟩) (c14 : PySem.W.codeIn K cd14 "_law_choices" = true) (k14 : PySem.W.keepIn K (.ref f14) = true)
    (l15 : K.lookup f15 = some ⟨oc15, od15, .func (PySem.W.fnOf "__init__" "Giving.__init__" (defArgs st_Giving_init) (defBody st_Giving_init) (defScope st_Giving_init) .none kV15 dc15 pm15 an15 cd15 ct15), sl15⟩) (c15 : PySem.W.codeIn K cd15 "Giving.__init__" = true) (k15 : PySem.W.keepIn K (.ref f15) = true)
    (l16 : K.lookup f16 = some ⟨oc16, od16, .func (PySem.W.fnOf "clash_with" "clash_with" (defArgs st_clash_with) (defBody st_clash_with) (defScope st_clash_with) .none kV16 dc16 pm16 an16 cd16 ct16), sl16⟩) (c16 : PySem.W.codeIn K cd16 "clash_with" = true) (k16 : PySem.W.keepIn K (.ref f16) = true)
    (l17 : K.lookup f17 = some ⟨oc17, od17, .func (PySem.W.fnOf "step" "Giving.step" (defArgs st_Giving_step) (defBody st_Giving_step) (defScope st_Giving_step) .none kV17 dc17 pm17 an17 cd17 ct17), sl17⟩) (c17 : PySem.W.codeIn K cd17 "Giving.step" = true) (k17 : PySem.W.keepIn K (.ref f17) = true)
    (l18 : K.lookup f18 = some ⟨oc18, od18, .func (PySem.W.fnOf "go" "Giving.go" (defArgs st_Giving_go) (defBody st_Giving_go) (defScope st_Giving_go) .none kV18 dc18 pm18 an18 cd18 ct18), sl18⟩) (c18 : PySem.W.codeIn K cd18 "Giving.go" = true) (k18 : PySem.W.keepIn K (.ref f18) = true)
    (l19 : K.lookup f19 = some ⟨oc19, od19, .func (PySem.W.fnOf "tree" "Giving.tree" (defArgs st_Giving_tree) (defBody st_Giving_tree) (defScope st_Giving_tree) .none kV19 dc19 pm19 an19 cd19 ct19), sl19⟩) (c19 : PySem.W.codeIn K cd19 "Giving.tree" = true) (k19 : PySem.W.keepIn K (.ref f19) = true)
    (l20 : K.lookup f20 = some ⟨oc20, od20, .func (PySem.W.fnOf "choice_of" "choice_of" (defArgs st_choice_of) (defBody st_choice_of) (defScope st_choice_of) .none kV20 dc20 pm20 an20 cd20 ct20), sl20⟩) (c20 : PySem.W.codeIn K cd20 "choice_of" = true) (k20 : PySem.W.keepIn K (.ref f20) = true)
    (l21 : K.lookup f21 = some ⟨oc21, od21, .func (PySem.W.fnOf "path" "Giving.path" (defArgs st_Giving_path) (defBody st_Giving_path) (defScope st_Giving_path) .none kV21 dc21 pm21 an21 cd21 ct21), sl21⟩) (c21 : PySem.W.codeIn K cd21 "Giving.path" = true) (k21 : PySem.W.keepIn K (.ref f21) = true)
    (l22 : K.lookup f22 = some ⟨oc22, od22, .func (PySem.W.fnOf "choice_fault" "choice_fault" (defArgs st_choice_fault) (defBody st_choice_fault) (defScope st_choice_fault) .none kV22 dc22 pm22 an22 cd22 ct22), sl22⟩) (c22 : PySem.W.codeIn K cd22 "choice_fault" = true) (k22 : PySem.W.keepIn K (.ref f22) = true)
    (l23 : K.lookup f23 = some ⟨oc23, od23, .func (PySem.W.fnOf "starts_of" "starts_of" (defArgs st_starts_of) (defBody st_starts_of) (defScope st_starts_of) .none kV23 dc23 pm23 an23 cd23 ct23), sl23⟩) (c23 : PySem.W.codeIn K cd23 "starts_of" = true) (k23 : PySem.W.keepIn K (.ref f23) = true)
    (l24 : K.lookup f24 = some ⟨oc24, od24, .func (PySem.W.fnOf "bar_of" "bar_of" (defArgs st_bar_of) (defBody st_bar_of) (defScope st_bar_of) .none kV24 dc24 pm24 an24 cd24 ct24), sl24⟩) (c24 : PySem.W.codeIn K cd24 "bar_of" = true) (k24 : PySem.W.keepIn K (.ref f24) = true)
    (l25 : K.lookup f25 = some ⟨oc25, od25, .func (PySem.W.fnOf "fitting" "fitting" (defArgs st_fitting) (defBody st_fitting) (defScope st_fitting) .none kV25 dc25 pm25 an25 cd25 ct25), sl25⟩) (c25 : PySem.W.codeIn K cd25 "fitting" = true) (k25 : PySem.W.keepIn K (.ref f25) = true)
    (l26 : K.lookup f26 = some ⟨oc26, od26, .func (PySem.W.fnOf "_law_less" "_law_less" (defArgs st__law_less) (defBody st__law_less) (defScope st__law_less) .none kV26 dc26 pm26 an26 cd26 ct26), sl26⟩) (c26 : PySem.W.codeIn K cd26 "_law_less" = true) (k26 : PySem.W.keepIn K (.ref f26) = true)
    (l27 : K.lookup f27 = some ⟨oc27, od27, .func (PySem.W.fnOf "least_time" "least_time" (defArgs st_least_time) (defBody st_least_time) (defScope st_least_time) .none kV27 dc27 pm27 an27 cd27 ct27), sl27⟩) (c27 : PySem.W.codeIn K cd27 "least_time" = true) (k27 : PySem.W.keepIn K (.ref f27) = true)
    (l28 : K.lookup f28 = some ⟨oc28, od28, .func (PySem.W.fnOf "law" "law" (defArgs st_law) (defBody st_law) (defScope st_law) .none kV28 dc28 pm28 an28 cd28 ct28), sl28⟩) (c28 : PySem.W.codeIn K cd28 "law" = true) (k28 : PySem.W.keepIn K (.ref f28) = true)
    (z_any : PySem.W.nsIn K mainGlobals "any" = some none)
    (z_all : PySem.W.nsIn K mainGlobals "all" = some none)
    (z_abs : PySem.W.nsIn K mainGlobals "abs" = some none)
    (z_enumerate : PySem.W.nsIn K mainGlobals "enumerate" = some none)
    (z_int : PySem.W.nsIn K mainGlobals "int" = some none)
    (z_len : PySem.W.nsIn K mainGlobals "len" = some none)
    (z_list : PySem.W.nsIn K mainGlobals "list" = some none)
    (z_max : PySem.W.nsIn K mainGlobals "max" = some none)
    (z_min : PySem.W.nsIn K mainGlobals "min" = some none)
    (z_range : PySem.W.nsIn K mainGlobals "range" = some none)
    (z_set : PySem.W.nsIn K mainGlobals "set" = some none)
    (z_sorted : PySem.W.nsIn K mainGlobals "sorted" = some none)
    (z_sum : PySem.W.nsIn K mainGlobals "sum" = some none)
    (z_tuple : PySem.W.nsIn K mainGlobals "tuple" = some none)
    (z_zip : PySem.W.nsIn K mainGlobals "zip" = some none) :
    ∃ (cm : Str → Addr → Prop) (fd : FuncData), (∀ (s : Shared) (u : Value), BindsTo s fd ⟨[u], []⟩ [("script", u)]) ∧ ∀ base : Heap, K.In base → base.Ns mainGlobals mg → FnOk P w K mg base CX0 10 fa fd ["script"] (spQ K cm 1 law_s) := by
  have e := hfa.symm.trans (PySem.W.mg_of X G a_law)
  cases e
  have B : Bs mg := ⟨PySem.W.mg_none_of X G z_any, PySem.W.mg_none_of X G z_all, PySem.W.mg_none_of X G z_abs, PySem.W.mg_none_of X G z_enumerate, PySem.W.mg_none_of X G z_int, PySem.W.mg_none_of X G z_len, PySem.W.mg_none_of X G z_list, PySem.W.mg_none_of X G z_max, PySem.W.mg_none_of X G z_min, PySem.W.mg_none_of X G z_range, PySem.W.mg_none_of X G z_set, PySem.W.mg_none_of X G z_sorted, PySem.W.mg_none_of X G z_sum, PySem.W.mg_none_of X G z_tuple, PySem.W.mg_none_of X G z_zip⟩
  refine ⟨(fun (c : Str) (C' : Addr) => c = "Giving" ∧ C' = C0), PySem.W.fnOf "law" "law" (defArgs st_law) (defBody st_law) (defScope st_law) .none kV28 dc28 pm28 an28 cd28 ct28, fun s u => .of_eq rfl, fun base _ _ => ?_⟩
  have cl : Cls K C0 := ⟨q1, q2, q3, q4⟩
  have hC : ∀ (c : Str) (C' : Addr), (fun (c : Str) (C' : Addr) => c = "Giving" ∧ C' = C0) c C' → C' = C0 := fun c C' h => h.2
  have hf_count : NoA K (fun (c : Str) (C' : Addr) => c = "Giving" ∧ C' = C0) "count" := fun c C' h => by
    obtain ⟨_, rfl⟩ := h
    exact ⟨cl, n_count⟩
  have hf_near : NoA K (fun (c : Str) (C' : Addr) => c = "Giving" ∧ C' = C0) "near" := fun c C' h => by
    obtain ⟨_, rfl⟩ := h
    exact ⟨cl, n_near⟩
  have hf_good : NoA K (fun (c : Str) (C' : Addr) => c = "Giving" ∧ C' = C0) "good" := fun c C' h => by
    obtain ⟨_, rfl⟩ := h
    exact ⟨cl, n_good⟩
  have hf_costs : NoA K (fun (c : Str) (C' : Addr) => c = "Giving" ∧ C' = C0) "costs" := fun c C' h => by
    obtain ⟨_, rfl⟩ := h
    exact ⟨cl, n_costs⟩
  have hf_limit : NoA K (fun (c : Str) (C' : Addr) => c = "Giving" ∧ C' = C0) "limit" := fun c C' h => by
    obtain ⟨_, rfl⟩ := h
    exact ⟨cl, n_limit⟩
  have hf_places : NoA K (fun (c : Str) (C' : Addr) => c = "Giving" ∧ C' = C0) "places" := fun c C' h => by
    obtain ⟨_, rfl⟩ := h
    exact ⟨cl, n_places⟩
  have hf_best : NoA K (fun (c : Str) (C' : Addr) => c = "Giving" ∧ C' = C0) "best" := fun c C' h => by
    obtain ⟨_, rfl⟩ := h
    exact ⟨cl, n_best⟩
  have G0 := fun_mk (st := st__law_state) l0 c0 k0
  have o0 : FnOk P w K mg base CX0 1 _ _ ["script"] (spP K (fun (c : Str) (C' : Addr) => c = "Giving" ∧ C' = C0) 1 _law_state_s) := ok__law_state B G0 
  have h__law_state : HasFn P w K mg base 1 "_law_state" ["script"] (spP K (fun (c : Str) (C' : Addr) => c = "Giving" ∧ C' = C0) 1 _law_state_s) := HasFn.mk' G0 o0 (PySem.W.mg_of X G a__law_state) (G0.binds fun _ _ _ _ _ _ us hl => match us, hl with | [_], _ => rfl)
  have G1 := fun_mk (st := st__law_take) l1 c1 k1
  have o1 : FnOk P w K mg base CX0 1 _ _ ["state", "most"] (spM K (fun (c : Str) (C' : Addr) => c = "Giving" ∧ C' = C0) 1 _law_take_s) := ok__law_take B G1 
  have h__law_take : HasFn P w K mg base 1 "_law_take" ["state", "most"] (spM K (fun (c : Str) (C' : Addr) => c = "Giving" ∧ C' = C0) 1 _law_take_s) := HasFn.mk' G1 o1 (PySem.W.mg_of X G a__law_take) (G1.binds fun _ _ _ _ _ _ us hl => match us, hl with | [_, _], _ => rfl)
  have G2 := fun_mk (st := st__law_runs) l2 c2 k2
  have o2 : FnOk P w K mg base CX0 2 _ _ ["state"] (spM K (fun (c : Str) (C' : Addr) => c = "Giving" ∧ C' = C0) 0 _law_runs_s) := ok__law_runs B G2 h__law_take
  have h__law_runs : HasFn P w K mg base 2 "_law_runs" ["state"] (spM K (fun (c : Str) (C' : Addr) => c = "Giving" ∧ C' = C0) 0 _law_runs_s) := HasFn.mk' G2 o2 (PySem.W.mg_of X G a__law_runs) (G2.binds fun _ _ _ _ _ _ us hl => match us, hl with | [_], _ => rfl)
  have G3 := fun_mk (st := st__law_row) l3 c3 k3
  have o3 : FnOk P w K mg base CX0 1 _ _ ["character"] (spQ K (fun (c : Str) (C' : Addr) => c = "Giving" ∧ C' = C0) 1 _law_row_s) := ok__law_row B G3 
  have h__law_row : HasFn P w K mg base 1 "_law_row" ["character"] (spQ K (fun (c : Str) (C' : Addr) => c = "Giving" ∧ C' = C0) 1 _law_row_s) := HasFn.mk' G3 o3 (PySem.W.mg_of X G a__law_row) (G3.binds fun _ _ _ _ _ _ us hl => match us, hl with | [_], _ => rfl)
  have G4 := fun_mk (st := st_near_pairs) l4 c4 k4
  have o4 : FnOk P w K mg base CX0 1 _ _ ["places", "reach"] (spQ K (fun (c : Str) (C' : Addr) => c = "Giving" ∧ C' = C0) 2 near_pairs_s) := ok_near_pairs B G4 
  have h_near_pairs : HasFn P w K mg base 1 "near_pairs" ["places", "reach"] (spQ K (fun (c : Str) (C' : Addr) => c = "Giving" ∧ C' = C0) 2 near_pairs_s) := HasFn.mk' G4 o4 (PySem.W.mg_of X G a_near_pairs) (G4.binds fun _ _ _ _ _ _ us hl => match us, hl with | [_, _], _ => rfl)
  have G5 := fun_mk (st := st__law_stretch) l5 c5 k5
  have o5 : FnOk P w K mg base CX0 1 _ _ ["one", "other"] (spQ K (fun (c : Str) (C' : Addr) => c = "Giving" ∧ C' = C0) 2 _law_stretch_s) := ok__law_stretch B G5 
  have h__law_stretch : HasFn P w K mg base 1 "_law_stretch" ["one", "other"] (spQ K (fun (c : Str) (C' : Addr) => c = "Giving" ∧ C' = C0) 2 _law_stretch_s) := HasFn.mk' G5 o5 (PySem.W.mg_of X G a__law_stretch) (G5.binds fun _ _ _ _ _ _ us hl => match us, hl with | [_, _], _ => rfl)
  have G6 := fun_mk (st := st_least_turn) l6 c6 k6
  have o6 : FnOk P w K mg base CX0 1 _ _ ["rhythm"] (spQ K (fun (c : Str) (C' : Addr) => c = "Giving" ∧ C' = C0) 1 least_turn_s) := ok_least_turn B G6 
  have h_least_turn : HasFn P w K mg base 1 "least_turn" ["rhythm"] (spQ K (fun (c : Str) (C' : Addr) => c = "Giving" ∧ C' = C0) 1 least_turn_s) := HasFn.mk' G6 o6 (PySem.W.mg_of X G a_least_turn) (G6.binds fun _ _ _ _ _ _ us hl => match us, hl with | [_], _ => rfl)
  have G7 := fun_mk (st := st_turned) l7 c7 k7
  have o7 : FnOk P w K mg base CX0 1 _ _ ["rhythm", "begin"] (spQ K (fun (c : Str) (C' : Addr) => c = "Giving" ∧ C' = C0) 2 turned_s) := ok_turned B G7 
  have h_turned : HasFn P w K mg base 1 "turned" ["rhythm", "begin"] (spQ K (fun (c : Str) (C' : Addr) => c = "Giving" ∧ C' = C0) 2 turned_s) := HasFn.mk' G7 o7 (PySem.W.mg_of X G a_turned) (G7.binds fun _ _ _ _ _ _ us hl => match us, hl with | [_, _], _ => rfl)
  have G8 := fun_mk (st := st_same_but_for_begin) l8 c8 k8
  have o8 : FnOk P w K mg base CX0 2 _ _ ["one", "other"] (spQ K (fun (c : Str) (C' : Addr) => c = "Giving" ∧ C' = C0) 2 same_but_for_begin_s) := ok_same_but_for_begin B G8 h_least_turn h_turned
  have h_same_but_for_begin : HasFn P w K mg base 2 "same_but_for_begin" ["one", "other"] (spQ K (fun (c : Str) (C' : Addr) => c = "Giving" ∧ C' = C0) 2 same_but_for_begin_s) := HasFn.mk' G8 o8 (PySem.W.mg_of X G a_same_but_for_begin) (G8.binds fun _ _ _ _ _ _ us hl => match us, hl with | [_, _], _ => rfl)
  have G9 := fun_mk (st := st_bound_for) l9 c9 k9
  have o9 : FnOk P w K mg base CX0 2 _ _ ["one", "other"] (spQ K (fun (c : Str) (C' : Addr) => c = "Giving" ∧ C' = C0) 2 bound_for_s) := ok_bound_for B G9 h_least_turn
  have h_bound_for : HasFn P w K mg base 2 "bound_for" ["one", "other"] (spQ K (fun (c : Str) (C' : Addr) => c = "Giving" ∧ C' = C0) 2 bound_for_s) := HasFn.mk' G9 o9 (PySem.W.mg_of X G a_bound_for) (G9.binds fun _ _ _ _ _ _ us hl => match us, hl with | [_, _], _ => rfl)
  have G10 := fun_mk (st := st_at) l10 c10 k10
  have o10 : FnOk P w K mg base CX0 1 _ _ ["rhythm", "tick"] (spQ K (fun (c : Str) (C' : Addr) => c = "Giving" ∧ C' = C0) 2 at_s) := ok_at B G10 
  have h_at : HasFn P w K mg base 1 "at" ["rhythm", "tick"] (spQ K (fun (c : Str) (C' : Addr) => c = "Giving" ∧ C' = C0) 2 at_s) := HasFn.mk' G10 o10 (PySem.W.mg_of X G a_at) (G10.binds fun _ _ _ _ _ _ us hl => match us, hl with | [_, _], _ => rfl)
  have G11 := fun_mk (st := st_stretch_from) l11 c11 k11
  have o11 : FnOk P w K mg base CX0 2 _ _ ["one", "other", "i", "j", "most"] (spQ K (fun (c : Str) (C' : Addr) => c = "Giving" ∧ C' = C0) 5 stretch_from_s) := ok_stretch_from B G11 h_at
  have h_stretch_from : HasFn P w K mg base 2 "stretch_from" ["one", "other", "i", "j", "most"] (spQ K (fun (c : Str) (C' : Addr) => c = "Giving" ∧ C' = C0) 5 stretch_from_s) := HasFn.mk' G11 o11 (PySem.W.mg_of X G a_stretch_from) (G11.binds fun _ _ _ _ _ _ us hl => match us, hl with | [_, _, _, _, _], _ => rfl)
  have G12 := fun_mk (st := st_common) l12 c12 k12
  have o12 : FnOk P w K mg base CX0 3 _ _ ["one", "other"] (spQ K (fun (c : Str) (C' : Addr) => c = "Giving" ∧ C' = C0) 2 common_s) := ok_common B G12 h_same_but_for_begin h_bound_for h_least_turn h_stretch_from
  have h_common : HasFn P w K mg base 3 "common" ["one", "other"] (spQ K (fun (c : Str) (C' : Addr) => c = "Giving" ∧ C' = C0) 2 common_s) := HasFn.mk' G12 o12 (PySem.W.mg_of X G a_common) (G12.binds fun _ _ _ _ _ _ us hl => match us, hl with | [_, _], _ => rfl)
  have G13 := fun_mk (st := st_told_apart) l13 c13 k13
  have o13 : FnOk P w K mg base CX0 4 _ _ ["rhythms", "time"] (spQ K (fun (c : Str) (C' : Addr) => c = "Giving" ∧ C' = C0) 2 told_apart_s) := ok_told_apart B G13 h_common
  have h_told_apart : HasFn P w K mg base 4 "told_apart" ["rhythms", "time"] (spQ K (fun (c : Str) (C' : Addr) => c = "Giving" ∧ C' = C0) 2 told_apart_s) := HasFn.mk' G13 o13 (PySem.W.mg_of X G a_told_apart) (G13.binds fun _ _ _ _ _ _ us hl => match us, hl with | [_, _], _ => rfl)
  have G14 := fun_mk (st := st__law_choices) l14 c14 k14
  have o14 : FnOk P w K mg base CX0 1 _ _ ["many", "count"] (spQ K (fun (c : Str) (C' : Addr) => c = "Giving" ∧ C' = C0) 2 _law_choices_s) := ok__law_choices B G14 
  have h__law_choices : HasFn P w K mg base 1 "_law_choices" ["many", "count"] (spQ K (fun (c : Str) (C' : Addr) => c = "Giving" ∧ C' = C0) 2 _law_choices_s) := HasFn.mk' G14 o14 (PySem.W.mg_of X G a__law_choices) (G14.binds fun _ _ _ _ _ _ us hl => match us, hl with | [_, _], _ => rfl)
  have G15 := fun_mk (st := st_Giving_init) l15 c15 k15
  have o15 : FnOk P w K mg base CX0 1 _ _ ["self", "count", "near", "good", "costs", "limit"] (spM K (fun (c : Str) (C' : Addr) => c = "Giving" ∧ C' = C0) 5 Giving_init_s) := ok_Giving_init B G15 hf_count hf_near hf_good hf_costs hf_limit hf_places hf_best
  have h_Giving : HasMk P w K mg base (fun (c : Str) (C' : Addr) => c = "Giving" ∧ C' = C0) 1 "Giving" "Giving" ["self", "count", "near", "good", "costs", "limit"] (spM K (fun (c : Str) (C' : Addr) => c = "Giving" ∧ C' = C0) 5 Giving_init_s) := ⟨C0, _, _, ⟨rfl, rfl⟩, ⟨m1, e_Giving_init, i_Giving_init, m2⟩, o15, PySem.W.mg_of X G aC, (G15.binds fun _ _ _ _ _ _ us hl => match us, hl with | [_, _, _, _, _, _], _ => rfl)⟩
  have G16 := fun_mk (st := st_clash_with) l16 c16 k16
  have o16 : FnOk P w K mg base CX0 1 _ _ ["near", "good", "choice", "mark", "rhythm"] (spQ K (fun (c : Str) (C' : Addr) => c = "Giving" ∧ C' = C0) 5 clash_with_s) := ok_clash_with B G16 
  have h_clash_with : HasFn P w K mg base 1 "clash_with" ["near", "good", "choice", "mark", "rhythm"] (spQ K (fun (c : Str) (C' : Addr) => c = "Giving" ∧ C' = C0) 5 clash_with_s) := HasFn.mk' G16 o16 (PySem.W.mg_of X G a_clash_with) (G16.binds fun _ _ _ _ _ _ us hl => match us, hl with | [_, _, _, _, _], _ => rfl)
  have G17 := fun_mk (st := st_Giving_step) l17 c17 k17
  have o17 : FnOk P w K mg base CX0 1 _ _ ["self"] (spM K (fun (c : Str) (C' : Addr) => c = "Giving" ∧ C' = C0) 0 Giving_step_s) := ok_Giving_step B G17 hf_places hf_limit
  have h_Giving_step : HasMeth P w K mg base (fun (c : Str) (C' : Addr) => c = "Giving" ∧ C' = C0) 1 "step" ["self"] (spM K (fun (c : Str) (C' : Addr) => c = "Giving" ∧ C' = C0) 0 Giving_step_s) := ⟨C0, _, _, hC, cl, ⟨e_Giving_step, i_Giving_step, k17⟩, o17, (G17.binds fun _ _ _ _ _ _ us hl => match us, hl with | [_], _ => rfl)⟩
  have G18 := fun_mk (st := st_Giving_go) l18 c18 k18
  have b18 : Binds K _ ["self", "choice", "cost"] [] := (G18.binds fun _ _ _ _ _ _ us hl => match us, hl with | [_, _, _], _ => rfl)
  have t18 : Meth K C0 "go" _ := ⟨e_Giving_go, i_Giving_go, k18⟩
  have o18 : FnOk P w K mg base CX0 7 _ _ ["self", "choice", "cost"] (spM K (fun (c : Str) (C' : Addr) => c = "Giving" ∧ C' = C0) 2 (Giving_go_s 6)) := ok_Giving_go B G18 hC cl t18 b18 hf_best hf_count hf_costs hf_good hf_near h_clash_with h_Giving_step 6
  have h_Giving_go : HasMeth P w K mg base (fun (c : Str) (C' : Addr) => c = "Giving" ∧ C' = C0) 7 "go" ["self", "choice", "cost"] (spM K (fun (c : Str) (C' : Addr) => c = "Giving" ∧ C' = C0) 2 (Giving_go_s 6)) := ⟨C0, _, _, hC, cl, ⟨e_Giving_go, i_Giving_go, k18⟩, o18, (G18.binds fun _ _ _ _ _ _ us hl => match us, hl with | [_, _, _], _ => rfl)⟩
  have G19 := fun_mk (st := st_Giving_tree) l19 c19 k19
  have b19 : Binds K _ ["self", "choice", "cost", "bound"] [] := (G19.binds fun _ _ _ _ _ _ us hl => match us, hl with | [_, _, _, _], _ => rfl)
  have t19 : Meth K C0 "tree" _ := ⟨e_Giving_tree, i_Giving_tree, k19⟩
  have o19 : FnOk P w K mg base CX0 7 _ _ ["self", "choice", "cost", "bound"] (spM K (fun (c : Str) (C' : Addr) => c = "Giving" ∧ C' = C0) 3 (Giving_tree_s 6)) := ok_Giving_tree B G19 hC cl t19 b19 hf_costs hf_good hf_near h_clash_with 6
  have h_Giving_tree : HasMeth P w K mg base (fun (c : Str) (C' : Addr) => c = "Giving" ∧ C' = C0) 7 "tree" ["self", "choice", "cost", "bound"] (spM K (fun (c : Str) (C' : Addr) => c = "Giving" ∧ C' = C0) 3 (Giving_tree_s 6)) := ⟨C0, _, _, hC, cl, ⟨e_Giving_tree, i_Giving_tree, k19⟩, o19, (G19.binds fun _ _ _ _ _ _ us hl => match us, hl with | [_, _, _, _], _ => rfl)⟩
  have G20 := fun_mk (st := st_choice_of) l20 c20 k20
  have o20 : FnOk P w K mg base CX0 8 _ _ ["count", "near", "good", "costs", "limit"] (spQ K (fun (c : Str) (C' : Addr) => c = "Giving" ∧ C' = C0) 5 choice_of_s) := ok_choice_of B G20 hf_best h_Giving_go h_Giving_tree h_Giving
  have h_choice_of : HasFn P w K mg base 8 "choice_of" ["count", "near", "good", "costs", "limit"] (spQ K (fun (c : Str) (C' : Addr) => c = "Giving" ∧ C' = C0) 5 choice_of_s) := HasFn.mk' G20 o20 (PySem.W.mg_of X G a_choice_of) (G20.binds fun _ _ _ _ _ _ us hl => match us, hl with | [_, _, _, _, _], _ => rfl)
  have G21 := fun_mk (st := st_Giving_path) l21 c21 k21
  have b21 : Binds K _ ["self", "choice", "cost", "bound", "tree"] [] := (G21.binds fun _ _ _ _ _ _ us hl => match us, hl with | [_, _, _, _, _], _ => rfl)
  have t21 : Meth K C0 "path" _ := ⟨e_Giving_path, i_Giving_path, k21⟩
  have o21 : FnOk P w K mg base CX0 6 _ _ ["self", "choice", "cost", "bound", "tree"] (spM K (fun (c : Str) (C' : Addr) => c = "Giving" ∧ C' = C0) 4 (Giving_path_s 6)) := ok_Giving_path B G21 hC cl t21 b21 hf_costs hf_count hf_near hf_good 6
  have h_Giving_path : HasMeth P w K mg base (fun (c : Str) (C' : Addr) => c = "Giving" ∧ C' = C0) 6 "path" ["self", "choice", "cost", "bound", "tree"] (spM K (fun (c : Str) (C' : Addr) => c = "Giving" ∧ C' = C0) 4 (Giving_path_s 6)) := ⟨C0, _, _, hC, cl, ⟨e_Giving_path, i_Giving_path, k21⟩, o21, (G21.binds fun _ _ _ _ _ _ us hl => match us, hl with | [_, _, _, _, _], _ => rfl)⟩
  have G22 := fun_mk (st := st_choice_fault) l22 c22 k22
  have o22 : FnOk P w K mg base CX0 7 _ _ ["count", "near", "good", "costs", "told"] (spQ K (fun (c : Str) (C' : Addr) => c = "Giving" ∧ C' = C0) 5 choice_fault_s) := ok_choice_fault B G22 h_clash_with h_Giving_path h_Giving
  have h_choice_fault : HasFn P w K mg base 7 "choice_fault" ["count", "near", "good", "costs", "told"] (spQ K (fun (c : Str) (C' : Addr) => c = "Giving" ∧ C' = C0) 5 choice_fault_s) := HasFn.mk' G22 o22 (PySem.W.mg_of X G a_choice_fault) (G22.binds fun _ _ _ _ _ _ us hl => match us, hl with | [_, _, _, _, _], _ => rfl)
  have G23 := fun_mk (st := st_starts_of) l23 c23 k23
  have o23 : FnOk P w K mg base CX0 2 _ _ ["rhythms"] (spQ K (fun (c : Str) (C' : Addr) => c = "Giving" ∧ C' = C0) 1 starts_of_s) := ok_starts_of B G23 h_least_turn
  have h_starts_of : HasFn P w K mg base 2 "starts_of" ["rhythms"] (spQ K (fun (c : Str) (C' : Addr) => c = "Giving" ∧ C' = C0) 1 starts_of_s) := HasFn.mk' G23 o23 (PySem.W.mg_of X G a_starts_of) (G23.binds fun _ _ _ _ _ _ us hl => match us, hl with | [_], _ => rfl)
  have G24 := fun_mk (st := st_bar_of) l24 c24 k24
  have o24 : FnOk P w K mg base CX0 2 _ _ ["rhythm", "begin", "heard"] (spQ K (fun (c : Str) (C' : Addr) => c = "Giving" ∧ C' = C0) 3 bar_of_s) := ok_bar_of B G24 h_at
  have h_bar_of : HasFn P w K mg base 2 "bar_of" ["rhythm", "begin", "heard"] (spQ K (fun (c : Str) (C' : Addr) => c = "Giving" ∧ C' = C0) 3 bar_of_s) := HasFn.mk' G24 o24 (PySem.W.mg_of X G a_bar_of) (G24.binds fun _ _ _ _ _ _ us hl => match us, hl with | [_, _, _], _ => rfl)
  have G25 := fun_mk (st := st_fitting) l25 c25 k25
  have o25 : FnOk P w K mg base CX0 3 _ _ ["rhythms", "heard"] (spQ K (fun (c : Str) (C' : Addr) => c = "Giving" ∧ C' = C0) 2 fitting_s) := ok_fitting B G25 h_starts_of h_bar_of
  have h_fitting : HasFn P w K mg base 3 "fitting" ["rhythms", "heard"] (spQ K (fun (c : Str) (C' : Addr) => c = "Giving" ∧ C' = C0) 2 fitting_s) := HasFn.mk' G25 o25 (PySem.W.mg_of X G a_fitting) (G25.binds fun _ _ _ _ _ _ us hl => match us, hl with | [_, _], _ => rfl)
  have G26 := fun_mk (st := st__law_less) l26 c26 k26
  have o26 : FnOk P w K mg base CX0 1 _ _ ["stretch", "most"] (spQ K (fun (c : Str) (C' : Addr) => c = "Giving" ∧ C' = C0) 2 _law_less_s) := ok__law_less B G26 
  have h__law_less : HasFn P w K mg base 1 "_law_less" ["stretch", "most"] (spQ K (fun (c : Str) (C' : Addr) => c = "Giving" ∧ C' = C0) 2 _law_less_s) := HasFn.mk' G26 o26 (PySem.W.mg_of X G a__law_less) (G26.binds fun _ _ _ _ _ _ us hl => match us, hl with | [_, _], _ => rfl)
  have G27 := fun_mk (st := st_least_time) l27 c27 k27
  have o27 : FnOk P w K mg base CX0 9 _ _ ["count", "near", "rhythms", "limit"] (spQ K (fun (c : Str) (C' : Addr) => c = "Giving" ∧ C' = C0) 4 least_time_s) := ok_least_time B G27 h_common h_told_apart h_choice_of
  have h_least_time : HasFn P w K mg base 9 "least_time" ["count", "near", "rhythms", "limit"] (spQ K (fun (c : Str) (C' : Addr) => c = "Giving" ∧ C' = C0) 4 least_time_s) := HasFn.mk' G27 o27 (PySem.W.mg_of X G a_least_time) (G27.binds fun _ _ _ _ _ _ us hl => match us, hl with | [_, _, _, _], _ => rfl)
  have G28 := fun_mk (st := st_law) l28 c28 k28
  have o28 : FnOk P w K mg base CX0 10 _ _ ["script"] (spQ K (fun (c : Str) (C' : Addr) => c = "Giving" ∧ C' = C0) 1 law_s) := ok_law B G28 h__law_state h__law_take h__law_runs h__law_row h_near_pairs h__law_stretch h_told_apart h_common h__law_choices h_choice_of h_choice_fault h_fitting h__law_less h_least_time
  exact o28
end HW

open PySem PySem.W PyProof.Rows
set_option maxHeartbeats 0 in
theorem PySem.Challenge.cw_hornwright_k51_rhythms_given_and_heard_holds : PySem.Challenge.rw_hornwright_k51_rhythms_given_and_heard.Holds := by
  w_on; o_law; k_head; (case hw => w_witness2)
  k_fill
  refine HW.walk_law (l := PySem.Challenge.rw_hornwright_k51_rhythms_given_and_heard) (n := 63) (k := 10) (x := "script") HW.law_s (fun ns _ => HW.law_sem ns) rfl (by decide) rfl ⟨rfl, by decide, by decide⟩ (fun w h Y => PySem.W.kIn_of Y) ?F
  case F =>
    intro w mg fa h KX G hmg
    refine' HW.all_mk KX G hmg ?a__law_take ?a_least_turn ?a_turned ?a_at ?a_same_but_for_begin ?a_bound_for ?a_stretch_from ?a_common ?a_clash_with ?a_starts_of ?a_bar_of ?a_told_apart ?a_choice_of ?a__law_state ?a__law_runs ?a__law_row ?a_near_pairs ?a__law_stretch ?a__law_choices ?a_choice_fault ?a_fitting ?a__law_less ?a_least_time ?a_law ?aC ?m1 ?m2 ?q1 ?q2 ?q3 ?q4 ?e_Giving_init ?i_Giving_init ?e_Giving_step ?i_Giving_step ?e_Giving_go ?i_Giving_go ?e_Giving_tree ?i_Giving_tree ?e_Giving_path ?i_Giving_path ?n_count ?n_near ?n_good ?n_costs ?n_limit ?n_places ?n_best ?l0 ?c0 ?k0 ?l1 ?c1 ?k1 ?l2 ?c2 ?k2 ?l3 ?c3 ?k3 ?l4 ?c4 ?k4 ?l5 ?c5 ?k5 ?l6 ?c6 ?k6 ?l7 ?c7 ?k7 ?l8 ?c8 ?k8 ?l9 ?c9 ?k9 ?l10 ?c10 ?k10 ?l11 ?c11 ?k11 ?l12 ?c12 ?k12 ?l13 ?c13 ?k13 ?l14 ?c14 ?k14 ?l15 ?c15 ?k15 ?l16 ?c16 ?k16 ?l17 ?c17 ?k17 ?l18 ?c18 ?k18 ?l19 ?c19 ?k19 ?l20 ?c20 ?k20 ?l21 ?c21 ?k21 ?l22 ?c22 ?k22 ?l23 ?c23 ?k23 ?l24 ?c24 ?k24 ?l25 ?c25 ?k25 ?l26 ?c26 ?k26 ?l27 ?c27 ?k27 ?l28 ?c28 ?k28 ?z_any ?z_all ?z_abs ?z_enumerate ?z_int ?z_len ?z_list ?z_max ?z_min ?z_range ?z_set ?z_sorted ?z_sum ?z_tuple ?z_zip
    (case a__law_take => k_is); (case a_least_turn => k_is); (case a_turned => k_is); (case a_at => k_is); (case a_same_but_for_begin => k_is); (case a_bound_for => k_is); (case a_stretch_from => k_is); (case a_common => k_is)
    (case a_clash_with => k_is); (case a_starts_of => k_is); (case a_bar_of => k_is); (case a_told_apart => k_is); (case a_choice_of => k_is); (case a__law_state => k_is); (case a__law_runs => k_is); (case a__law_row => k_is)
    (case a_near_pairs => k_is); (case a__law_stretch => k_is); (case a__law_choices => k_is); (case a_choice_fault => k_is); (case a_fitting => k_is); (case a__law_less => k_is); (case a_least_time => k_is); (case a_law => k_is)
    (case aC => k_is); (case m1 => k_is); (case m2 => k_is); (case q1 => k_is); (case q2 => k_is); (case q3 => k_is); (case q4 => k_is); (case e_Giving_init => k_is)
    (case i_Giving_init => k_is); (case e_Giving_step => k_is); (case i_Giving_step => k_is); (case e_Giving_go => k_is); (case i_Giving_go => k_is); (case e_Giving_tree => k_is); (case i_Giving_tree => k_is); (case e_Giving_path => k_is)
    (case i_Giving_path => k_is); (case n_count => k_is); (case n_near => k_is); (case n_good => k_is); (case n_costs => k_is); (case n_limit => k_is); (case n_places => k_is); (case n_best => k_is)
    (case l0 => k_is); (case c0 => k_is); (case k0 => k_is); (case l1 => k_is); (case c1 => k_is); (case k1 => k_is); (case l2 => k_is); (case c2 => k_is)
    (case k2 => k_is); (case l3 => k_is); (case c3 => k_is); (case k3 => k_is); (case l4 => k_is); (case c4 => k_is); (case k4 => k_is); (case l5 => k_is)
    (case c5 => k_is); (case k5 => k_is); (case l6 => k_is); (case c6 => k_is); (case k6 => k_is); (case l7 => k_is); (case c7 => k_is); (case k7 => k_is)
    (case l8 => k_is); (case c8 => k_is); (case k8 => k_is); (case l9 => k_is); (case c9 => k_is); (case k9 => k_is); (case l10 => k_is); (case c10 => k_is)
    (case k10 => k_is); (case l11 => k_is); (case c11 => k_is); (case k11 => k_is); (case l12 => k_is); (case c12 => k_is); (case k12 => k_is); (case l13 => k_is)
    (case c13 => k_is); (case k13 => k_is); (case l14 => k_is); (case c14 => k_is); (case k14 => k_is); (case l15 => k_is); (case c15 => k_is); (case k15 => k_is)
    (case l16 => k_is); (case c16 => k_is); (case k16 => k_is); (case l17 => k_is); (case c17 => k_is); (case k17 => k_is); (case l18 => k_is); (case c18 => k_is)
    (case k18 => k_is); (case l19 => k_is); (case c19 => k_is); (case k19 => k_is); (case l20 => k_is); (case c20 => k_is); (case k20 => k_is); (case l21 => k_is)
    (case c21 => k_is); (case k21 => k_is); (case l22 => k_is); (case c22 => k_is); (case k22 => k_is); (case l23 => k_is); (case c23 => k_is); (case k23 => k_is)
    (case l24 => k_is); (case c24 => k_is); (case k24 => k_is); (case l25 => k_is); (case c25 => k_is); (case k25 => k_is); (case l26 => k_is); (case c26 => k_is)
    (case k26 => k_is); (case l27 => k_is); (case c27 => k_is); (case k27 => k_is); (case l28 => k_is); (case c28 => k_is); (case k28 => k_is); (case z_any => k_is)
    (case z_all => k_is); (case z_abs => k_is); (case z_enumerate => k_is); (case z_int => k_is); (case z_len => k_is); (case z_list => k_is); (case z_max => k_is); (case z_min => k_is)
    (case z_range => k_is); (case z_set => k_is); (case z_sorted => k_is); (case z_sum => k_is); (case z_tuple => k_is); (case z_zip => k_is)
