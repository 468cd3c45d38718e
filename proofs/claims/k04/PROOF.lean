import PyProof.Rows.All
import Wide.All
import OpenK.AllK
import Wide.FinOn
import HandS.ForMost
import HandS.IsInst
import HandS.Deep
import HandS.Style
import HandS.SortInts
import HandS.TupAny
import HandS.HeadHook3
import HandS.Conv
import PySem.Challenge.RW_plotfree_k04_plots_opened_and_given
set_option Elab.async false
set_option linter.all false
set_option maxRecDepth 100000
set_option maxHeartbeats 4000000
/-! DL1: values as trees; what stands for them in the abstract heap. -/
namespace DL
open PySem L2

/-- data: flat things, the script, tuples, lists, dicts with keys ints and texts, instances (the class by number) -/
inductive D where
  | non | bl (b : Bool) | int (i : Int) | str (x : Str)
  | scr (ns : List Int) | tup (xs : List D) | lst (xs : List D) | dic (kvs : List (Key × D)) | ins (c : Nat) (fs : List (Str × D))

/-- what the relations lean on: the written part, the classes' addresses by number -/
structure Ga where
  K : PySem.W.Frag
  cm : Nat → Addr

mutual
def Is (Γ : Ga) (H : Hp) : D → V → Prop
  | .non, v => v = .non
  | .bl b, v => v = .bl b
  | .int i, v => v = .int i
  | .str x, v => v = .str x
  | .tup ds, v => ∃ a vs, v = .ref a ∧ H a = some (.tup vs) ∧ Iss Γ H ds vs
  | .scr ns, v => ∃ a, v = .ref a ∧ SqL Γ.K H a (ns.map V.int)
  | .lst ds, v => ∃ a vs, v = .ref a ∧ H a = some (.lst vs) ∧ Iss Γ H ds vs
  | .dic kvs, v => ∃ a vs, v = .ref a ∧ H a = some (.dK vs) ∧ IsK Γ H kvs vs
  | .ins c fs, v => ∃ a dx vs, v = .ref a ∧ H a = some (.ins (Γ.cm c) dx vs) ∧ IsF Γ H fs vs
def Iss (Γ : Ga) (H : Hp) : List D → List V → Prop
  | [], vs => vs = []
  | d :: ds, vs => ∃ v r, vs = v :: r ∧ Is Γ H d v ∧ Iss Γ H ds r
def IsK (Γ : Ga) (H : Hp) : List (Key × D) → List (Key × V) → Prop
  | [], vs => vs = []
  | (k, d) :: ds, vs => ∃ v r, vs = (k, v) :: r ∧ Is Γ H d v ∧ IsK Γ H ds r
def IsF (Γ : Ga) (H : Hp) : List (Str × D) → List (Str × V) → Prop
  | [], vs => vs = []
  | (k, d) :: ds, vs => ∃ v r, vs = (k, v) :: r ∧ Is Γ H d v ∧ IsF Γ H ds r
end

mutual
theorem Is.mono {Γ : Ga} {H H' : Hp} (e : Same H H') : ∀ {d : D} {v : V}, Is Γ H d v → Is Γ H' d v
  | .non, _, h => h
  | .bl _, _, h => h
  | .int _, _, h => h
  | .str _, _, h => h
  | .tup ds, v, h => by
    obtain ⟨a, vs, e1, h1, h2⟩ := h
    exact ⟨a, vs, e1, e _ _ h1, Iss.mono e h2⟩
  | .scr ns, v, h => by
    obtain ⟨a, e1, h1⟩ := h
    exact ⟨a, e1, e.seq h1⟩
  | .lst ds, v, h => by
    obtain ⟨a, vs, e1, h1, h2⟩ := h
    exact ⟨a, vs, e1, e _ _ h1, Iss.mono e h2⟩
  | .dic kvs, v, h => by
    obtain ⟨a, vs, e1, h1, h2⟩ := h
    exact ⟨a, vs, e1, e _ _ h1, IsK.mono e h2⟩
  | .ins c fs, v, h => by
    obtain ⟨a, dx, vs, e1, h1, h2⟩ := h
    exact ⟨a, dx, vs, e1, e _ _ h1, IsF.mono e h2⟩
theorem Iss.mono {Γ : Ga} {H H' : Hp} (e : Same H H') : ∀ {d : List D} {v : List V}, Iss Γ H d v → Iss Γ H' d v
  | [], _, h => h
  | d :: ds, v, h => by
    obtain ⟨a, vs, e1, h1, h2⟩ := h
    exact ⟨a, vs, e1, Is.mono e h1, Iss.mono e h2⟩
theorem IsK.mono {Γ : Ga} {H H' : Hp} (e : Same H H') : ∀ {d : List (Key × D)} {v : List (Key × V)}, IsK Γ H d v → IsK Γ H' d v
  | [], _, h => h
  | (k, d) :: ds, v, h => by
    obtain ⟨a, vs, e1, h1, h2⟩ := h
    exact ⟨a, vs, e1, Is.mono e h1, IsK.mono e h2⟩
theorem IsF.mono {Γ : Ga} {H H' : Hp} (e : Same H H') : ∀ {d : List (Str × D)} {v : List (Str × V)}, IsF Γ H d v → IsF Γ H' d v
  | [], _, h => h
  | (k, d) :: ds, v, h => by
    obtain ⟨a, vs, e1, h1, h2⟩ := h
    exact ⟨a, vs, e1, Is.mono e h1, IsF.mono e h2⟩
end

/-- the tuples of a heap alone -/
def tupOf (H : Hp) : Hp := fun a => match H a with
  | some (.tup xs) => some (.tup xs)
  | _ => none
theorem tupOf_some {H : Hp} {a : Addr} {o : HO} (h : tupOf H a = some o) : H a = some o ∧ ∃ xs, o = .tup xs := by
  unfold tupOf at h
  split at h
  · rename_i xs e
    cases h
    exact ⟨e, xs, rfl⟩
  · cases h
theorem tupOf_tup {H : Hp} {a : Addr} {xs : List V} (h : H a = some (.tup xs)) : tupOf H a = some (.tup xs) := by
  unfold tupOf
  rw [h]
theorem tupOf_same {H : Hp} : Same (tupOf H) H := fun _ _ h => (tupOf_some h).1
theorem tupOf_mono {H H' : Hp} (e : ∀ a xs, H a = some (.tup xs) → H' a = some (.tup xs)) : Same (tupOf H) (tupOf H') := fun a o h => by
  obtain ⟨h1, xs, rfl⟩ := tupOf_some h
  exact tupOf_tup (e a xs h1)

mutual
/-- nothing in it that can be changed -/
def flat : D → Bool
  | .non | .bl _ | .int _ | .str _ => true
  | .tup ds => flats ds
  | _ => false
def flats : List D → Bool
  | [] => true
  | d :: ds => flat d && flats ds
end
mutual
theorem Is.ofFlat {Γ : Ga} {H : Hp} : ∀ {d : D} {v : V}, flat d = true → Is Γ H d v → Is Γ (tupOf H) d v
  | .non, _, _, h => h
  | .bl _, _, _, h => h
  | .int _, _, _, h => h
  | .str _, _, _, h => h
  | .tup ds, v, f, h => by
    obtain ⟨a, vs, e1, h1, h2⟩ := h
    refine ⟨a, vs, e1, ?_, Iss.ofFlat (by rw [flat] at f; exact f) h2⟩
    exact tupOf_tup h1
  | .scr _, _, f, _ => by simp [flat] at f
  | .lst _, _, f, _ => by simp [flat] at f
  | .dic _, _, f, _ => by simp [flat] at f
  | .ins _ _, _, f, _ => by simp [flat] at f
theorem Iss.ofFlat {Γ : Ga} {H : Hp} : ∀ {d : List D} {v : List V}, flats d = true → Iss Γ H d v → Iss Γ (tupOf H) d v
  | [], _, _, h => h
  | d :: ds, v, f, h => by
    rw [flats, Bool.and_eq_true] at f
    obtain ⟨a, vs, e1, h1, h2⟩ := h
    exact ⟨a, vs, e1, Is.ofFlat f.1 h1, Iss.ofFlat f.2 h2⟩
end
end DL

/-! DL2: trees that are owned: their addresses, the way to a part, the part exchanged. -/
namespace DL
open PySem L2

/-- all tuples are kept -/
def TupK (H H' : Hp) : Prop := ∀ a xs, H a = some (.tup xs) → H' a = some (.tup xs)
theorem TupK.refl (H : Hp) : TupK H H := fun _ _ h => h
theorem TupK.trans {H H1 H2 : Hp} (a : TupK H H1) (b : TupK H1 H2) : TupK H H2 := fun c o h => b c o (a c o h)
theorem TupK.of {H H' : Hp} (e : Same H H') : TupK H H' := fun _ _ h => e _ _ h
theorem TupK.same {H H' : Hp} (e : TupK H H') : Same (tupOf H) (tupOf H') := tupOf_mono e
theorem TupK.upd {H : Hp} {a : Addr} {o : HO} (h : ∀ xs, H a ≠ some (.tup xs)) : TupK H (upd H a o) := fun b xs e => by
  rw [upd_ne]
  · exact e
  · rintro rfl
    exact h xs e

mutual
def Own (Γ : Ga) (H : Hp) : D → V → List Addr → Prop
  | .non, v, fp => v = .non ∧ fp = []
  | .bl b, v, fp => v = .bl b ∧ fp = []
  | .int i, v, fp => v = .int i ∧ fp = []
  | .str x, v, fp => v = .str x ∧ fp = []
  | .tup ds, v, fp => Is Γ (tupOf H) (.tup ds) v ∧ fp = []
  | .scr _, _, _ => False
  | .lst ds, v, fp => ∃ a vs fq, v = .ref a ∧ H a = some (.lst vs) ∧ Owns Γ H ds vs fq ∧ fp = a :: fq
  | .dic kvs, v, fp => ∃ a vs fq, v = .ref a ∧ H a = some (.dK vs) ∧ OwnK Γ H kvs vs fq ∧ fp = a :: fq
  | .ins c fs, v, fp => ∃ a dx vs fq, v = .ref a ∧ H a = some (.ins (Γ.cm c) dx vs) ∧ OwnF Γ H fs vs fq ∧ fp = a :: fq
def Owns (Γ : Ga) (H : Hp) : List D → List V → List Addr → Prop
  | [], vs, fp => vs = [] ∧ fp = []
  | d :: ds, vs, fp => ∃ v r f1 f2, vs = v :: r ∧ Own Γ H d v f1 ∧ Owns Γ H ds r f2 ∧ fp = f1 ++ f2
def OwnK (Γ : Ga) (H : Hp) : List (Key × D) → List (Key × V) → List Addr → Prop
  | [], vs, fp => vs = [] ∧ fp = []
  | (k, d) :: ds, vs, fp => ∃ v r f1 f2, vs = (k, v) :: r ∧ Own Γ H d v f1 ∧ OwnK Γ H ds r f2 ∧ fp = f1 ++ f2
def OwnF (Γ : Ga) (H : Hp) : List (Str × D) → List (Str × V) → List Addr → Prop
  | [], vs, fp => vs = [] ∧ fp = []
  | (k, d) :: ds, vs, fp => ∃ v r f1 f2, vs = (k, v) :: r ∧ Own Γ H d v f1 ∧ OwnF Γ H ds r f2 ∧ fp = f1 ++ f2
end

/- what stands in a region that has the tree's own objects and all tuples -/
mutual
theorem Own.isIn {Γ : Ga} {H R : Hp} (ht : Same (tupOf H) R) : ∀ {d : D} {v : V} {fp : List Addr}, (∀ a ∈ fp, R a = H a) → Own Γ H d v fp → Is Γ R d v
  | .non, _, _, _, h => h.1
  | .bl _, _, _, _, h => h.1
  | .int _, _, _, _, h => h.1
  | .str _, _, _, _, h => h.1
  | .tup _, _, _, _, h => Is.mono ht h.1
  | .scr _, _, _, _, h => nomatch (h : False)
  | .lst _, _, _, hf, ⟨a, vs, fq, e, h1, h2, ef⟩ => by
    subst ef
    exact ⟨a, vs, e, by rw [hf a (by simp), h1], Owns.isIn ht (fun b hb => hf b (by simp [hb])) h2⟩
  | .dic _, _, _, hf, ⟨a, vs, fq, e, h1, h2, ef⟩ => by
    subst ef
    exact ⟨a, vs, e, by rw [hf a (by simp), h1], OwnK.isIn ht (fun b hb => hf b (by simp [hb])) h2⟩
  | .ins _ _, _, _, hf, ⟨a, dx, vs, fq, e, h1, h2, ef⟩ => by
    subst ef
    exact ⟨a, dx, vs, e, by rw [hf a (by simp), h1], OwnF.isIn ht (fun b hb => hf b (by simp [hb])) h2⟩
theorem Owns.isIn {Γ : Ga} {H R : Hp} (ht : Same (tupOf H) R) : ∀ {d : List D} {v : List V} {fp : List Addr}, (∀ a ∈ fp, R a = H a) → Owns Γ H d v fp → Iss Γ R d v
  | [], _, _, _, h => h.1
  | _ :: _, _, _, hf, ⟨v, r, f1, f2, e, h1, h2, ef⟩ => by
    subst ef
    exact ⟨v, r, e, Own.isIn ht (fun b hb => hf b (by simp [hb])) h1, Owns.isIn ht (fun b hb => hf b (by simp [hb])) h2⟩
theorem OwnK.isIn {Γ : Ga} {H R : Hp} (ht : Same (tupOf H) R) : ∀ {d : List (Key × D)} {v : List (Key × V)} {fp : List Addr}, (∀ a ∈ fp, R a = H a) → OwnK Γ H d v fp → IsK Γ R d v
  | [], _, _, _, h => h.1
  | (_, _) :: _, _, _, hf, ⟨v, r, f1, f2, e, h1, h2, ef⟩ => by
    subst ef
    exact ⟨v, r, e, Own.isIn ht (fun b hb => hf b (by simp [hb])) h1, OwnK.isIn ht (fun b hb => hf b (by simp [hb])) h2⟩
theorem OwnF.isIn {Γ : Ga} {H R : Hp} (ht : Same (tupOf H) R) : ∀ {d : List (Str × D)} {v : List (Str × V)} {fp : List Addr}, (∀ a ∈ fp, R a = H a) → OwnF Γ H d v fp → IsF Γ R d v
  | [], _, _, _, h => h.1
  | (_, _) :: _, _, _, hf, ⟨v, r, f1, f2, e, h1, h2, ef⟩ => by
    subst ef
    exact ⟨v, r, e, Own.isIn ht (fun b hb => hf b (by simp [hb])) h1, OwnF.isIn ht (fun b hb => hf b (by simp [hb])) h2⟩
end
theorem Own.is {Γ : Ga} {H : Hp} {d : D} {v : V} {fp : List Addr} (h : Own Γ H d v fp) : Is Γ H d v := h.isIn tupOf_same fun _ _ => rfl

mutual
theorem Own.keep {Γ : Ga} {H H' : Hp} (ht : TupK H H') : ∀ {d : D} {v : V} {fp : List Addr}, (∀ a ∈ fp, H' a = H a) → Own Γ H d v fp → Own Γ H' d v fp
  | .non, _, _, _, h => h
  | .bl _, _, _, _, h => h
  | .int _, _, _, _, h => h
  | .str _, _, _, _, h => h
  | .tup _, _, _, _, h => ⟨Is.mono ht.same h.1, h.2⟩
  | .scr _, _, _, _, h => nomatch (h : False)
  | .lst _, _, _, hf, ⟨a, vs, fq, e, h1, h2, ef⟩ => by
    subst ef
    exact ⟨a, vs, fq, e, by rw [hf a (by simp), h1], Owns.keep ht (fun b hb => hf b (by simp [hb])) h2, rfl⟩
  | .dic _, _, _, hf, ⟨a, vs, fq, e, h1, h2, ef⟩ => by
    subst ef
    exact ⟨a, vs, fq, e, by rw [hf a (by simp), h1], OwnK.keep ht (fun b hb => hf b (by simp [hb])) h2, rfl⟩
  | .ins _ _, _, _, hf, ⟨a, dx, vs, fq, e, h1, h2, ef⟩ => by
    subst ef
    exact ⟨a, dx, vs, fq, e, by rw [hf a (by simp), h1], OwnF.keep ht (fun b hb => hf b (by simp [hb])) h2, rfl⟩
theorem Owns.keep {Γ : Ga} {H H' : Hp} (ht : TupK H H') : ∀ {d : List D} {v : List V} {fp : List Addr}, (∀ a ∈ fp, H' a = H a) → Owns Γ H d v fp → Owns Γ H' d v fp
  | [], _, _, _, h => h
  | _ :: _, _, _, hf, ⟨v, r, f1, f2, e, h1, h2, ef⟩ => by
    subst ef
    exact ⟨v, r, f1, f2, e, Own.keep ht (fun b hb => hf b (by simp [hb])) h1, Owns.keep ht (fun b hb => hf b (by simp [hb])) h2, rfl⟩
theorem OwnK.keep {Γ : Ga} {H H' : Hp} (ht : TupK H H') : ∀ {d : List (Key × D)} {v : List (Key × V)} {fp : List Addr}, (∀ a ∈ fp, H' a = H a) → OwnK Γ H d v fp → OwnK Γ H' d v fp
  | [], _, _, _, h => h
  | (_, _) :: _, _, _, hf, ⟨v, r, f1, f2, e, h1, h2, ef⟩ => by
    subst ef
    exact ⟨v, r, f1, f2, e, Own.keep ht (fun b hb => hf b (by simp [hb])) h1, OwnK.keep ht (fun b hb => hf b (by simp [hb])) h2, rfl⟩
theorem OwnF.keep {Γ : Ga} {H H' : Hp} (ht : TupK H H') : ∀ {d : List (Str × D)} {v : List (Str × V)} {fp : List Addr}, (∀ a ∈ fp, H' a = H a) → OwnF Γ H d v fp → OwnF Γ H' d v fp
  | [], _, _, _, h => h
  | (_, _) :: _, _, _, hf, ⟨v, r, f1, f2, e, h1, h2, ef⟩ => by
    subst ef
    exact ⟨v, r, f1, f2, e, Own.keep ht (fun b hb => hf b (by simp [hb])) h1, OwnF.keep ht (fun b hb => hf b (by simp [hb])) h2, rfl⟩
end

/-- what may be changed: a list, a dict, an instance -/
def Box : HO → Prop
  | .lst _ | .dK _ | .ins _ _ _ => True
  | _ => False
theorem Box.notTup {o : HO} (h : Box o) (xs : List V) : o ≠ .tup xs := by rintro rfl; exact h
theorem Box.notFrz {o u : HO} {ob : Obj} (h : Box o) : o ≠ .frz ob u := by rintro rfl; exact h
mutual
theorem Own.box {Γ : Ga} {H : Hp} : ∀ {d : D} {v : V} {fp : List Addr}, Own Γ H d v fp → ∀ a ∈ fp, ∃ o, H a = some o ∧ Box o
  | .non, _, _, h, a, ha => by rw [h.2] at ha; cases ha
  | .bl _, _, _, h, a, ha => by rw [h.2] at ha; cases ha
  | .int _, _, _, h, a, ha => by rw [h.2] at ha; cases ha
  | .str _, _, _, h, a, ha => by rw [h.2] at ha; cases ha
  | .tup _, _, _, h, a, ha => by rw [h.2] at ha; cases ha
  | .scr _, _, _, h, _, _ => nomatch (h : False)
  | .lst _, _, _, ⟨b, vs, fq, e, h1, h2, ef⟩, a, ha => by
    subst ef
    rcases List.mem_cons.mp ha with rfl | ha
    · exact ⟨_, h1, trivial⟩
    · exact Owns.box h2 a ha
  | .dic _, _, _, ⟨b, vs, fq, e, h1, h2, ef⟩, a, ha => by
    subst ef
    rcases List.mem_cons.mp ha with rfl | ha
    · exact ⟨_, h1, trivial⟩
    · exact OwnK.box h2 a ha
  | .ins _ _, _, _, ⟨b, dx, vs, fq, e, h1, h2, ef⟩, a, ha => by
    subst ef
    rcases List.mem_cons.mp ha with rfl | ha
    · exact ⟨_, h1, trivial⟩
    · exact OwnF.box h2 a ha
theorem Owns.box {Γ : Ga} {H : Hp} : ∀ {d : List D} {v : List V} {fp : List Addr}, Owns Γ H d v fp → ∀ a ∈ fp, ∃ o, H a = some o ∧ Box o
  | [], _, _, h, a, ha => by rw [h.2] at ha; cases ha
  | _ :: _, _, _, ⟨v, r, f1, f2, e, h1, h2, ef⟩, a, ha => by
    subst ef
    rcases List.mem_append.mp ha with ha | ha
    · exact Own.box h1 a ha
    · exact Owns.box h2 a ha
theorem OwnK.box {Γ : Ga} {H : Hp} : ∀ {d : List (Key × D)} {v : List (Key × V)} {fp : List Addr}, OwnK Γ H d v fp → ∀ a ∈ fp, ∃ o, H a = some o ∧ Box o
  | [], _, _, h, a, ha => by rw [h.2] at ha; cases ha
  | (_, _) :: _, _, _, ⟨v, r, f1, f2, e, h1, h2, ef⟩, a, ha => by
    subst ef
    rcases List.mem_append.mp ha with ha | ha
    · exact Own.box h1 a ha
    · exact OwnK.box h2 a ha
theorem OwnF.box {Γ : Ga} {H : Hp} : ∀ {d : List (Str × D)} {v : List (Str × V)} {fp : List Addr}, OwnF Γ H d v fp → ∀ a ∈ fp, ∃ o, H a = some o ∧ Box o
  | [], _, _, h, a, ha => by rw [h.2] at ha; cases ha
  | (_, _) :: _, _, _, ⟨v, r, f1, f2, e, h1, h2, ef⟩, a, ha => by
    subst ef
    rcases List.mem_append.mp ha with ha | ha
    · exact Own.box h1 a ha
    · exact OwnF.box h2 a ha
end

/-- a flat thing owns nothing -/
theorem Own.ofFlat {Γ : Ga} {H : Hp} {d : D} {v : V} (f : flat d = true) (h : Is Γ H d v) : Own Γ H d v [] := by
  have q := Is.ofFlat f h
  cases d with
  | non => exact ⟨h, rfl⟩
  | bl => exact ⟨h, rfl⟩
  | int => exact ⟨h, rfl⟩
  | str => exact ⟨h, rfl⟩
  | tup => exact ⟨q, rfl⟩
  | scr => simp [flat] at f
  | lst => simp [flat] at f
  | dic => simp [flat] at f
  | ins => simp [flat] at f
theorem Owns.ofFlat {Γ : Ga} {H : Hp} : ∀ {d : List D} {v : List V}, flats d = true → Iss Γ H d v → Owns Γ H d v []
  | [], _, _, h => ⟨h, rfl⟩
  | _ :: _, _, f, ⟨v, r, e, h1, h2⟩ => by
    rw [flats, Bool.and_eq_true] at f
    exact ⟨v, r, [], [], e, Own.ofFlat f.1 h1, Owns.ofFlat f.2 h2, rfl⟩

/-! ### the way to a part -/
inductive Stp where
  | ix (i : Nat) | ky (k : Key) | fd (f : Str)
def getK : List (Key × D) → Key → Option D
  | [], _ => none
  | (k, d) :: r, j => if k = j then some d else getK r j
def repK : List (Key × D) → Key → D → List (Key × D)
  | [], _, _ => []
  | (k, d) :: r, j, x => if k = j then (k, x) :: r else (k, d) :: repK r j x
def getF : List (Str × D) → Str → Option D
  | [], _ => none
  | (k, d) :: r, j => if k = j then some d else getF r j
def repF : List (Str × D) → Str → D → List (Str × D)
  | [], _, _ => []
  | (k, d) :: r, j, x => if k = j then (k, x) :: r else (k, d) :: repF r j x
def dget : D → Stp → Option D
  | .lst ds, .ix i => ds[i]?
  | .dic kvs, .ky k => getK kvs k
  | .ins _ fs, .fd f => getF fs f
  | _, _ => none
def drep : D → Stp → D → D
  | .lst ds, .ix i, x => .lst (ds.set i x)
  | .dic kvs, .ky k, x => .dic (repK kvs k x)
  | .ins c fs, .fd f, x => .ins c (repF fs f x)
  | d, _, _ => d
def dgets : D → List Stp → Option D
  | d, [] => some d
  | d, s :: r => (dget d s).bind fun e => dgets e r
def dreps : D → List Stp → D → D
  | _, [], x => x
  | d, s :: r, x => match dget d s with
    | some e => drep d s (dreps e r x)
    | none => d
/-- the same in the heap -/
def vget (H : Hp) : V → Stp → Option V
  | .ref a, .ix i => match H a with
    | some (.lst vs) => vs[i]?
    | _ => none
  | .ref a, .ky k => match H a with
    | some (.dK vs) => valV vs k
    | _ => none
  | .ref a, .fd f => match H a with
    | some (.ins _ _ vs) => vs.lookup f
    | _ => none
  | _, _ => none
def vgets (H : Hp) : V → List Stp → Option V
  | v, [] => some v
  | v, s :: r => (vget H v s).bind fun e => vgets H e r

/-- a part d' (value v', addresses fq) of what owns fp: all the rest is l and r -/
structure Part (Γ : Ga) (H : Hp) (d : D) (v : V) (fp : List Addr) (rep : D → D) (d' : D) (v' : V) : Prop where
  ex : ∃ l fq r, fp = l ++ fq ++ r ∧ Own Γ H d' v' fq ∧
    ∀ (H' : Hp) (x : D) (fx : List Addr), (∀ a ∈ l ++ r, H' a = H a) → TupK H H' → Own Γ H' x v' fx → Own Γ H' (rep x) v (l ++ fx ++ r)

theorem Owns.part {Γ : Ga} {H : Hp} : ∀ {ds : List D} {vs : List V} {fp : List Addr} {i : Nat} {d' : D}, Owns Γ H ds vs fp → ds[i]? = some d' →
    ∃ v', vs[i]? = some v' ∧ ∃ l fq r, fp = l ++ fq ++ r ∧ Own Γ H d' v' fq ∧
    ∀ (H' : Hp) (x : D) (fx : List Addr), (∀ a ∈ l ++ r, H' a = H a) → TupK H H' → Own Γ H' x v' fx → Owns Γ H' (ds.set i x) vs (l ++ fx ++ r)
  | [], _, _, i, _, _, e => by simp at e
  | d :: ds, _, _, 0, d', ⟨v, r, f1, f2, e, h1, h2, ef⟩, q => by
    subst e ef
    cases (Option.some.inj q : d = d')
    exact ⟨v, rfl, [], f1, f2, rfl, h1, fun H' x fx hk ht hx => ⟨v, r, fx, f2, rfl, hx, Owns.keep ht (fun a ha => hk a (by simpa using ha)) h2, rfl⟩⟩
  | d :: ds, _, _, i + 1, d', ⟨v, r, f1, f2, e, h1, h2, ef⟩, q => by
    subst e ef
    obtain ⟨v', e', l, fq, r', e2, ho, hk⟩ := Owns.part h2 (i := i) (d' := d') (by simpa using q)
    subst e2
    refine ⟨v', by simpa using e', f1 ++ l, fq, r', by simp, ho, fun H' x fx hh ht hx => ?_⟩
    refine ⟨v, r, f1, l ++ fx ++ r', rfl, Own.keep ht (fun a ha => hh a (by simp [ha])) h1, hk H' x fx (fun a ha => hh a ?_) ht hx, by simp⟩
    rcases List.mem_append.mp ha with ha | ha <;> simp [ha]
theorem OwnK.part {Γ : Ga} {H : Hp} : ∀ {ds : List (Key × D)} {vs : List (Key × V)} {fp : List Addr} {k : Key} {d' : D}, OwnK Γ H ds vs fp → getK ds k = some d' →
    ∃ v', valV vs k = some v' ∧ ∃ l fq r, fp = l ++ fq ++ r ∧ Own Γ H d' v' fq ∧
    ∀ (H' : Hp) (x : D) (fx : List Addr), (∀ a ∈ l ++ r, H' a = H a) → TupK H H' → Own Γ H' x v' fx → OwnK Γ H' (repK ds k x) vs (l ++ fx ++ r)
  | [], _, _, _, _, _, e => by simp [getK] at e
  | (k0, d) :: ds, _, _, k, d', ⟨v, r, f1, f2, e, h1, h2, ef⟩, q => by
    subst e ef
    rw [getK] at q
    by_cases hk0 : k0 = k
    · rw [if_pos hk0] at q
      cases (Option.some.inj q : d = d')
      refine ⟨v, valV_pos (p := (k0, v)) hk0, [], f1, f2, rfl, h1, fun H' x fx hk ht hx => ?_⟩
      rw [repK, if_pos hk0]
      exact ⟨v, r, fx, f2, rfl, hx, OwnK.keep ht (fun a ha => hk a (by simpa using ha)) h2, rfl⟩
    · rw [if_neg hk0] at q
      obtain ⟨v', e', l, fq, r', e2, ho, hk⟩ := OwnK.part h2 q
      subst e2
      refine ⟨v', (valV_neg (p := (k0, v)) hk0).trans e', f1 ++ l, fq, r', by simp, ho, fun H' x fx hh ht hx => ?_⟩
      rw [repK, if_neg hk0]
      refine ⟨v, r, f1, l ++ fx ++ r', rfl, Own.keep ht (fun a ha => hh a (by simp [ha])) h1, hk H' x fx (fun a ha => hh a ?_) ht hx, by simp⟩
      rcases List.mem_append.mp ha with ha | ha <;> simp [ha]
theorem lookup_pos {k : Str} {v : V} {r : List (Str × V)} : List.lookup k ((k, v) :: r) = some v := by rw [List.lookup_cons, beq_self_eq_true]
theorem lookup_neg {k j : Str} {v : V} {r : List (Str × V)} (h : ¬ k = j) : List.lookup j ((k, v) :: r) = List.lookup j r := by
  rw [List.lookup_cons, beq_eq_false_iff_ne.mpr (fun e => h e.symm)]
theorem OwnF.part {Γ : Ga} {H : Hp} : ∀ {ds : List (Str × D)} {vs : List (Str × V)} {fp : List Addr} {k : Str} {d' : D}, OwnF Γ H ds vs fp → getF ds k = some d' →
    ∃ v', vs.lookup k = some v' ∧ ∃ l fq r, fp = l ++ fq ++ r ∧ Own Γ H d' v' fq ∧
    ∀ (H' : Hp) (x : D) (fx : List Addr), (∀ a ∈ l ++ r, H' a = H a) → TupK H H' → Own Γ H' x v' fx → OwnF Γ H' (repF ds k x) vs (l ++ fx ++ r)
  | [], _, _, _, _, _, e => by simp [getF] at e
  | (k0, d) :: ds, _, _, k, d', ⟨v, r, f1, f2, e, h1, h2, ef⟩, q => by
    subst e ef
    rw [getF] at q
    by_cases hk0 : k0 = k
    · rw [if_pos hk0] at q
      cases (Option.some.inj q : d = d')
      refine ⟨v, by rw [hk0]; exact lookup_pos, [], f1, f2, rfl, h1, fun H' x fx hk ht hx => ?_⟩
      rw [repF, if_pos hk0]
      exact ⟨v, r, fx, f2, rfl, hx, OwnF.keep ht (fun a ha => hk a (by simpa using ha)) h2, rfl⟩
    · rw [if_neg hk0] at q
      obtain ⟨v', e', l, fq, r', e2, ho, hk⟩ := OwnF.part h2 q
      subst e2
      refine ⟨v', (lookup_neg hk0).trans e', f1 ++ l, fq, r', by simp, ho, fun H' x fx hh ht hx => ?_⟩
      rw [repF, if_neg hk0]
      refine ⟨v, r, f1, l ++ fx ++ r', rfl, Own.keep ht (fun a ha => hh a (by simp [ha])) h1, hk H' x fx (fun a ha => hh a ?_) ht hx, by simp⟩
      rcases List.mem_append.mp ha with ha | ha <;> simp [ha]

theorem Own.part1 {Γ : Ga} {H : Hp} {d : D} {v : V} {fp : List Addr} {s : Stp} {d' : D} (h : Own Γ H d v fp) (g : dget d s = some d') :
    ∃ v', vget H v s = some v' ∧ Part Γ H d v fp (drep d s) d' v' := by
  cases d with
  | lst ds =>
    cases s with
    | ix i =>
      obtain ⟨a, vs, fq, rfl, h1, h2, rfl⟩ := h
      obtain ⟨v', e', l, fq', r, rfl, ho, hk⟩ := h2.part g
      refine ⟨v', by simp only [vget, h1]; exact e', ⟨a :: l, fq', r, by simp, ho, fun H' x fx hh ht hx => ?_⟩⟩
      exact ⟨a, vs, l ++ fx ++ r, rfl, by rw [hh a (by simp), h1], hk H' x fx (fun b hb => hh b (by simp only [List.cons_append]; exact List.mem_cons_of_mem _ hb)) ht hx, by simp⟩
    | ky => simp [dget] at g
    | fd => simp [dget] at g
  | dic ds =>
    cases s with
    | ky k =>
      obtain ⟨a, vs, fq, rfl, h1, h2, rfl⟩ := h
      obtain ⟨v', e', l, fq', r, rfl, ho, hk⟩ := h2.part g
      refine ⟨v', by simp only [vget, h1]; exact e', ⟨a :: l, fq', r, by simp, ho, fun H' x fx hh ht hx => ?_⟩⟩
      exact ⟨a, vs, l ++ fx ++ r, rfl, by rw [hh a (by simp), h1], hk H' x fx (fun b hb => hh b (by simp only [List.cons_append]; exact List.mem_cons_of_mem _ hb)) ht hx, by simp⟩
    | ix => simp [dget] at g
    | fd => simp [dget] at g
  | ins c ds =>
    cases s with
    | fd k =>
      obtain ⟨a, dx, vs, fq, rfl, h1, h2, rfl⟩ := h
      obtain ⟨v', e', l, fq', r, rfl, ho, hk⟩ := h2.part g
      refine ⟨v', by simp only [vget, h1]; exact e', ⟨a :: l, fq', r, by simp, ho, fun H' x fx hh ht hx => ?_⟩⟩
      exact ⟨a, dx, vs, l ++ fx ++ r, rfl, by rw [hh a (by simp), h1], hk H' x fx (fun b hb => hh b (by simp only [List.cons_append]; exact List.mem_cons_of_mem _ hb)) ht hx, by simp⟩
    | ix => simp [dget] at g
    | ky => simp [dget] at g
  | _ => cases s <;> simp [dget] at g

theorem Own.parts {Γ : Ga} {H : Hp} : ∀ {p : List Stp} {d : D} {v : V} {fp : List Addr} {d' : D}, Own Γ H d v fp → dgets d p = some d' →
    ∃ v', vgets H v p = some v' ∧ Part Γ H d v fp (dreps d p) d' v'
  | [], d, v, fp, d', h, g => by
    cases (Option.some.inj g : d = d')
    exact ⟨v, rfl, ⟨[], fp, [], by simp, h, fun H' x fx _ _ hx => by simpa [dreps] using hx⟩⟩
  | s :: p, d, v, fp, d', h, g => by
    rw [dgets] at g
    cases e : dget d s with
    | none => rw [e] at g; cases g
    | some d1 =>
      rw [e] at g
      obtain ⟨v1, e1, ⟨l, fq, r, rfl, ho, hk⟩⟩ := h.part1 e
      obtain ⟨v', e', ⟨l2, fq2, r2, rfl, ho2, hk2⟩⟩ := Own.parts ho g
      refine ⟨v', by rw [vgets, e1]; exact e', ⟨l ++ l2, fq2, r2 ++ r, by simp, ho2, fun H' x fx hh ht hx => ?_⟩⟩
      rw [dreps, e]
      have a1 := hk2 H' x fx (fun a ha => hh a (by rcases List.mem_append.mp ha with ha | ha <;> simp [ha])) ht hx
      have a2 := hk H' _ _ (fun a ha => hh a (by rcases List.mem_append.mp ha with ha | ha <;> simp [ha])) ht a1
      simpa using a2
end DL

/-! DL3: the slots of a def and what stands in them; expressions as functions of the slots. -/
namespace DL
open PySem L2

/-- a slot: nothing known; an argument that is read; a name for it; a thing made here that is read; an argument that is changed; a thing made here that is changed -/
inductive Sl where
  | emp | fz (d : D) | fa (d : D) | fn (d : D) | ow (d : D) | on (d : D)
abbrev Ev := List Sl
/-- where a value comes from: a part of what is changed here, of an argument that is read, or made here (or flat) -/
inductive Md where
  | own | par | new
/-- what is fixed through a def: the heap at its entry, what of it stays, what may be changed, the slots -/
structure Fx where
  H0 : Hp
  Kp : Hp
  P : Addr → Prop
  s0 : St

def SlotAt (Γ : Ga) (x : Fx) (B H : Hp) (i : Nat) (o : Option (Option V)) (fp : List Addr) : Sl → Prop
  | .emp => fp = []
  | .fz d => fp = [] ∧ ∃ v, o = some (some v) ∧ Is Γ x.Kp d v ∧ x.s0[i]? = some (some v)
  | .fa d => fp = [] ∧ ∃ v, o = some (some v) ∧ Is Γ x.Kp d v
  | .fn d => fp = [] ∧ ∃ v, o = some (some v) ∧ Is Γ B d v
  | .ow d => ∃ v, o = some (some v) ∧ Own Γ H d v fp ∧ x.s0[i]? = some (some v)
  | .on d => ∃ v, o = some (some v) ∧ Own Γ H d v fp ∧ ∀ a ∈ fp, x.H0 a = none

structure Ok (Γ : Ga) (x : Fx) (B : Hp) (F : Nat → List Addr) (ρ : Ev) (σ : St) (H : Hp) : Prop where
  kp : Same x.Kp H
  bh : Same B H
  tup : ∀ a xs, H a = some (.tup xs) → B a = some (.tup xs)
  born : ∀ a o, B a = some o → (∃ xs, o = .tup xs) ∨ x.H0 a = none
  bk : ∀ a o, B a = some o → (∃ xs, o = .tup xs) ∨ x.Kp a = none
  dom : ∀ a, H a = none → x.H0 a = none
  fk : ∀ i a, a ∈ F i → x.Kp a = none ∧ B a = none ∧ (x.P a ∨ x.H0 a = none)
  dj : ∀ i j a, a ∈ F i → a ∈ F j → i = j
  nd : ∀ i, (F i).Nodup
  out : ∀ i, ρ.length ≤ i → F i = []
  len : ρ.length = σ.length
  at_ : ∀ (i : Nat) (s : Sl), ρ[i]? = some s → SlotAt Γ x B H i σ[i]? (F i) s

def Val (Γ : Ga) (x : Fx) (m : Md) (B H : Hp) (d : D) (v : V) : Prop := match m with
  | .own => Is Γ H d v
  | .par => Is Γ x.Kp d v
  | .new => Is Γ B d v

section
variable {Γ : Ga} {x : Fx} {B : Hp} {F : Nat → List Addr} {ρ : Ev} {σ : St} {H H' : Hp}
theorem Ok.box (o : Ok Γ x B F ρ σ H) {i : Nat} {a : Addr} (h : a ∈ F i) : ∃ u, H a = some u ∧ Box u := by
  by_cases hi : i < ρ.length
  · have q := o.at_ i ρ[i] (List.getElem?_eq_getElem hi)
    revert q
    cases ρ[i] with
    | emp => intro q; rw [show F i = [] from q] at h; cases h
    | fz => intro q; rw [q.1] at h; cases h
    | fa => intro q; rw [q.1] at h; cases h
    | fn => intro q; rw [q.1] at h; cases h
    | ow => intro ⟨v, _, q, _⟩; exact q.box a h
    | on => intro ⟨v, _, q, _⟩; exact q.box a h
  · rw [o.out i (by omega)] at h
    cases h
theorem Ok.grow {B' : Hp} (o : Ok Γ x B F ρ σ H) (e : Same H H') (eb : Same B B') (bh : Same B' H') (tup : ∀ a xs, H' a = some (.tup xs) → B' a = some (.tup xs))
    (new : ∀ a u, B' a = some u → (∃ xs, u = .tup xs) ∨ B a = some u ∨ H a = none) : Ok Γ x B' F ρ σ H' where
  kp := o.kp.trans e
  bh := bh
  tup := tup
  born := fun a u h => by
    rcases new a u h with h1 | h1 | h1
    · exact .inl h1
    · exact o.born a u h1
    · exact .inr (o.dom a h1)
  bk := fun a u h => by
    rcases new a u h with h1 | h1 | h1
    · exact .inl h1
    · exact o.bk a u h1
    · exact .inr (o.kp.free h1)
  dom := fun a h => o.dom a (e.free h)
  fk := fun i a h => by
    obtain ⟨h1, h2, h3⟩ := o.fk i a h
    obtain ⟨u, hu, bx⟩ := o.box h
    refine ⟨h1, ?_, h3⟩
    cases q : B' a with
    | none => rfl
    | some w =>
      have hw := bh a w q
      rw [e a u hu] at hw
      cases hw
      rcases new a u q with ⟨xs, rfl⟩ | h4 | h4
      · exact bx.elim
      · rw [h2] at h4; cases h4
      · rw [hu] at h4; cases h4
  dj := o.dj
  nd := o.nd
  out := o.out
  len := o.len
  at_ := fun i s h => by
    have q := o.at_ i s h
    have hk : ∀ a ∈ F i, H' a = H a := fun a ha => by
      obtain ⟨u, hu, _⟩ := o.box ha
      rw [hu, e a u hu]
    cases s with
    | emp => exact q
    | fz => exact q
    | fa => exact q
    | fn => obtain ⟨q1, v, q2, q3⟩ := q; exact ⟨q1, v, q2, q3.mono eb⟩
    | ow => obtain ⟨v, q1, q2, q3⟩ := q; exact ⟨v, q1, q2.keep (TupK.of e) hk, q3⟩
    | on => obtain ⟨v, q1, q2, q3⟩ := q; exact ⟨v, q1, q2.keep (TupK.of e) hk, q3⟩

/-- from the region B of the heap H to B' of H': all stays; B' has what is new besides -/
structure Gr (B H B' H' : Hp) : Prop where
  hh : Same H H'
  bb : Same B B'
  new : ∀ a u, B' a = some u → (∃ xs, u = .tup xs) ∨ B a = some u ∨ H a = none
theorem Gr.refl (B H : Hp) : Gr B H B H := ⟨Same.refl H, Same.refl B, fun _ _ h => .inr (.inl h)⟩
theorem Gr.trans {B H B1 H1 B2 H2 : Hp} (a : Gr B H B1 H1) (b : Gr B1 H1 B2 H2) : Gr B H B2 H2 :=
  ⟨a.hh.trans b.hh, a.bb.trans b.bb, fun c u h => by
    rcases b.new c u h with h | h | h
    · exact .inl h
    · exact a.new c u h
    · exact .inr (.inr (a.hh.free h))⟩
/-- made of new things and of tuples alone -/
def Born (Γ : Ga) (H H' : Hp) (d : D) (v : V) : Prop :=
  Same H H' ∧ ∃ R : Hp, Same R H' ∧ (∀ a u, R a = some u → (∃ xs, u = .tup xs) ∨ H a = none) ∧ Is Γ R d v
theorem Born.flat {d : D} {v : V} (f : flat d = true) (h : Is Γ H d v) : Born Γ H H d v :=
  ⟨Same.refl H, tupOf H, tupOf_same, fun _ _ h => .inl (tupOf_some h).2, Is.ofFlat f h⟩
theorem Born.is {d : D} {v : V} (h : Born Γ H H' d v) : Is Γ H' d v := by
  obtain ⟨_, R, e, _, q⟩ := h
  exact q.mono e
def jn (T B R : Hp) : Hp := fun a => match T a with
  | some o => some o
  | none => match B a with
    | some o => some o
    | none => R a
theorem jn_cases {T B R : Hp} {a : Addr} {o : HO} (h : jn T B R a = some o) : T a = some o ∨ B a = some o ∨ R a = some o := by
  unfold jn at h
  split at h
  · rename_i u e; cases h; exact .inl e
  · split at h
    · rename_i u e; cases h; exact .inr (.inl e)
    · exact .inr (.inr h)
theorem jn_at {T B R H : Hp} (t : Same T H) (b : Same B H) (r : Same R H) {a : Addr} {o : HO} (h : T a = some o ∨ B a = some o ∨ R a = some o) : jn T B R a = some o := by
  have hH : H a = some o := h.elim (t a o) fun h => h.elim (b a o) (r a o)
  unfold jn
  split
  · rename_i u e; rw [← hH, t a u e]
  · rename_i e
    split
    · rename_i u e2; rw [← hH, b a u e2]
    · rename_i e2
      rcases h with h | h | h
      · rw [e] at h; cases h
      · rw [e2] at h; cases h
      · exact h
theorem Ok.born' {d : D} {v : V} (o : Ok Γ x B F ρ σ H) (h : Born Γ H H' d v) : ∃ B', Gr B H B' H' ∧ Ok Γ x B' F ρ σ H' ∧ Is Γ B' d v := by
  obtain ⟨e, R, er, hn, q⟩ := h
  have t : Same (tupOf H') H' := tupOf_same
  have b : Same B H' := o.bh.trans e
  have nw : ∀ a u, jn (tupOf H') B R a = some u → (∃ xs, u = .tup xs) ∨ B a = some u ∨ H a = none := fun a u z => by
    rcases jn_cases z with z | z | z
    · exact .inl (tupOf_some z).2
    · exact .inr (.inl z)
    · rcases hn a u z with z | z
      · exact .inl z
      · exact .inr (.inr z)
  have bb : Same B (jn (tupOf H') B R) := fun a u z => jn_at t b er (.inr (.inl z))
  refine ⟨jn (tupOf H') B R, ⟨e, bb, nw⟩, ?_, q.mono fun a u z => jn_at t b er (.inr (.inr z))⟩
  refine o.grow e bb (fun a u z => ?_) (fun a xs z => jn_at t b er (.inl (tupOf_tup z))) nw
  rcases jn_cases z with z | z | z
  · exact t a u z
  · exact b a u z
  · exact er a u z
theorem Val.is {m : Md} {d : D} {v : V} (o : Ok Γ x B F ρ σ H) (h : Val Γ x m B H d v) : Is Γ H d v := by
  cases m with
  | own => exact h
  | par => exact Is.mono o.kp h
  | new => exact Is.mono o.bh h
theorem Val.mono {m : Md} {d : D} {v : V} {B' : Hp} (g : Gr B H B' H') (h : Val Γ x m B H d v) : Val Γ x m B' H' d v := by
  cases m with
  | own => exact Is.mono g.hh h
  | par => exact h
  | new => exact Is.mono g.bb h
end

/-! ### the judgements -/
abbrev gx (X : Cx) (cm : Nat → Addr) : Ga := ⟨X.K, cm⟩
abbrev EF := Ev → Option (D × Md)
/-- e is worth what f says of the slots -/
def PuE (cm : Nat → Addr) (X : Cx) (e : Expr) (f : EF) : Prop :=
  ∃ t, PE X e t ∧ ∀ (x : Fx) (B : Hp) (F : Nat → List Addr) (ρ : Ev) (σ : St) (H : Hp) (d : D) (m : Md) (Q : VK), Ok (gx X cm) x B F ρ σ H → f ρ = some (d, m) →
    (∀ v B' H', Gr B H B' H' → Ok (gx X cm) x B' F ρ σ H' → Val (gx X cm) x m B' H' d v → Q v H') → t σ H Q
def PuT (cm : Nat → Addr) (X : Cx) (e : Expr) (f : Ev → Option Bool) : Prop :=
  ∃ t, PT X e t ∧ ∀ (x : Fx) (B : Hp) (F : Nat → List Addr) (ρ : Ev) (σ : St) (H : Hp) (b : Bool) (Q : Bool → Hp → Prop), Ok (gx X cm) x B F ρ σ H → f ρ = some b →
    (∀ B' H', Gr B H B' H' → Ok (gx X cm) x B' F ρ σ H' → Q b H') → t σ H Q
/-- arguments -/
def PuA (cm : Nat → Addr) (X : Cx) (es : List Expr) (f : Ev → Option (List (D × Md))) : Prop :=
  ∃ t, PA X es t ∧ ∀ (x : Fx) (B : Hp) (F : Nat → List Addr) (ρ : Ev) (σ : St) (H : Hp) (ds : List (D × Md)) (Q : List V → Hp → Prop), Ok (gx X cm) x B F ρ σ H → f ρ = some ds →
    (∀ vs B' H', Gr B H B' H' → Ok (gx X cm) x B' F ρ σ H' → Paired (fun (p : D × Md) v => Val (gx X cm) x p.2 B' H' p.1 v) ds vs → Q vs H') → t σ H Q
end DL

/-! DL4: expressions: names, constants, operators, comparisons, subscripts, calls, displays, slices. -/
namespace DL
open PySem L2

section
variable {cm : Nat → Addr} {X : Cx}

/-! ### names and constants -/
def eV (i : Nat) : EF := fun ρ => match ρ[i]? with
  | some (.fz d) => some (d, .par)
  | some (.fa d) => some (d, .par)
  | some (.fn d) => some (d, .new)
  | some (.ow d) => some (d, .own)
  | some (.on d) => some (d, .own)
  | _ => none
theorem pu_var (i : Nat) {x : Str} {pos : Pos} (hN : X.N[i]? = some x := by rfl) (hv : Vis X.env.scope x := by first | exact Or.inl rfl | exact Or.inr (Or.inl rfl) | exact Or.inr (Or.inr rfl))
    (hd : (x == ("__debug__" : Str)) = false := by decide) (hcd : (x == ("__classdict__" : Str)) = false := by decide) : PuE cm X (.Name x pos) (eV i) := by
  refine ⟨_, pe_var hN hv hd hcd, fun z B F ρ σ H d m Q ok hf hQ => ?_⟩
  have key : ∃ v, σ[i]? = some (some v) ∧ Val (gx X cm) z m B H d v := by
    unfold eV at hf
    split at hf
    all_goals first
      | (rename_i e; cases hf; obtain ⟨_, v, e1, e2⟩ := ok.at_ i _ e; exact ⟨v, e1, e2⟩)
      | (rename_i e; cases hf; obtain ⟨_, v, e1, e2, _⟩ := ok.at_ i _ e; exact ⟨v, e1, e2⟩)
      | (rename_i e; cases hf; obtain ⟨v, e1, e2, _⟩ := ok.at_ i _ e; exact ⟨v, e1, e2.is⟩)
      | cases hf
  obtain ⟨v, e, q⟩ := key
  exact ⟨v, e, hQ v B H (Gr.refl B H) ok q⟩

/-- an atom as a value -/
def atomV : D → Option V
  | .non => some .non
  | .bl b => some (.bl b)
  | .int i => some (.int i)
  | .str x => some (.str x)
  | _ => none
theorem atomV_is {Γ : Ga} {H : Hp} {d : D} {v w : V} (h : atomV d = some v) (i : Is Γ H d w) : w = v := by
  cases d <;> simp [atomV] at h <;> subst h <;> exact i
theorem atomV_mk {Γ : Ga} {H : Hp} {d : D} {v : V} (h : atomV d = some v) : Is Γ H d v := by
  cases d <;> simp [atomV] at h <;> subst h <;> rfl
theorem atomV_flat {d : D} {v : V} (h : atomV d = some v) : flat d = true := by
  cases d <;> simp [atomV] at h <;> rfl
def eC (d : D) : EF := fun _ => some (d, .new)
theorem pu_const {e : Expr} {d : D} {v : V} (h : PE X e (tC v)) (ha : atomV d = some v) : PuE cm X e (eC d) :=
  ⟨_, h, fun _ B F ρ σ H c m Q ok hf hQ => by cases hf; exact hQ v B H (Gr.refl B H) ok (atomV_mk ha)⟩
theorem pu_int {i j pos} : PuE cm X (.Constant (.int i) j pos) (eC (.int i)) := pu_const pe_int rfl
theorem pu_bl {b j pos} : PuE cm X (.Constant (.bool b) j pos) (eC (.bl b)) := pu_const pe_bl rfl
theorem pu_non {j pos} : PuE cm X (.Constant .none j pos) (eC .non) := pu_const pe_non rfl
theorem pu_str {x j pos} : PuE cm X (.Constant (.str x) j pos) (eC (.str x)) := pu_const pe_str rfl
/-- a module's constant -/
theorem pu_glob {x : Str} {d : D} {v : V} {u : Value} {pos : Pos} (hg : Gl X x) (hm : X.mg x = some u) (r : RelV v u) (ha : atomV d = some v) (hd : (x == ("__debug__" : Str)) = false := by decide) : PuE cm X (.Name x pos) (eC d) :=
  pu_const (pe_glob hg hm r hd) ha

/-! ### two-place operators -/
/-- by data: o says what comes of it -/
def OkOp (Γ : Ga) (r : R2) (o : D → D → Option D) : Prop :=
  ∀ (H : Hp) (a b c : D) (v u : V) (Q : VK), o a b = some c → Is Γ H a v → Is Γ H b u → (∀ w H', Born Γ H H' c w → Q w H') → r v u H Q
def e2 (o : D → D → Option D) (f g : EF) : EF := fun ρ => (f ρ).bind fun a => (g ρ).bind fun b => (o a.1 b.1).bind fun c => some (c, .new)
theorem e2_some {o : D → D → Option D} {f g : EF} {ρ : Ev} {d : D} {m : Md} (h : e2 o f g ρ = some (d, m)) : ∃ a m1 b m2, f ρ = some (a, m1) ∧ g ρ = some (b, m2) ∧ o a b = some d ∧ m = .new := by
  unfold e2 at h
  cases ea : f ρ with
  | none => rw [ea] at h; cases h
  | some a =>
    cases eb : g ρ with
    | none => rw [ea, eb] at h; cases h
    | some b =>
      rw [ea, eb] at h
      cases ec : o a.1 b.1 with
      | none => simp [ec] at h
      | some c =>
        simp [ec] at h
        exact ⟨a.1, a.2, b.1, b.2, rfl, rfl, h.1 ▸ ec, h.2.symm⟩
variable {a b : Expr} {fa fb : EF} {pos : Pos}
/-- two expressions, one after the other -/
theorem two {ta tb : TE} {f g : EF} (ha : ∀ (x : Fx) (B : Hp) (F : Nat → List Addr) (ρ : Ev) (σ : St) (H : Hp) (d : D) (m : Md) (Q : VK), Ok (gx X cm) x B F ρ σ H → f ρ = some (d, m) →
      (∀ v B' H', Gr B H B' H' → Ok (gx X cm) x B' F ρ σ H' → Val (gx X cm) x m B' H' d v → Q v H') → ta σ H Q)
    (hb : ∀ (x : Fx) (B : Hp) (F : Nat → List Addr) (ρ : Ev) (σ : St) (H : Hp) (d : D) (m : Md) (Q : VK), Ok (gx X cm) x B F ρ σ H → g ρ = some (d, m) →
      (∀ v B' H', Gr B H B' H' → Ok (gx X cm) x B' F ρ σ H' → Val (gx X cm) x m B' H' d v → Q v H') → tb σ H Q)
    {x : Fx} {B : Hp} {F : Nat → List Addr} {ρ : Ev} {σ : St} {H : Hp} {d e : D} {m n : Md} {R : V → V → Hp → Prop} (ok : Ok (gx X cm) x B F ρ σ H) (hf : f ρ = some (d, m)) (hg : g ρ = some (e, n))
    (h : ∀ v u B' H', Gr B H B' H' → Ok (gx X cm) x B' F ρ σ H' → Val (gx X cm) x m B' H' d v → Val (gx X cm) x n B' H' e u → R v u H') : ta σ H fun v H1 => tb σ H1 fun u H2 => R v u H2 := by
  refine ha x B F ρ σ H d m _ ok hf fun v B1 H1 g1 ok1 v1 => ?_
  refine hb x B1 F ρ σ H1 e n _ ok1 hg fun u B2 H2 g2 ok2 v2 => ?_
  exact h v u B2 H2 (g1.trans g2) ok2 (v1.mono g2) v2
theorem pu_op2 {t : TE → TE → TE} {e : Expr} {r : R2} {o : D → D → Option D} (ht : ∀ ta tb, PE X a ta → PE X b tb → PE X e (tOp r ta tb)) (ho : OkOp (gx X cm) r o) (ha : PuE cm X a fa) (hb : PuE cm X b fb) : PuE cm X e (e2 o fa fb) := by
  obtain ⟨ta, pa, qa⟩ := ha
  obtain ⟨tb, pb, qb⟩ := hb
  refine ⟨_, ht ta tb pa pb, fun x B F ρ σ H d m Q ok hf hQ => ?_⟩
  obtain ⟨da, m1, db, m2, ea, eb, ed, rfl⟩ := e2_some hf
  refine two (R := fun v u H2 => r v u H2 Q) qa qb ok ea eb fun v u B' H' g ok' hv hu => ?_
  refine ho H' da db d v u Q ed (hv.is ok') (hu.is ok') fun w H2 bn => ?_
  obtain ⟨B2, g2, ok2, hw⟩ := ok'.born' bn
  exact hQ w B2 H2 (g.trans g2) ok2 hw
theorem pu_bin {op : Operator} {r : R2} {o : D → D → Option D} (hr : OpR X (binaryOp op) r) (ho : OkOp (gx X cm) r o) (ha : PuE cm X a fa) (hb : PuE cm X b fb) : PuE cm X (.BinOp a op b pos) (e2 o fa fb) :=
  pu_op2 (t := tOp r) (fun _ _ pa pb => pe_op hr pa pb) ho ha hb
theorem pu_cmp {op : CmpOp} {r : R2} {o : D → D → Option D} (hr : OpR X (compareOp op) r) (ho : OkOp (gx X cm) r o) (ha : PuE cm X a fa) (hb : PuE cm X b fb) (hm : behindInMarks op b = false := by first | exact nomark _ | rfl) : PuE cm X (.Compare a [op] [b] pos) (e2 o fa fb) :=
  pu_op2 (t := tOp r) (fun _ _ pa pb => pe_cmpR hr pa pb hm) ho ha hb

theorem Born.atom {Γ : Ga} {H : Hp} {d : D} {v : V} (h : atomV d = some v) : Born Γ H H d v := Born.flat (atomV_flat h) (atomV_mk h)
/-- a new list or tuple of what is flat -/
theorem born_new {Γ : Ga} {H : Hp} {p : Addr} {o : HO} {d : D} (hp : H p = none) (h : ∀ R : Hp, Same (tupOf H) R → R p = some o → Is Γ R d (.ref p)) : Born Γ H (upd H p o) d (.ref p) := by
  have ne : ∀ {b u}, H b = some u → b ≠ p := fun e q => by rw [q, hp] at e; cases e
  refine ⟨fun b u e => by rw [upd_ne (ne e)]; exact e, upd (tupOf H) p o, fun b u e => ?_, fun b u e => ?_, h _ (fun b u e => ?_) upd_same⟩
  · by_cases q : b = p
    · subst q; rw [upd_same] at e ⊢; exact e
    · rw [upd_ne q] at e ⊢; exact tupOf_same _ _ e
  · by_cases q : b = p
    · subst q; exact .inr hp
    · rw [upd_ne q] at e; exact .inl (tupOf_some e).2
  · rw [upd_ne (ne (tupOf_same _ _ e))]; exact e
theorem born_lst {Γ : Ga} {H : Hp} {p : Addr} {ds : List D} {vs : List V} (hp : H p = none) (f : flats ds = true) (h : Iss Γ H ds vs) : Born Γ H (upd H p (.lst vs)) (.lst ds) (.ref p) :=
  born_new hp fun _ s e => ⟨p, vs, rfl, e, (Iss.ofFlat f h).mono s⟩
theorem born_tup {Γ : Ga} {H : Hp} {p : Addr} {ds : List D} {vs : List V} (hp : H p = none) (f : flats ds = true) (h : Iss Γ H ds vs) : Born Γ H (upd H p (.tup vs)) (.tup ds) (.ref p) :=
  born_new hp fun _ s e => ⟨p, vs, rfl, e, (Iss.ofFlat f h).mono s⟩

theorem Iss.length {Γ : Ga} {H : Hp} : ∀ {ds : List D} {vs : List V}, Iss Γ H ds vs → vs.length = ds.length
  | [], _, h => by rw [show _ = [] from h]; rfl
  | _ :: _, _, ⟨v, r, e, _, h2⟩ => by subst e; rw [List.length_cons, List.length_cons, Iss.length h2]
theorem Iss.get {Γ : Ga} {H : Hp} : ∀ {ds : List D} {vs : List V} {i : Nat} {d : D}, Iss Γ H ds vs → ds[i]? = some d → ∃ v, vs[i]? = some v ∧ Is Γ H d v
  | [], _, _, _, _, e => by simp at e
  | _ :: _, _, 0, _, ⟨v, r, e, h1, _⟩, q => by
    subst e
    cases q
    exact ⟨v, rfl, h1⟩
  | _ :: _, _, i + 1, _, ⟨v, r, e, _, h2⟩, q => by
    subst e
    obtain ⟨w, e1, e2⟩ := Iss.get h2 (i := i) (by simpa using q)
    exact ⟨w, by simpa using e1, e2⟩
theorem Iss.append {Γ : Ga} {H : Hp} : ∀ {ds es : List D} {vs us : List V}, Iss Γ H ds vs → Iss Γ H es us → Iss Γ H (ds ++ es) (vs ++ us)
  | [], _, _, _, h, k => by rw [show _ = [] from h]; exact k
  | _ :: _, _, _, _, ⟨v, r, e, h1, h2⟩, k => by subst e; exact ⟨v, r ++ _, rfl, h1, Iss.append h2 k⟩
theorem Iss.take {Γ : Ga} {H : Hp} : ∀ {ds : List D} {vs : List V} (n : Nat), Iss Γ H ds vs → Iss Γ H (ds.take n) (vs.take n)
  | _, _, 0, _ => by rw [List.take_zero, List.take_zero]; rfl
  | [], _, n + 1, h => by rw [show _ = [] from h]; rfl
  | _ :: _, _, n + 1, ⟨v, r, e, h1, h2⟩ => by subst e; exact ⟨v, r.take n, rfl, h1, Iss.take n h2⟩
theorem Iss.drop {Γ : Ga} {H : Hp} : ∀ {ds : List D} {vs : List V} (n : Nat), Iss Γ H ds vs → Iss Γ H (ds.drop n) (vs.drop n)
  | _, _, 0, h => h
  | [], _, n + 1, h => by rw [show _ = [] from h]; rfl
  | _ :: _, _, n + 1, ⟨v, r, e, h1, h2⟩ => by subst e; exact Iss.drop n h2
theorem Iss.snoc {Γ : Ga} {H : Hp} {ds : List D} {vs : List V} {d : D} {v : V} (h : Iss Γ H ds vs) (k : Is Γ H d v) : Iss Γ H (ds ++ [d]) (vs ++ [v]) := h.append ⟨v, [], rfl, k, rfl⟩
theorem Iss.reverse {Γ : Ga} {H : Hp} : ∀ {ds : List D} {vs : List V}, Iss Γ H ds vs → Iss Γ H ds.reverse vs.reverse
  | [], _, h => by rw [show _ = [] from h]; rfl
  | _ :: _, _, ⟨v, r, e, h1, h2⟩ => by subst e; rw [List.reverse_cons, List.reverse_cons]; exact (Iss.reverse h2).snoc h1
theorem Iss.scr {Γ : Ga} {H : Hp} : ∀ ns : List Int, Iss Γ H (ns.map D.int) (ns.map V.int)
  | [] => rfl
  | _ :: r => ⟨_, _, rfl, rfl, Iss.scr r⟩
theorem flats_map_int : ∀ ns : List Int, flats (ns.map D.int) = true
  | [] => rfl
  | _ :: r => by rw [List.map_cons, flats, flats_map_int r]; rfl
theorem flats_append : ∀ {a b : List D}, flats (a ++ b) = (flats a && flats b)
  | [], _ => rfl
  | x :: a, b => by rw [List.cons_append, flats, flats, flats_append, Bool.and_assoc]
theorem flats_take : ∀ {a : List D} (n : Nat), flats a = true → flats (a.take n) = true
  | _, 0, _ => rfl
  | [], _ + 1, _ => rfl
  | x :: a, n + 1, h => by
    rw [flats, Bool.and_eq_true] at h
    rw [List.take_succ_cons, flats, h.1, flats_take n h.2]; rfl
theorem flats_drop : ∀ {a : List D} (n : Nat), flats a = true → flats (a.drop n) = true
  | _, 0, h => h
  | [], _ + 1, _ => rfl
  | x :: a, n + 1, h => by
    rw [flats, Bool.and_eq_true] at h
    exact flats_drop n h.2
theorem flats_reverse {a : List D} (h : flats a = true) : flats a.reverse = true := by
  induction a with
  | nil => rfl
  | cons x a ih =>
    rw [flats, Bool.and_eq_true] at h
    rw [List.reverse_cons, flats_append, ih h.2, flats, h.1]; rfl
theorem flats_mem : ∀ {a : List D}, flats a = true → ∀ d ∈ a, flat d = true
  | x :: a, h, d, hd => by
    rw [flats, Bool.and_eq_true] at h
    rcases List.mem_cons.mp hd with rfl | hd
    · exact h.1
    · exact flats_mem h.2 d hd
theorem flats_of : ∀ {a : List D}, (∀ d ∈ a, flat d = true) → flats a = true
  | [], _ => rfl
  | x :: a, h => by rw [flats, h x (by simp), flats_of fun d hd => h d (by simp [hd])]; rfl

/-! ### arithmetic -/
def addD : D → D → Option D
  | .int i, .int j => some (.int (i + j))
  | .str x, .str y => if x.length + y.length ≤ 16777216 then some (.str (x ++ y)) else none
  | .lst xs, .lst ys => if flats xs = true ∧ flats ys = true ∧ xs.length + ys.length ≤ 16777216 then some (.lst (xs ++ ys)) else none
  | _, _ => none
def subD : D → D → Option D
  | .int i, .int j => some (.int (i - j))
  | _, _ => none
def mulD : D → D → Option D
  | .int i, .int j => if (-18446744073709551616 < i ∧ i < 18446744073709551616) ∨ (-18446744073709551616 < j ∧ j < 18446744073709551616) then some (.int (i * j)) else none
  | .lst xs, .int k => if flats xs = true ∧ 0 ≤ k ∧ k < 1000000 ∧ xs.length * k.toNat ≤ 16777216 then some (.lst (List.replicate k.toNat xs).flatten) else none
  | _, _ => none
def fdivD : D → D → Option D
  | .int i, .int j => if 0 < j ∧ j < 1073741824 then some (.int (i / j)) else none
  | _, _ => none
def modD : D → D → Option D
  | .int i, .int j => if 0 < j then some (.int (i % j)) else none
  | _, _ => none
theorem line_eq : sizeLine = 16777216 := by decide
abbrev rAddA : R2 := fun x y H Q => rI0 (fun i j => .int (i + j)) x y H Q ∨ (∃ i j, x = .str i ∧ y = .str j ∧ i.length + j.length ≤ sizeLine ∧ Q (.str (i ++ j)) H) ∨ rCat x y H Q
theorem op_addA : OpR X (binaryOp .Add) rAddA := op_add.or (op_add_str.or op_cat)
theorem ok_add {Γ : Ga} : OkOp Γ rAddA addD := by
  intro H a b c v u Q e ha hb hQ
  unfold addD at e
  split at e
  · cases e; cases ha; cases hb
    exact .inl ⟨_, _, rfl, rfl, hQ _ _ (.atom rfl)⟩
  · split at e
    · rename_i h
      cases e; cases ha; cases hb
      exact .inr (.inl ⟨_, _, rfl, rfl, by rw [line_eq]; exact h, hQ _ _ (.atom rfl)⟩)
    · cases e
  · split at e
    · rename_i h
      cases e
      obtain ⟨p, vs, rfl, h1, h2⟩ := ha
      obtain ⟨q, us, rfl, k1, k2⟩ := hb
      exact .inr (.inr ⟨_, _, _, _, rfl, rfl, h1, k1, by rw [line_eq, h2.length, k2.length]; exact h.2.2, fun l hl => hQ _ _ (born_lst hl (by rw [flats_append, h.1, h.2.1]; rfl) (h2.append k2))⟩)
    · cases e
  · cases e
theorem pu_add (ha : PuE cm X a fa) (hb : PuE cm X b fb) : PuE cm X (.BinOp a .Add b pos) (e2 addD fa fb) := pu_bin op_addA ok_add ha hb
theorem ok_sub {Γ : Ga} : OkOp Γ (rI0 fun i j => .int (i - j)) subD := by
  intro H a b c v u Q e ha hb hQ
  unfold subD at e
  split at e
  · cases e; cases ha; cases hb
    exact ⟨_, _, rfl, rfl, hQ _ _ (.atom rfl)⟩
  · cases e
theorem pu_sub (ha : PuE cm X a fa) (hb : PuE cm X b fb) : PuE cm X (.BinOp a .Sub b pos) (e2 subD fa fb) := pu_bin op_sub ok_sub ha hb
theorem flats_rep {xs : List D} (h : flats xs = true) : ∀ n : Nat, flats (List.replicate n xs).flatten = true
  | 0 => rfl
  | n + 1 => by rw [List.replicate_succ, List.flatten_cons, flats_append, h, flats_rep h n]; rfl
theorem Iss.rep {Γ : Ga} {H : Hp} {ds : List D} {vs : List V} (h : Iss Γ H ds vs) : ∀ n : Nat, Iss Γ H (List.replicate n ds).flatten (List.replicate n vs).flatten
  | 0 => rfl
  | n + 1 => by rw [List.replicate_succ, List.flatten_cons, List.replicate_succ, List.flatten_cons]; exact h.append (Iss.rep h n)
abbrev rMulA : R2 := fun x y H Q => rI CMul (fun i j => .int (i * j)) x y H Q ∨ rRep x y H Q
theorem ok_mul {Γ : Ga} : OkOp Γ rMulA mulD := by
  intro H a b c v u Q e ha hb hQ
  unfold mulD at e
  split at e
  · split at e
    · rename_i h
      cases e; cases ha; cases hb
      exact .inl ⟨_, _, rfl, rfl, h, hQ _ _ (.atom rfl)⟩
    · cases e
  · split at e
    · rename_i h
      cases e
      obtain ⟨p, vs, rfl, h1, h2⟩ := ha
      cases hb
      exact .inr ⟨_, _, _, rfl, rfl, h1, by omega, by omega, by rw [line_eq, h2.length]; exact h.2.2.2, fun l hl => hQ _ _ (born_lst hl (flats_rep h.1 _) (h2.rep _))⟩
    · cases e
  · cases e
theorem pu_mul (ha : PuE cm X a fa) (hb : PuE cm X b fb) : PuE cm X (.BinOp a .Mult b pos) (e2 mulD fa fb) := pu_bin (op_mul.or op_rep) ok_mul ha hb
theorem ok_fdiv {Γ : Ga} : OkOp Γ (rI CDiv fun i j => .int (i / j)) fdivD := by
  intro H a b c v u Q e ha hb hQ
  unfold fdivD at e
  split at e
  · split at e
    · rename_i h
      cases e; cases ha; cases hb
      exact ⟨_, _, rfl, rfl, h, hQ _ _ (.atom rfl)⟩
    · cases e
  · cases e
theorem pu_fdiv (ha : PuE cm X a fa) (hb : PuE cm X b fb) : PuE cm X (.BinOp a .FloorDiv b pos) (e2 fdivD fa fb) := pu_bin op_fdiv ok_fdiv ha hb
theorem ok_mod {Γ : Ga} : OkOp Γ (rI (fun _ j => 0 < j) fun i j => .int (i % j)) modD := by
  intro H a b c v u Q e ha hb hQ
  unfold modD at e
  split at e
  · split at e
    · rename_i h
      cases e; cases ha; cases hb
      exact ⟨_, _, rfl, rfl, h, hQ _ _ (.atom rfl)⟩
    · cases e
  · cases e
theorem pu_mod (ha : PuE cm X a fa) (hb : PuE cm X b fb) : PuE cm X (.BinOp a .Mod b pos) (e2 modD fa fb) := pu_bin op_mod ok_mod ha hb

/-! ### comparisons -/
def cmpD (p : Int → Int → Bool) : D → D → Option D
  | .int i, .int j => some (.bl (p i j))
  | _, _ => none
theorem ok_cmp {Γ : Ga} (p : Int → Int → Bool) : OkOp Γ (rI0 fun i j => .bl (p i j)) (cmpD p) := by
  intro H a b c v u Q e ha hb hQ
  unfold cmpD at e
  split at e
  · cases e; cases ha; cases hb
    exact ⟨_, _, rfl, rfl, hQ _ _ (.atom rfl)⟩
  · cases e
abbrev ltD := cmpD fun i j => decide (i < j)
abbrev leD := cmpD fun i j => decide (i ≤ j)
abbrev gtD := cmpD fun i j => decide (j < i)
abbrev geD := cmpD fun i j => decide (j ≤ i)
theorem pu_lt (ha : PuE cm X a fa) (hb : PuE cm X b fb) : PuE cm X (.Compare a [.Lt] [b] pos) (e2 ltD fa fb) := pu_cmp op_lt (ok_cmp _) ha hb
theorem pu_le (ha : PuE cm X a fa) (hb : PuE cm X b fb) : PuE cm X (.Compare a [.LtE] [b] pos) (e2 leD fa fb) := pu_cmp op_le (ok_cmp _) ha hb
theorem pu_gt (ha : PuE cm X a fa) (hb : PuE cm X b fb) : PuE cm X (.Compare a [.Gt] [b] pos) (e2 gtD fa fb) := pu_cmp op_gt (ok_cmp _) ha hb
theorem pu_ge (ha : PuE cm X a fa) (hb : PuE cm X b fb) : PuE cm X (.Compare a [.GtE] [b] pos) (e2 geD fa fb) := pu_cmp op_ge (ok_cmp _) ha hb

mutual
def toPy : D → Option PyData
  | .non => some .none
  | .bl b => some (.bool b)
  | .int i => some (.int i)
  | .str x => some (.str x)
  | .tup ds => (toPys ds).map .tuple
  | .lst ds => (toPys ds).map .list
  | _ => none
def toPys : List D → Option (List PyData)
  | [] => some []
  | d :: r => (toPy d).bind fun p => (toPys r).bind fun q => some (p :: q)
end
mutual
theorem dp_of {Γ : Ga} {H : Hp} : ∀ {d : D} {v : V} {p : PyData}, toPy d = some p → Is Γ H d v → Dp Γ.K H v p
  | .non, _, _, e, h => by rw [toPy] at e; cases e; cases h; exact .non
  | .bl _, _, _, e, h => by rw [toPy] at e; cases e; cases h; exact .bl _
  | .int _, _, _, e, h => by rw [toPy] at e; cases e; cases h; exact .int _
  | .str _, _, _, e, h => by rw [toPy] at e; cases e; cases h; exact .str _
  | .tup ds, _, _, e, ⟨a, vs, e1, h1, h2⟩ => by
    subst e1
    rw [toPy] at e
    cases q : toPys ds with
    | none => rw [q] at e; cases e
    | some ps => rw [q] at e; cases e; exact .tup (SqT.of h1) (dps_of q h2)
  | .lst ds, _, _, e, ⟨a, vs, e1, h1, h2⟩ => by
    subst e1
    rw [toPy] at e
    cases q : toPys ds with
    | none => rw [q] at e; cases e
    | some ps => rw [q] at e; cases e; exact .lst (SqL.of h1) (dps_of q h2)
  | .scr _, _, _, e, _ => by simp [toPy] at e
  | .dic _, _, _, e, _ => by simp [toPy] at e
  | .ins _ _, _, _, e, _ => by simp [toPy] at e
theorem dps_of {Γ : Ga} {H : Hp} : ∀ {d : List D} {v : List V} {p : List PyData}, toPys d = some p → Iss Γ H d v → DpAll Γ.K H v p
  | [], _, _, e, h => by rw [toPys] at e; cases e; cases h; exact .nil
  | d :: r, _, _, e, ⟨v, s, e1, h1, h2⟩ => by
    subst e1
    rw [toPys] at e
    cases q : toPy d with
    | none => simp [q] at e
    | some p =>
      cases q2 : toPys r with
      | none => simp [q, q2] at e
      | some ps =>
        simp [q, q2] at e
        subst e
        exact .cons (dp_of q h1) (dps_of q2 h2)
end
/-- Python's == of data -/
def eqD (a b : D) : Option Bool := (toPy a).bind fun p => (toPy b).bind fun q => if SeqAt.shaped p = true ∧ SeqAt.shaped q = true then some (PyData.eqv p q) else none
theorem eqD_some {a b : D} {k : Bool} (h : eqD a b = some k) : ∃ p q, toPy a = some p ∧ toPy b = some q ∧ SeqAt.shaped p = true ∧ SeqAt.shaped q = true ∧ k = PyData.eqv p q := by
  unfold eqD at h
  cases ea : toPy a with
  | none => simp [ea] at h
  | some p =>
    cases eb : toPy b with
    | none => simp [ea, eb] at h
    | some q =>
      simp [ea, eb] at h
      exact ⟨p, q, rfl, rfl, h.1.1, h.1.2, h.2.symm⟩
def eqDD (a b : D) : Option D := (eqD a b).map .bl
def neDD (a b : D) : Option D := (eqD a b).map fun k => .bl (!k)
theorem ok_eq {Γ : Ga} : OkOp Γ (rEqD Γ.K) eqDD := by
  intro H a b c v u Q e ha hb hQ
  unfold eqDD at e
  cases q : eqD a b with
  | none => rw [q] at e; cases e
  | some k =>
    rw [q] at e
    cases e
    obtain ⟨p, s, e1, e2, z1, z2, rfl⟩ := eqD_some q
    exact ⟨p, s, dp_of e1 ha, dp_of e2 hb, z1, z2, hQ _ _ (.atom rfl)⟩
theorem ok_ne {Γ : Ga} : OkOp Γ (rNeD Γ.K) neDD := by
  intro H a b c v u Q e ha hb hQ
  unfold neDD at e
  cases q : eqD a b with
  | none => rw [q] at e; cases e
  | some k =>
    rw [q] at e
    cases e
    obtain ⟨p, s, e1, e2, z1, z2, rfl⟩ := eqD_some q
    exact ⟨p, s, dp_of e1 ha, dp_of e2 hb, z1, z2, hQ _ _ (.atom rfl)⟩
theorem pu_eq (hu : X.A.units + 64 < cLine) (ha : PuE cm X a fa) (hb : PuE cm X b fb) : PuE cm X (.Compare a [.Eq] [b] pos) (e2 eqDD fa fb) := pu_cmp (op_eqD hu) ok_eq ha hb
theorem pu_ne (hu : X.A.units + 64 < cLine) (ha : PuE cm X a fa) (hb : PuE cm X b fb) : PuE cm X (.Compare a [.NotEq] [b] pos) (e2 neDD fa fb) := pu_cmp (op_neD hu) ok_ne ha hb
/-- is None -/
def isN : D → Bool
  | .non => true
  | _ => false
theorem isN_of {Γ : Ga} {H : Hp} {d : D} {v : V} (h : Is Γ H d v) : decide (v = .non) = isN d := by
  cases d with
  | non => cases h; rfl
  | bl => cases h; rfl
  | int => cases h; rfl
  | str => cases h; rfl
  | scr => obtain ⟨a, rfl, _⟩ := h; rfl
  | tup => obtain ⟨a, vs, rfl, _⟩ := h; rfl
  | lst => obtain ⟨a, vs, rfl, _⟩ := h; rfl
  | dic => obtain ⟨a, vs, rfl, _⟩ := h; rfl
  | ins => obtain ⟨a, dx, vs, rfl, _⟩ := h; rfl
def e1 (o : D → Option D) (f : EF) : EF := fun ρ => (f ρ).bind fun a => (o a.1).bind fun c => some (c, .new)
theorem e1_some {o : D → Option D} {f : EF} {ρ : Ev} {d : D} {m : Md} (h : e1 o f ρ = some (d, m)) : ∃ a m1, f ρ = some (a, m1) ∧ o a = some d ∧ m = .new := by
  unfold e1 at h
  cases ea : f ρ with
  | none => rw [ea] at h; cases h
  | some a =>
    rw [ea] at h
    cases ec : o a.1 with
    | none => simp [ec] at h
    | some c =>
      simp [ec] at h
      exact ⟨a.1, a.2, rfl, h.1 ▸ ec, h.2.symm⟩
def OkU (Γ : Ga) (r : V → Hp → VK → Prop) (o : D → Option D) : Prop :=
  ∀ (H : Hp) (a c : D) (v : V) (Q : VK), o a = some c → Is Γ H a v → (∀ w H', Born Γ H H' c w → Q w H') → r v H Q
theorem pu_op1 {e : Expr} {r : V → Hp → VK → Prop} {o : D → Option D} (ht : ∀ ta, PE X a ta → PE X e (fun σ H Q => ta σ H fun v H1 => r v H1 Q)) (ho : OkU (gx X cm) r o) (ha : PuE cm X a fa) : PuE cm X e (e1 o fa) := by
  obtain ⟨ta, pa, qa⟩ := ha
  refine ⟨_, ht ta pa, fun x B F ρ σ H d m Q ok hf hQ => ?_⟩
  obtain ⟨da, m1, ea, ed, rfl⟩ := e1_some hf
  refine qa x B F ρ σ H da m1 _ ok ea fun v B' H' g ok' hv => ?_
  refine ho H' da d v Q ed (hv.is ok') fun w H2 bn => ?_
  obtain ⟨B2, g2, ok2, hw⟩ := ok'.born' bn
  exact hQ w B2 H2 (g.trans g2) ok2 hw
def isND (d : D) : Option D := some (.bl (isN d))
def notND (d : D) : Option D := some (.bl (!isN d))
theorem pu_isN {j pos'} (ha : PuE cm X a fa) : PuE cm X (.Compare a [.Is] [.Constant .none j pos'] pos) (e1 isND fa) :=
  pu_op1 (r := fun v H Q => Q (.bl (decide (v = .non))) H) (fun _ pa => pe_cmp (pc_isN pa) rfl) (fun H d c v Q e h hQ => by cases e; rw [isN_of h]; exact hQ _ _ (.atom rfl)) ha
theorem pu_notN {j pos'} (ha : PuE cm X a fa) : PuE cm X (.Compare a [.IsNot] [.Constant .none j pos'] pos) (e1 notND fa) :=
  pu_op1 (r := fun v H Q => Q (.bl (!decide (v = .non))) H) (fun _ pa => pe_cmp (pc_notN pa) rfl) (fun H d c v Q e h hQ => by cases e; rw [isN_of h]; exact hQ _ _ (.atom rfl)) ha
def negD : D → Option D
  | .int i => some (.int (-i))
  | _ => none
theorem pu_neg (ha : PuE cm X a fa) : PuE cm X (.UnaryOp .USub a pos) (e1 negD fa) :=
  pu_op1 (fun _ pa => pe_un un_neg pa) (fun H d c v Q e h hQ => by
    unfold negD at e
    split at e
    · cases e; cases h; exact ⟨_, rfl, hQ _ _ (.atom rfl)⟩
    · cases e) ha
end
end DL

/-! DL5: in, subscripts, fields, and or not, slices, displays, calls. -/
namespace DL
open PySem L2

section
variable {cm : Nat → Addr} {X : Cx} {a b c : Expr} {fa fb fc : EF} {pos : Pos}

/-! ### dicts by key -/
def keyOf : D → Option Key
  | .int i => some (.inl i)
  | .str x => some (.inr x)
  | _ => none
theorem keyOf_is {Γ : Ga} {H : Hp} {d : D} {k : Key} {v : V} (h : keyOf d = some k) (i : Is Γ H d v) : v = kV k := by
  cases d <;> simp [keyOf] at h <;> subst h <;> exact i
theorem IsK.val {Γ : Ga} {H : Hp} : ∀ {ds : List (Key × D)} {vs : List (Key × V)} (k : Key), IsK Γ H ds vs → match getK ds k with
    | some d => ∃ v, valV vs k = some v ∧ Is Γ H d v
    | none => valV vs k = none
  | [], _, k, h => by rw [show _ = [] from h]; exact valV_nil
  | (k0, d) :: r, _, k, ⟨v, s, e, h1, h2⟩ => by
    subst e
    rw [getK]
    by_cases q : k0 = k
    · rw [if_pos q]; exact ⟨v, valV_pos (p := (k0, v)) q, h1⟩
    · rw [if_neg q, valV_neg (p := (k0, v)) q]; exact IsK.val k h2
theorem IsK.some {Γ : Ga} {H : Hp} {ds : List (Key × D)} {vs : List (Key × V)} {k : Key} {d : D} (h : IsK Γ H ds vs) (g : getK ds k = some d) : ∃ v, valV vs k = some v ∧ Is Γ H d v := by
  have q := h.val k
  rw [g] at q
  exact q
theorem IsK.isSome {Γ : Ga} {H : Hp} {ds : List (Key × D)} {vs : List (Key × V)} {k : Key} (h : IsK Γ H ds vs) : (valV vs k).isSome = (getK ds k).isSome := by
  have q := h.val k
  cases g : getK ds k with
  | none => rw [g] at q; rw [show valV vs k = none from q]; rfl
  | some d => rw [g] at q; obtain ⟨v, e, _⟩ := q; rw [e]; rfl
theorem op_din (hu : X.A.units + 1 < cLine) : OpR X (compareOp .In) (fun y x H Q => ∃ p o, x = .ref p ∧ DGet H p y o ∧ Q (.bl o.isSome) H) := by
  intro pins s σ H y x v u Q I ry rx h
  obtain ⟨p, o, rfl, g, q⟩ := h
  cases rx
  exact d_in hu I g ry fun s' I' => ⟨.bl _, H, I', rfl, q⟩
theorem op_dnotin (hu : X.A.units + 1 < cLine) : OpR X (compareOp .NotIn) (fun y x H Q => ∃ p o, x = .ref p ∧ DGet H p y o ∧ Q (.bl (!o.isSome)) H) := by
  intro pins s σ H y x v u Q I ry rx h
  obtain ⟨p, o, rfl, g, q⟩ := h
  cases rx
  exact d_notIn hu I g ry fun s' I' => ⟨.bl _, H, I', rfl, q⟩

/-! ### in -/
def atomsV : List D → Option (List V)
  | [] => some []
  | d :: r => (atomV d).bind fun v => (atomsV r).bind fun vs => some (v :: vs)
theorem atomsV_is {Γ : Ga} {H : Hp} : ∀ {ds : List D} {vs ws : List V}, atomsV ds = some vs → Iss Γ H ds ws → ws = vs
  | [], _, _, h, i => by cases h; exact i
  | d :: r, _, _, h, ⟨v, s, e, h1, h2⟩ => by
    subst e
    rw [atomsV] at h
    cases q : atomV d with
    | none => simp [q] at h
    | some v' =>
      cases q2 : atomsV r with
      | none => simp [q, q2] at h
      | some vs' =>
        simp [q, q2] at h
        subst h
        rw [atomV_is q h1, atomsV_is q2 h2]
theorem atomV_flatV {d : D} {v : V} (h : atomV d = some v) : flatV v = true := by
  cases d <;> simp [atomV] at h <;> subst h <;> rfl
theorem atomsV_flatV : ∀ {ds : List D} {vs : List V}, atomsV ds = some vs → vs.all flatV = true
  | [], _, h => by cases h; rfl
  | d :: r, _, h => by
    rw [atomsV] at h
    cases q : atomV d with
    | none => simp [q] at h
    | some v' =>
      cases q2 : atomsV r with
      | none => simp [q, q2] at h
      | some vs' =>
        simp [q, q2] at h
        subst h
        rw [List.all_cons, atomV_flatV q, atomsV_flatV q2]; rfl
def oneSign (x : Str) : Option Nat := match x.cps.toList with
  | [c] => some c
  | _ => none
theorem oneSign_eq {x : Str} {c : Nat} (h : oneSign x = some c) : x = ⟨#[c]⟩ := by
  unfold oneSign at h
  split at h
  · rename_i e
    cases h
    exact TL.ext_tl e
  · cases h
/-- x in c -/
def inB (x : D) : D → Option Bool
  | .lst ds => (toPy x).bind fun p => (toPys ds).bind fun ps => if SeqAt.shaped p = true ∧ SeqAt.shaped (.list ps) = true then some (ps.any fun z => PyData.eqv z p) else none
  | .tup ds => (atomV x).bind fun v => (atomsV ds).bind fun vs => some (inV v vs)
  | .dic kvs => (keyOf x).bind fun k => some (getK kvs k).isSome
  | .str z => match x with
    | .str y => (oneSign y).bind fun c => some (decide (c ∈ z.cps.toList))
    | _ => none
  | _ => none
def inD (x c : D) : Option D := (inB x c).map .bl
def ninD (x c : D) : Option D := (inB x c).map fun k => .bl (!k)
abbrev rInA (K : PySem.W.Frag) : R2 := fun x y H Q => rInD K x y H Q ∨ rIn K false x y H Q ∨ (∃ p o, y = .ref p ∧ DGet H p x o ∧ Q (.bl o.isSome) H) ∨ (∃ (c : Nat) (z : Str), x = .str ⟨#[c]⟩ ∧ y = .str z ∧ Q (.bl (decide (c ∈ z.cps.toList))) H)
abbrev rNinA (K : PySem.W.Frag) : R2 := fun x y H Q => rNotInD K x y H Q ∨ rIn K true x y H Q ∨ (∃ p o, y = .ref p ∧ DGet H p x o ∧ Q (.bl (!o.isSome)) H) ∨ (∃ (c : Nat) (z : Str), x = .str ⟨#[c]⟩ ∧ y = .str z ∧ Q (.bl (!decide (c ∈ z.cps.toList))) H)
theorem in_all {Γ : Ga} {H : Hp} {x c : D} {v u : V} {k : Bool} (h : inB x c = some k) (hx : Is Γ H x v) (hc : Is Γ H c u) :
    (∃ d ds, Dp Γ.K H v d ∧ Dp Γ.K H u (.list ds) ∧ SeqAt.shaped d = true ∧ SeqAt.shaped (.list ds) = true ∧ k = ds.any fun z => PyData.eqv z d) ∨
    (∃ p xs, u = .ref p ∧ (SqL Γ.K H p xs ∨ SqT Γ.K H p xs) ∧ flatV v = true ∧ xs.all flatV = true ∧ k = inV v xs) ∨
    (∃ p o, u = .ref p ∧ DGet H p v o ∧ k = o.isSome) ∨ (∃ (c : Nat) (z : Str), v = .str ⟨#[c]⟩ ∧ u = .str z ∧ k = decide (c ∈ z.cps.toList)) := by
  unfold inB at h
  split at h
  · rename_i ds
    cases e1 : toPy x with
    | none => simp [e1] at h
    | some p =>
      cases e2 : toPys ds with
      | none => simp [e1, e2] at h
      | some ps =>
        simp [e1, e2] at h
        exact .inl ⟨p, ps, dp_of e1 hx, dp_of (d := .lst ds) (by rw [toPy, e2]; rfl) hc, h.1.1, h.1.2, h.2.symm⟩
  · rename_i ds
    cases e1 : atomV x with
    | none => simp [e1] at h
    | some w =>
      cases e2 : atomsV ds with
      | none => simp [e1, e2] at h
      | some ws =>
        simp [e1, e2] at h
        obtain ⟨p, vs, rfl, h1, h2⟩ := hc
        cases atomV_is e1 hx
        cases atomsV_is e2 h2
        exact .inr (.inl ⟨p, _, rfl, .inr (SqT.of h1), atomV_flatV e1, atomsV_flatV e2, h.symm⟩)
  · rename_i kvs
    cases e1 : keyOf x with
    | none => simp [e1] at h
    | some w =>
      simp [e1] at h
      obtain ⟨p, vs, rfl, h1, h2⟩ := hc
      cases keyOf_is e1 hx
      exact .inr (.inr (.inl ⟨p, _, rfl, DGet.k h1, by rw [← h]; exact h2.isSome.symm⟩))
  · split at h
    · rename_i z _ y
      cases e1 : oneSign y with
      | none => simp [e1] at h
      | some w =>
        simp [e1] at h
        cases hx; cases hc
        exact .inr (.inr (.inr ⟨w, z, by rw [oneSign_eq e1], rfl, by rw [← h]; simp⟩))
    · cases h
  · cases h
theorem ok_in {Γ : Ga} : OkOp Γ (rInA Γ.K) inD := by
  intro H x y d v u Q e hx hy hQ
  unfold inD at e
  cases q : inB x y with
  | none => rw [q] at e; cases e
  | some k =>
    rw [q] at e
    cases e
    have fin := hQ (.bl k) H (.atom rfl)
    rcases in_all q hx hy with ⟨d, ds, h1, h2, h3, h4, rfl⟩ | ⟨p, xs, h1, h2, h3, h4, rfl⟩ | ⟨p, o, h1, h2, rfl⟩ | ⟨c, z, h1, h2, rfl⟩
    · exact .inl ⟨d, ds, h1, h2, h3, h4, fin⟩
    · exact .inr (.inl ⟨p, xs, h1, h2, h3, h4, fin⟩)
    · exact .inr (.inr (.inl ⟨p, o, h1, h2, fin⟩))
    · exact .inr (.inr (.inr ⟨c, z, h1, h2, fin⟩))
theorem ok_nin {Γ : Ga} : OkOp Γ (rNinA Γ.K) ninD := by
  intro H x y d v u Q e hx hy hQ
  unfold ninD at e
  cases q : inB x y with
  | none => rw [q] at e; cases e
  | some k =>
    rw [q] at e
    cases e
    have fin := hQ (.bl (!k)) H (.atom rfl)
    rcases in_all q hx hy with ⟨d, ds, h1, h2, h3, h4, rfl⟩ | ⟨p, xs, h1, h2, h3, h4, rfl⟩ | ⟨p, o, h1, h2, rfl⟩ | ⟨c, z, h1, h2, rfl⟩
    · exact .inl ⟨d, ds, h1, h2, h3, h4, fin⟩
    · exact .inr (.inl ⟨p, xs, h1, h2, h3, h4, fin⟩)
    · exact .inr (.inr (.inl ⟨p, o, h1, h2, fin⟩))
    · exact .inr (.inr (.inr ⟨c, z, h1, h2, fin⟩))
theorem pu_in (hu : X.A.units + 65 < cLine) (ha : PuE cm X a fa) (hb : PuE cm X b fb) (hm : behindInMarks .In b = false := by rfl) : PuE cm X (.Compare a [.In] [b] pos) (e2 inD fa fb) :=
  pu_cmp ((op_inD hu).or (op_in_seq.or ((op_din (by omega)).or op_in_sign))) ok_in ha hb hm
theorem pu_nin (hu : X.A.units + 65 < cLine) (ha : PuE cm X a fa) (hb : PuE cm X b fb) (hm : behindInMarks .NotIn b = false := by rfl) : PuE cm X (.Compare a [.NotIn] [b] pos) (e2 ninD fa fb) :=
  pu_cmp ((op_notInD hu).or (op_notIn_seq.or ((op_dnotin (by omega)).or op_notIn_sign))) ok_nin ha hb hm

/-! ### a part of a thing -/
/-- where a part comes from -/
def effm (m : Md) (d : D) : Md := if flat d = true then .new else m
/-- a part w of v: it stands wherever v stands -/
def PartOf (Γ : Ga) (H : Hp) (a c : D) (v w : V) : Prop := ∀ R : Hp, Same R H → Is Γ R a v → Is Γ R c w
theorem Val.part {Γ : Ga} {x : Fx} {B : Hp} {F : Nat → List Addr} {ρ : Ev} {σ : St} {H : Hp} (ok : Ok Γ x B F ρ σ H) {m : Md} {d c : D} {v w : V} (h : Val Γ x m B H d v) (p : PartOf Γ H d c v w) : Val Γ x (effm m c) B H c w := by
  unfold effm
  split
  · rename_i f
    have q : Is Γ H c w := p H (Same.refl H) (h.is ok)
    exact (Is.ofFlat f q).mono fun a o e => by
      obtain ⟨e1, xs, rfl⟩ := tupOf_some e
      exact ok.tup _ _ e1
  · cases m with
    | own => exact p H (Same.refl H) h
    | par => exact p _ ok.kp h
    | new => exact p _ ok.bh h
def OkIx (Γ : Ga) (r : R2) (o : D → D → Option D) : Prop :=
  ∀ (H : Hp) (a b c : D) (v u : V) (Q : VK), o a b = some c → Is Γ H a v → Is Γ H b u → (∀ w, PartOf Γ H a c v w → Q w H) → r v u H Q
def eIx (o : D → D → Option D) (f g : EF) : EF := fun ρ => (f ρ).bind fun a => (g ρ).bind fun b => (o a.1 b.1).bind fun c => some (c, effm a.2 c)
theorem eIx_some {o : D → D → Option D} {f g : EF} {ρ : Ev} {d : D} {m : Md} (h : eIx o f g ρ = some (d, m)) : ∃ a m1 b m2, f ρ = some (a, m1) ∧ g ρ = some (b, m2) ∧ o a b = some d ∧ m = effm m1 d := by
  unfold eIx at h
  cases ea : f ρ with
  | none => rw [ea] at h; cases h
  | some a =>
    cases eb : g ρ with
    | none => rw [ea, eb] at h; cases h
    | some b =>
      rw [ea, eb] at h
      cases ec : o a.1 b.1 with
      | none => simp [ec] at h
      | some c =>
        simp [ec] at h
        obtain ⟨rfl, rfl⟩ := h
        exact ⟨a.1, a.2, b.1, b.2, rfl, rfl, ec, rfl⟩
theorem ix_dict (hu : X.A.units + 1 < cLine) : IxR X (fun x y H Q => ∃ p v, x = .ref p ∧ DGet H p y (some v) ∧ Q v H) := by
  intro value slice pins s σ H x y v u Q I rx ry h hs
  obtain ⟨p, z, rfl, g, q⟩ := h
  cases rx
  exact PyProof.Rows.tail_any (dict_typeIs I g) PySem.F.slot_dict_getitem.lookup (d_getItem hu I g ry fun w' s3 I3 rw' => ⟨z, H, I3, rw', q⟩) hs
def ixD : D → D → Option D
  | .lst ds, .int i => atI ds i
  | .tup ds, .int i => atI ds i
  | .scr ns, .int i => (atI ns i).map .int
  | .str z, .int i => if z.length ≤ 16777216 then (atI z.cps.toList i).map fun c => .str ⟨#[c]⟩ else none
  | .dic kvs, k => (keyOf k).bind fun k => getK kvs k
  | _, _ => none
abbrev rIxA (K : PySem.W.Frag) : R2 := fun x y H Q => rIx K x y H Q ∨ ∃ p v, x = .ref p ∧ DGet H p y (some v) ∧ Q v H
theorem atI_iss {Γ : Ga} {H : Hp} {ds : List D} {vs : List V} {i : Int} {d : D} (h : Iss Γ H ds vs) (e : atI ds i = some d) : ∃ v, atI vs i = some v ∧ Is Γ H d v := by
  unfold atI at e ⊢
  rw [h.length]
  cases q : ixN ds.length i with
  | none => rw [q] at e; cases e
  | some j =>
    rw [q] at e
    exact h.get e
theorem atI_map {α β : Type} (f : α → β) (xs : List α) (i : Int) : atI (xs.map f) i = (atI xs i).map f := by
  unfold atI
  rw [List.length_map]
  cases ixN xs.length i with
  | none => rfl
  | some j => simp
theorem ok_ix {Γ : Ga} : OkIx Γ (rIxA Γ.K) ixD := by
  intro H a b c v u Q e ha hb hQ
  unfold ixD at e
  split at e
  · obtain ⟨p, vs, rfl, h1, h2⟩ := ha
    cases hb
    obtain ⟨w, e1, e2⟩ := atI_iss h2 e
    refine .inl (.inl ⟨p, vs, _, w, rfl, rfl, SqL.of h1, e1, hQ w fun R eR ⟨p', vs', ep, k1, k2⟩ => ?_⟩)
    cases ep
    have q := (eR _ _ k1).symm.trans h1
    cases q
    obtain ⟨w', e1', e2'⟩ := atI_iss k2 e
    rw [e1] at e1'
    cases e1'
    exact e2'
  · obtain ⟨p, vs, rfl, h1, h2⟩ := ha
    cases hb
    obtain ⟨w, e1, e2⟩ := atI_iss h2 e
    refine .inl (.inr (.inl ⟨p, vs, _, w, rfl, rfl, SqT.of h1, e1, hQ w fun R eR ⟨p', vs', ep, k1, k2⟩ => ?_⟩))
    cases ep
    have q := (eR _ _ k1).symm.trans h1
    cases q
    obtain ⟨w', e1', e2'⟩ := atI_iss k2 e
    rw [e1] at e1'
    cases e1'
    exact e2'
  · rename_i ns i
    obtain ⟨p, rfl, h1⟩ := ha
    cases hb
    cases q : atI ns i with
    | none => rw [q] at e; cases e
    | some n =>
      rw [q] at e
      cases e
      exact .inl (.inl ⟨p, _, _, .int n, rfl, rfl, h1, by rw [atI_map, q]; rfl, hQ _ fun R _ _ => rfl⟩)
  · rename_i z i
    split at e
    · rename_i hl
      cases ha
      cases hb
      cases q : atI z.cps.toList i with
      | none => rw [q] at e; cases e
      | some n =>
        rw [q] at e
        cases e
        exact .inl (.inr (.inr ⟨z, i, n, rfl, rfl, by rw [line_eq]; exact hl, q, hQ _ fun R _ _ => rfl⟩))
    · cases e
  · rename_i kvs k
    obtain ⟨p, vs, rfl, h1, h2⟩ := ha
    cases e1 : keyOf b with
    | none => simp [e1] at e
    | some k =>
      simp [e1] at e
      cases keyOf_is e1 hb
      obtain ⟨w, g1, g2⟩ := h2.some e
      refine .inr ⟨p, w, rfl, by rw [← g1]; exact DGet.k h1, hQ w fun R eR ⟨p', vs', ep, k1, k2⟩ => ?_⟩
      cases ep
      have q := (eR _ _ k1).symm.trans h1
      cases q
      obtain ⟨w', e1', e2'⟩ := k2.some e
      rw [g1] at e1'
      cases e1'
      exact e2'
  · cases e
theorem pu_ix (hu : X.A.units + 1 < cLine) (ha : PuE cm X a fa) (hb : PuE cm X b fb) (hs : PlainIx b := by intro _ _; rfl) : PuE cm X (.Subscript a b pos) (eIx ixD fa fb) := by
  obtain ⟨ta, pa, qa⟩ := ha
  obtain ⟨tb, pb, qb⟩ := hb
  refine ⟨_, pe_ix (ix_seq.or (ix_dict hu)) pa pb hs, fun x B F ρ σ H d m Q ok hf hQ => ?_⟩
  obtain ⟨da, m1, db, m2, ea, eb, ed, rfl⟩ := eIx_some hf
  refine two (R := fun v u H2 => rIxA X.K v u H2 Q) qa qb ok ea eb fun v u B' H' g ok' hv hu => ?_
  exact ok_ix (Γ := gx X cm) H' da db d v u Q ed (hv.is ok') (hu.is ok') fun w pw => hQ w B' H' g ok' (hv.part ok' pw)

/-! ### fields of an instance -/
theorem IsF.some {Γ : Ga} {H : Hp} : ∀ {ds : List (Str × D)} {vs : List (Str × V)} {k : Str} {d : D}, IsF Γ H ds vs → getF ds k = some d → ∃ v, vs.lookup k = some v ∧ Is Γ H d v
  | [], _, _, _, _, e => by simp [getF] at e
  | (k0, d0) :: r, _, k, d, ⟨v, s, e, h1, h2⟩, g => by
    subst e
    rw [getF] at g
    by_cases q : k0 = k
    · rw [if_pos q] at g
      cases g
      exact ⟨v, by rw [q]; exact lookup_pos, h1⟩
    · rw [if_neg q] at g
      obtain ⟨w, e1, e2⟩ := IsF.some h2 g
      exact ⟨w, (lookup_neg q).trans e1, e2⟩
theorem IsF.none {Γ : Ga} {H : Hp} : ∀ {ds : List (Str × D)} {vs : List (Str × V)} {k : Str}, IsF Γ H ds vs → getF ds k = none → vs.lookup k = none
  | [], _, _, h, _ => by rw [show _ = [] from h]; rfl
  | (k0, d0) :: r, _, k, ⟨v, s, e, h1, h2⟩, g => by
    subst e
    rw [getF] at g
    by_cases q : k0 = k
    · rw [if_pos q] at g; cases g
    · rw [if_neg q] at g
      exact (lookup_neg q).trans (IsF.none h2 g)
def fldD (n : Nat) (f : Str) : D → Option D
  | .ins c fs => if c = n then getF fs f else none
  | _ => none
def eFld (n : Nat) (f : Str) (g : EF) : EF := fun ρ => (g ρ).bind fun a => (fldD n f a.1).bind fun c => some (c, effm a.2 c)
theorem eFld_some {n : Nat} {f : Str} {g : EF} {ρ : Ev} {d : D} {m : Md} (h : eFld n f g ρ = some (d, m)) : ∃ fs m1, g ρ = some (.ins n fs, m1) ∧ getF fs f = some d ∧ m = effm m1 d := by
  unfold eFld at h
  cases ea : g ρ with
  | none => rw [ea] at h; cases h
  | some a =>
    rw [ea] at h
    obtain ⟨a, ma⟩ := a
    cases a with
    | ins c fs =>
      simp only [Option.bind_some, fldD] at h
      by_cases q : c = n
      · rw [if_pos q] at h
        subst q
        cases ec : getF fs f with
        | none => rw [ec] at h; cases h
        | some e =>
          rw [ec] at h
          simp at h
          obtain ⟨rfl, rfl⟩ := h
          exact ⟨fs, ma, rfl, ec, rfl⟩
      · rw [if_neg q] at h; cases h
    | _ => simp [fldD] at h
theorem pu_fld (n : Nat) {f : Str} (hc : Cls X.K (cm n)) (hn : NoAttr X.K (cm n) f) (ha : PuE cm X a fa) (hb : attributeBase a f X.env (eval a X.env) = eval a X.env := by rfl) : PuE cm X (.Attribute a f pos) (eFld n f fa) := by
  obtain ⟨ta, pa, qa⟩ := ha
  refine ⟨_, pe_fld pa hb, fun x B F ρ σ H d m Q ok hf hQ => ?_⟩
  obtain ⟨fs, m1, ea, ed, rfl⟩ := eFld_some hf
  refine qa x B F ρ σ H _ m1 _ ok ea fun v B' H' g ok' hv => ?_
  obtain ⟨p, dx, vs, rfl, h1, h2⟩ := hv.is ok'
  obtain ⟨w, e1, e2⟩ := h2.some ed
  refine ⟨p, cm n, dx, vs, w, rfl, h1, hc, hn, e1, hQ w B' H' g ok' (hv.part ok' fun R eR ⟨p', dx', vs', ep, k1, k2⟩ => ?_)⟩
  cases ep
  have q := (eR _ _ k1).symm.trans h1
  cases q
  obtain ⟨w', e1', e2'⟩ := k2.some ed
  rw [e1] at e1'
  cases e1'
  exact e2'

/-! ### truth -/
def blD : D → Option Bool
  | .bl b => some b
  | _ => none
def tE (f : EF) : Ev → Option Bool := fun ρ => (f ρ).bind fun a => blD a.1
theorem tE_some {f : EF} {ρ : Ev} {k : Bool} (h : tE f ρ = some k) : ∃ m, f ρ = some (.bl k, m) := by
  unfold tE at h
  cases ea : f ρ with
  | none => rw [ea] at h; cases h
  | some a =>
    rw [ea] at h
    obtain ⟨a, m⟩ := a
    cases a <;> simp [blD] at h
    subst h
    exact ⟨m, rfl⟩
theorem put_val (ha : PuE cm X a fa) (he : ∀ whole, isTrue a X.env whole = (do let v ← whole; standAt a.pos; holding [v] (truthy v)) := by intro _; rfl) : PuT cm X a (tE fa) := by
  obtain ⟨ta, pa, qa⟩ := ha
  refine ⟨_, pt_val pa he, fun x B F ρ σ H k Q ok hf hQ => ?_⟩
  obtain ⟨m, e⟩ := tE_some hf
  refine qa x B F ρ σ H _ m _ ok e fun v B' H' g ok' hv => ?_
  cases hv.is ok'
  exact ⟨k, rfl, hQ B' H' g ok'⟩
/-- a comparison as a test -/
theorem put_cmp {op : CmpOp} {r : R2} {o : D → D → Option D} (hr : OpR X (compareOp op) r) (ho : OkOp (gx X cm) r o) (ha : PuE cm X a fa) (hb : PuE cm X b fb) (hm : behindInMarks op b = false) : PuT cm X (.Compare a [op] [b] pos) (tE (e2 o fa fb)) := by
  obtain ⟨ta, pa, qa⟩ := ha
  obtain ⟨tb, pb, qb⟩ := hb
  refine ⟨_, pt_cmpR hr pa pb hm, fun x B F ρ σ H k Q ok hf hQ => ?_⟩
  obtain ⟨m, e⟩ := tE_some hf
  obtain ⟨da, m1, db, m2, ea, eb, ed, rfl⟩ := e2_some e
  refine two (R := fun v u H2 => r v u H2 fun x H' => ∃ k, x = .bl k ∧ Q k H') qa qb ok ea eb fun v u B' H' g ok' hv hu => ?_
  refine ho H' da db _ v u _ ed (hv.is ok') (hu.is ok') fun w H2 bn => ?_
  obtain ⟨B2, g2, ok2, hw⟩ := ok'.born' bn
  cases hw
  exact ⟨k, rfl, hQ B2 H2 (g.trans g2) ok2⟩
theorem put_lt (ha : PuE cm X a fa) (hb : PuE cm X b fb) : PuT cm X (.Compare a [.Lt] [b] pos) (tE (e2 ltD fa fb)) := put_cmp op_lt (ok_cmp _) ha hb (nomark _)
theorem put_le (ha : PuE cm X a fa) (hb : PuE cm X b fb) : PuT cm X (.Compare a [.LtE] [b] pos) (tE (e2 leD fa fb)) := put_cmp op_le (ok_cmp _) ha hb (nomark _)
theorem put_gt (ha : PuE cm X a fa) (hb : PuE cm X b fb) : PuT cm X (.Compare a [.Gt] [b] pos) (tE (e2 gtD fa fb)) := put_cmp op_gt (ok_cmp _) ha hb (nomark _)
theorem put_ge (ha : PuE cm X a fa) (hb : PuE cm X b fb) : PuT cm X (.Compare a [.GtE] [b] pos) (tE (e2 geD fa fb)) := put_cmp op_ge (ok_cmp _) ha hb (nomark _)
theorem put_eq (hu : X.A.units + 64 < cLine) (ha : PuE cm X a fa) (hb : PuE cm X b fb) : PuT cm X (.Compare a [.Eq] [b] pos) (tE (e2 eqDD fa fb)) := put_cmp (op_eqD hu) ok_eq ha hb (nomark _)
theorem put_ne (hu : X.A.units + 64 < cLine) (ha : PuE cm X a fa) (hb : PuE cm X b fb) : PuT cm X (.Compare a [.NotEq] [b] pos) (tE (e2 neDD fa fb)) := put_cmp (op_neD hu) ok_ne ha hb (nomark _)
theorem put_in (hu : X.A.units + 65 < cLine) (ha : PuE cm X a fa) (hb : PuE cm X b fb) (hm : behindInMarks .In b = false := by rfl) : PuT cm X (.Compare a [.In] [b] pos) (tE (e2 inD fa fb)) :=
  put_cmp ((op_inD hu).or (op_in_seq.or ((op_din (by omega)).or op_in_sign))) ok_in ha hb hm
theorem put_nin (hu : X.A.units + 65 < cLine) (ha : PuE cm X a fa) (hb : PuE cm X b fb) (hm : behindInMarks .NotIn b = false := by rfl) : PuT cm X (.Compare a [.NotIn] [b] pos) (tE (e2 ninD fa fb)) :=
  put_cmp ((op_notInD hu).or (op_notIn_seq.or ((op_dnotin (by omega)).or op_notIn_sign))) ok_nin ha hb hm
theorem put_isN {j pos'} (ha : PuE cm X a fa) : PuT cm X (.Compare a [.Is] [.Constant .none j pos'] pos) (tE (e1 isND fa)) := by
  obtain ⟨ta, pa, qa⟩ := ha
  refine ⟨_, pt_cmp (pc_isN pa) rfl, fun x B F ρ σ H k Q ok hf hQ => ?_⟩
  obtain ⟨m, e⟩ := tE_some hf
  obtain ⟨da, m1, ea, ed, rfl⟩ := e1_some e
  cases ed
  exact qa x B F ρ σ H da m1 _ ok ea fun v B' H' g ok' hv => ⟨_, rfl, by rw [isN_of (hv.is ok')]; exact hQ B' H' g ok'⟩
theorem put_notN {j pos'} (ha : PuE cm X a fa) : PuT cm X (.Compare a [.IsNot] [.Constant .none j pos'] pos) (tE (e1 notND fa)) := by
  obtain ⟨ta, pa, qa⟩ := ha
  refine ⟨_, pt_cmp (pc_notN pa) rfl, fun x B F ρ σ H k Q ok hf hQ => ?_⟩
  obtain ⟨m, e⟩ := tE_some hf
  obtain ⟨da, m1, ea, ed, rfl⟩ := e1_some e
  cases ed
  exact qa x B F ρ σ H da m1 _ ok ea fun v B' H' g ok' hv => ⟨_, rfl, by rw [isN_of (hv.is ok')]; exact hQ B' H' g ok'⟩
structure PuW (cm : Nat → Addr) (X : Cx) (e : Expr) (f : Ev → Option Bool) : Prop where
  ex : ∃ t, PW X e t ∧ ∀ (x : Fx) (B : Hp) (F : Nat → List Addr) (ρ : Ev) (σ : St) (H : Hp) (b : Bool) (Q : Bool → Hp → Prop), Ok (gx X cm) x B F ρ σ H → f ρ = some b →
    (∀ B' H', Gr B H B' H' → Ok (gx X cm) x B' F ρ σ H' → Q b H') → t σ H Q
theorem PuW.pt {f : Ev → Option Bool} (h : PuW cm X a f) : PuT cm X a f := by
  obtain ⟨t, p, q⟩ := h.ex
  exact ⟨t, p.pt, q⟩
variable {ga gb : Ev → Option Bool} {rest : List Expr}
def tAndD (f g : Ev → Option Bool) : Ev → Option Bool := fun ρ => (f ρ).bind fun k => if k = true then g ρ else some false
def tOrD (f g : Ev → Option Bool) : Ev → Option Bool := fun ρ => (f ρ).bind fun k => if k = true then some true else g ρ
def tNotD (f : Ev → Option Bool) : Ev → Option Bool := fun ρ => (f ρ).map not
theorem putw_one_and (h : PuT cm X a ga) : PuW cm X (.BoolOp .And [a] pos) ga := by
  obtain ⟨t, p, q⟩ := h
  exact ⟨t, pw_and1 p, q⟩
theorem putw_one_or (h : PuT cm X a ga) : PuW cm X (.BoolOp .Or [a] pos) ga := by
  obtain ⟨t, p, q⟩ := h
  exact ⟨t, pw_or1 p, q⟩
theorem putw_and (h : PuT cm X a ga) (k : PuW cm X (.BoolOp .And (b :: rest) pos) gb) : PuW cm X (.BoolOp .And (a :: b :: rest) pos) (tAndD ga gb) := by
  obtain ⟨t, p, q⟩ := h
  obtain ⟨t2, p2, q2⟩ := k.ex
  refine ⟨_, pw_and p p2, fun x B F ρ σ H k Q ok hf hQ => ?_⟩
  unfold tAndD at hf
  cases e : ga ρ with
  | none => rw [e] at hf; cases hf
  | some c =>
    rw [e] at hf
    refine q x B F ρ σ H c _ ok e fun B' H' g ok' => ?_
    cases c with
    | true => exact iteT (q2 x B' F ρ σ H' k _ ok' (by simpa using hf) fun B2 H2 g2 ok2 => hQ B2 H2 (g.trans g2) ok2)
    | false => simp at hf; subst hf; exact iteF (hQ B' H' g ok')
theorem putw_or (h : PuT cm X a ga) (k : PuW cm X (.BoolOp .Or (b :: rest) pos) gb) : PuW cm X (.BoolOp .Or (a :: b :: rest) pos) (tOrD ga gb) := by
  obtain ⟨t, p, q⟩ := h
  obtain ⟨t2, p2, q2⟩ := k.ex
  refine ⟨_, pw_or p p2, fun x B F ρ σ H k Q ok hf hQ => ?_⟩
  unfold tOrD at hf
  cases e : ga ρ with
  | none => rw [e] at hf; cases hf
  | some c =>
    rw [e] at hf
    refine q x B F ρ σ H c _ ok e fun B' H' g ok' => ?_
    cases c with
    | false => exact iteF (q2 x B' F ρ σ H' k _ ok' (by simpa using hf) fun B2 H2 g2 ok2 => hQ B2 H2 (g.trans g2) ok2)
    | true => simp at hf; subst hf; exact iteT (hQ B' H' g ok')
theorem put_not (h : PuT cm X a ga) : PuT cm X (.UnaryOp .Not a pos) (tNotD ga) := by
  obtain ⟨t, p, q⟩ := h
  refine ⟨_, pt_not p, fun x B F ρ σ H k Q ok hf hQ => ?_⟩
  unfold tNotD at hf
  cases e : ga ρ with
  | none => rw [e] at hf; cases hf
  | some c =>
    rw [e] at hf
    cases hf
    exact q x B F ρ σ H c _ ok e fun B' H' g ok' => hQ B' H' g ok'
/-- values True and False -/
def eAnd (f g : EF) : EF := fun ρ => (f ρ).bind fun a => (blD a.1).bind fun k => if k = true then g ρ else some (.bl false, .new)
def eOr (f g : EF) : EF := fun ρ => (f ρ).bind fun a => (blD a.1).bind fun k => if k = true then some (.bl true, .new) else g ρ
def notD : D → Option D
  | .bl b => some (.bl !b)
  | _ => none
theorem pu_one {op} (h : PuE cm X a fa) : PuE cm X (.BoolOp op [a] pos) fa := by
  obtain ⟨t, p, q⟩ := h
  exact ⟨t, pe_one p, q⟩
theorem pu_and (h : PuE cm X a fa) (k : PuE cm X (.BoolOp .And (b :: rest) pos) fb) : PuE cm X (.BoolOp .And (a :: b :: rest) pos) (eAnd fa fb) := by
  obtain ⟨t, p, q⟩ := h
  obtain ⟨t2, p2, q2⟩ := k
  refine ⟨_, pe_and p p2, fun x B F ρ σ H d m Q ok hf hQ => ?_⟩
  unfold eAnd at hf
  cases e : fa ρ with
  | none => rw [e] at hf; cases hf
  | some c =>
    rw [e] at hf
    obtain ⟨c, mc⟩ := c
    cases c <;> simp [blD] at hf
    rename_i c
    refine q x B F ρ σ H _ mc _ ok e fun v B' H' g ok' hv => ?_
    cases hv.is ok'
    refine ⟨c, rfl, ?_⟩
    cases c with
    | true => exact iteT (q2 x B' F ρ σ H' d m _ ok' (by simpa using hf) fun v B2 H2 g2 ok2 hv => hQ v B2 H2 (g.trans g2) ok2 hv)
    | false => simp at hf; obtain ⟨rfl, rfl⟩ := hf; exact iteF (hQ _ B' H' g ok' rfl)
theorem pu_or (h : PuE cm X a fa) (k : PuE cm X (.BoolOp .Or (b :: rest) pos) fb) : PuE cm X (.BoolOp .Or (a :: b :: rest) pos) (eOr fa fb) := by
  obtain ⟨t, p, q⟩ := h
  obtain ⟨t2, p2, q2⟩ := k
  refine ⟨_, pe_or p p2, fun x B F ρ σ H d m Q ok hf hQ => ?_⟩
  unfold eOr at hf
  cases e : fa ρ with
  | none => rw [e] at hf; cases hf
  | some c =>
    rw [e] at hf
    obtain ⟨c, mc⟩ := c
    cases c <;> simp [blD] at hf
    rename_i c
    refine q x B F ρ σ H _ mc _ ok e fun v B' H' g ok' hv => ?_
    cases hv.is ok'
    refine ⟨c, rfl, ?_⟩
    cases c with
    | false => exact iteF (q2 x B' F ρ σ H' d m _ ok' (by simpa using hf) fun v B2 H2 g2 ok2 hv => hQ v B2 H2 (g.trans g2) ok2 hv)
    | true => simp at hf; obtain ⟨rfl, rfl⟩ := hf; exact iteT (hQ _ B' H' g ok' rfl)
theorem pu_not (ha : PuE cm X a fa) : PuE cm X (.UnaryOp .Not a pos) (e1 notD fa) :=
  pu_op1 (r := fun v H Q => ∃ c, v = .bl c ∧ Q (.bl (!c)) H) (fun _ pa => pe_not pa) (fun H d c v Q e h hQ => by
    unfold notD at e
    split at e
    · cases e; cases h; exact ⟨_, rfl, hQ _ _ (.atom rfl)⟩
    · cases e) ha
def eIf (t : Ev → Option Bool) (f g : EF) : EF := fun ρ => (t ρ).bind fun k => if k = true then f ρ else g ρ
theorem pu_if (ht : PuT cm X c gb) (ha : PuE cm X a fa) (hb : PuE cm X b fb) : PuE cm X (.IfExp c a b pos) (eIf gb fa fb) := by
  obtain ⟨t, p, q⟩ := ht
  obtain ⟨ta, pa, qa⟩ := ha
  obtain ⟨tb, pb, qb⟩ := hb
  refine ⟨_, pe_ifExp p pa pb, fun x B F ρ σ H d m Q ok hf hQ => ?_⟩
  unfold eIf at hf
  cases e : gb ρ with
  | none => rw [e] at hf; cases hf
  | some k =>
    rw [e] at hf
    refine q x B F ρ σ H k _ ok e fun B' H' g ok' => ?_
    cases k with
    | true => exact iteT (qa x B' F ρ σ H' d m _ ok' (by simpa using hf) fun v B2 H2 g2 ok2 hv => hQ v B2 H2 (g.trans g2) ok2 hv)
    | false => exact iteF (qb x B' F ρ σ H' d m _ ok' (by simpa using hf) fun v B2 H2 g2 ok2 hv => hQ v B2 H2 (g.trans g2) ok2 hv)
end
end DL

/-! DL6: arguments, displays, slices, calls of defs and of built-ins. -/
namespace DL
open PySem L2

section
variable {cm : Nat → Addr} {X : Cx} {a b c e : Expr} {es : List Expr} {fa fb fc : EF} {pos : Pos}
abbrev AF := Ev → Option (List (D × Md))
/-! ### arguments -/
def aNil : AF := fun _ => some []
def aCons (f : EF) (g : AF) : AF := fun ρ => (f ρ).bind fun a => (g ρ).bind fun r => some (a :: r)
theorem aCons_some {f : EF} {g : AF} {ρ : Ev} {as : List (D × Md)} (h : aCons f g ρ = some as) : ∃ a r, f ρ = some a ∧ g ρ = some r ∧ as = a :: r := by
  unfold aCons at h
  cases ea : f ρ with
  | none => rw [ea] at h; cases h
  | some a =>
    cases eb : g ρ with
    | none => rw [ea, eb] at h; cases h
    | some r =>
      rw [ea, eb] at h
      cases h
      exact ⟨a, r, rfl, rfl, rfl⟩
theorem pua_nil : PuA cm X [] aNil :=
  ⟨_, pa_nil, fun x B F ρ σ H ds Q ok hf hQ => by cases hf; exact hQ [] B H (Gr.refl B H) ok .nil⟩
theorem pua_cons {f : EF} {g : AF} (ha : PuE cm X e f) (hr : PuA cm X es g) (hs : starEach (e :: es) X.env = (false, eval e X.env) :: starEach es X.env := by rfl) : PuA cm X (e :: es) (aCons f g) := by
  obtain ⟨ta, pa, qa⟩ := ha
  obtain ⟨tr, pr, qr⟩ := hr
  refine ⟨_, pa_cons pa pr hs, fun x B F ρ σ H ds Q ok hf hQ => ?_⟩
  obtain ⟨⟨d, m⟩, r, e1, e2, rfl⟩ := aCons_some hf
  refine qa x B F ρ σ H d m _ ok e1 fun v B1 H1 g1 ok1 hv => ?_
  refine qr x B1 F ρ σ H1 r _ ok1 e2 fun vs B2 H2 g2 ok2 hvs => ?_
  exact hQ (v :: vs) B2 H2 (g1.trans g2) ok2 (.cons (hv.mono g2) hvs)
theorem paired_iss {Γ : Ga} {x : Fx} {B : Hp} {F : Nat → List Addr} {ρ : Ev} {σ : St} {H : Hp} (ok : Ok Γ x B F ρ σ H) : ∀ {ds : List (D × Md)} {vs : List V}, Paired (fun (p : D × Md) v => Val Γ x p.2 B H p.1 v) ds vs → Iss Γ H (ds.map (·.1)) vs
  | _, _, .nil => rfl
  | _, _, .cons h t => ⟨_, _, rfl, h.is ok, paired_iss ok t⟩
def isNew : Md → Bool
  | .new => true
  | _ => false
def okNew : List (D × Md) → Bool
  | [] => true
  | p :: r => (flat p.1 || isNew p.2) && okNew r
theorem Val.new {Γ : Ga} {x : Fx} {B : Hp} {F : Nat → List Addr} {ρ : Ev} {σ : St} {H : Hp} (ok : Ok Γ x B F ρ σ H) {d : D} {m : Md} {v : V} (f : (flat d || isNew m) = true) (h : Val Γ x m B H d v) : Is Γ B d v := by
  by_cases q : flat d = true
  · exact (Is.ofFlat q (h.is ok)).mono fun a o e => by
      obtain ⟨e1, xs, rfl⟩ := tupOf_some e
      exact ok.tup _ _ e1
  · rw [Bool.not_eq_true] at q
    rw [q] at f
    cases m with
    | new => exact h
    | _ => simp [isNew] at f
theorem paired_issNew {Γ : Ga} {x : Fx} {B : Hp} {F : Nat → List Addr} {ρ : Ev} {σ : St} {H : Hp} (ok : Ok Γ x B F ρ σ H) : ∀ {ds : List (D × Md)} {vs : List V}, okNew ds = true → Paired (fun (p : D × Md) v => Val Γ x p.2 B H p.1 v) ds vs → Iss Γ B (ds.map (·.1)) vs
  | _, _, _, .nil => rfl
  | (d, m) :: r, _, f, .cons h t => by
    rw [okNew, Bool.and_eq_true] at f
    exact ⟨_, _, rfl, Val.new ok f.1 h, paired_issNew ok f.2 t⟩
theorem upd_upd_same {H B : Hp} (s : Same B H) {p : Addr} {o : HO} : Same (upd B p o) (upd H p o) := fun b u e => by
  by_cases q : b = p
  · subst q; rw [upd_same] at e ⊢; exact e
  · rw [upd_ne q] at e ⊢; exact s _ _ e
theorem same_upd {H : Hp} {p : Addr} {o : HO} (hp : H p = none) : Same H (upd H p o) := fun b u e => by
  rw [upd_ne (fun q => by rw [q, hp] at e; cases e)]
  exact e
/-- a new thing is laid, and known -/
theorem Ok.laid {Γ : Ga} {x : Fx} {B : Hp} {F : Nat → List Addr} {ρ : Ev} {σ : St} {H : Hp} (ok : Ok Γ x B F ρ σ H) {p : Addr} {o : HO} (hp : H p = none) : Gr B H (upd B p o) (upd H p o) ∧ Ok Γ x (upd B p o) F ρ σ (upd H p o) := by
  have hb : B p = none := Same.free ok.bh hp
  have g : Gr B H (upd B p o) (upd H p o) := ⟨same_upd hp, same_upd hb, fun a u e => by
    by_cases q : a = p
    · subst q; exact .inr (.inr hp)
    · rw [upd_ne q] at e; exact .inr (.inl e)⟩
  refine ⟨g, ok.grow g.hh g.bb (upd_upd_same ok.bh) (fun a xs e => ?_) g.new⟩
  by_cases q : a = p
  · subst q; rw [upd_same] at e ⊢; exact e
  · rw [upd_ne q] at e ⊢; exact ok.tup _ _ e
def eDisp (mk : List D → D) (f : AF) : EF := fun ρ => (f ρ).bind fun as => if okNew as = true ∧ as.length ≤ 16777216 then some (mk (as.map (·.1)), .new) else none
theorem paired_len {α β : Type} {G : α → β → Prop} : ∀ {l : List α} {m : List β}, Paired G l m → l.length = m.length
  | _, _, .nil => rfl
  | _, _, .cons _ t => by rw [List.length_cons, List.length_cons, paired_len t]
theorem pu_disp {mk : List D → D} {o : List V → HO} {f : AF} (ht : ∀ t, PA X es t → PE X e (fun σ H Q => t σ H fun xs H1 => xs.length ≤ sizeLine ∧ ∀ p, H1 p = none → Q (.ref p) (upd H1 p (o xs))))
    (hi : ∀ (B : Hp) p ds vs, Iss (gx X cm) (upd B p (o vs)) ds vs → Is (gx X cm) (upd B p (o vs)) (mk ds) (.ref p)) (ha : PuA cm X es f) : PuE cm X e (eDisp mk f) := by
  obtain ⟨t, p, q⟩ := ha
  refine ⟨_, ht t p, fun x B F ρ σ H d m Q ok hf hQ => ?_⟩
  unfold eDisp at hf
  cases ea : f ρ with
  | none => rw [ea] at hf; cases hf
  | some as =>
    rw [ea] at hf
    simp only [Option.bind_some] at hf
    split at hf
    · rename_i h
      cases hf
      refine q x B F ρ σ H as _ ok ea fun vs B' H' g ok' hvs => ?_
      refine ⟨by rw [line_eq, ← paired_len hvs]; exact h.2, fun l hl => ?_⟩
      obtain ⟨g2, ok2⟩ := ok'.laid (o := o vs) hl
      exact hQ _ _ _ (g.trans g2) ok2 (hi B' l _ vs ((paired_issNew ok' h.1 hvs).mono g2.bb))
    · cases hf
theorem pu_tup {k} {f : AF} (ha : PuA cm X es f) : PuE cm X (.Tuple es k pos) (eDisp .tup f) :=
  pu_disp (o := .tup) (fun t p => pe_tup p) (fun B p ds vs h => ⟨p, vs, rfl, upd_same, h⟩) ha
theorem pu_lst {f : AF} (ha : PuA cm X es f) : PuE cm X (.List es pos) (eDisp .lst f) :=
  pu_disp (o := .lst) (fun t p => pe_lst p) (fun B p ds vs h => ⟨p, vs, rfl, upd_same, h⟩) ha

/-! ### slices -/
abbrev OF := Ev → Option (Option Int)
def PuO (cm : Nat → Addr) (X : Cx) (e : Option Expr) (f : OF) : Prop :=
  ∃ t, PO X e t ∧ ∀ (x : Fx) (B : Hp) (F : Nat → List Addr) (ρ : Ev) (σ : St) (H : Hp) (o : Option Int) (Q : Option Int → Hp → Prop), Ok (gx X cm) x B F ρ σ H → f ρ = some o →
    (∀ B' H', Gr B H B' H' → Ok (gx X cm) x B' F ρ σ H' → Q o H') → t σ H Q
def oNone : OF := fun _ => some none
def intD : D → Option Int
  | .int i => some i
  | _ => none
def oSome (f : EF) : OF := fun ρ => (f ρ).bind fun a => (intD a.1).map some
theorem puo_none : PuO cm X none oNone := ⟨_, po_none, fun x B F ρ σ H o Q ok hf hQ => by cases hf; exact hQ B H (Gr.refl B H) ok⟩
theorem puo_some (h : PuE cm X e fa) : PuO cm X (some e) (oSome fa) := by
  obtain ⟨t, p, q⟩ := h
  refine ⟨_, po_some p, fun x B F ρ σ H o Q ok hf hQ => ?_⟩
  unfold oSome at hf
  cases ea : fa ρ with
  | none => rw [ea] at hf; cases hf
  | some a =>
    rw [ea] at hf
    obtain ⟨a, m⟩ := a
    cases a <;> simp [intD] at hf
    subst hf
    refine q x B F ρ σ H _ m _ ok ea fun v B' H' g ok' hv => ?_
    cases hv.is ok'
    exact ⟨_, rfl, hQ B' H' g ok'⟩
/-- xs[lo:hi] -/
def cutL {α : Type} (xs : List α) (lo hi : Option Int) : List α := (xs.drop (HT.sIx xs.length 0 lo)).take (HT.sIx xs.length xs.length hi - HT.sIx xs.length 0 lo)
def slD (a : D) (lo hi : Option Int) : Option D := match a with
  | .lst ds => if flats ds = true then some (.lst (cutL ds lo hi)) else none
  | .tup ds => if flats ds = true then some (.tup (cutL ds lo hi)) else none
  | .scr ns => some (.lst ((cutL ns lo hi).map .int))
  | .str z => if z.length ≤ 16777216 then some (.str (cutS z lo hi)) else none
  | _ => none
theorem Iss.cut {Γ : Ga} {H : Hp} {ds : List D} {vs : List V} (h : Iss Γ H ds vs) (lo hi : Option Int) : Iss Γ H (cutL ds lo hi) (cutV vs lo hi) := by
  unfold cutL cutV
  rw [h.length]
  exact (h.drop _).take _
theorem flats_cut {ds : List D} (h : flats ds = true) (lo hi : Option Int) : flats (cutL ds lo hi) = true := flats_take _ (flats_drop _ h)
theorem cutV_map (ns : List Int) (lo hi : Option Int) : cutV (ns.map V.int) lo hi = (cutL ns lo hi).map V.int := by
  unfold cutL cutV
  rw [List.length_map, List.map_take, List.map_drop]
def eSl (f : EF) (l h : OF) : EF := fun ρ => (f ρ).bind fun a => (l ρ).bind fun lo => (h ρ).bind fun hi => (slD a.1 lo hi).bind fun c => some (c, .new)
abbrev rSlAll (K : PySem.W.Frag) : V → Option Int → Option Int → Hp → VK → Prop := fun x lo hi H Q => rSlL K x lo hi H Q ∨ (rSlS x lo hi H Q ∨ rSlA K x lo hi H Q)
theorem ok_sl {Γ : Ga} (H : Hp) (a c : D) (lo hi : Option Int) (v : V) (Q : VK) (e : slD a lo hi = some c) (ha : Is Γ H a v) (hQ : ∀ w H', Born Γ H H' c w → Q w H') : rSlAll Γ.K v lo hi H Q := by
  unfold slD at e
  split at e
  · split at e
    · rename_i f
      cases e
      obtain ⟨p, vs, rfl, h1, h2⟩ := ha
      exact .inl ⟨p, vs, rfl, SqL.of h1, fun l hl => hQ _ _ (born_lst hl (flats_cut f lo hi) (h2.cut lo hi))⟩
    · cases e
  · split at e
    · rename_i f
      cases e
      obtain ⟨p, vs, rfl, h1, h2⟩ := ha
      refine .inr (.inr ⟨p, vs, rfl, SqT.of h1, fun w => ?_, fun _ l hl => hQ _ _ (born_tup hl (flats_cut f lo hi) (h2.cut lo hi))⟩)
      refine hQ _ _ (Born.flat (flats_cut f lo hi) ⟨p, vs, rfl, h1, ?_⟩)
      have q := h2.cut lo hi
      have e1 : cutV vs lo hi = vs := by unfold cutV; rw [w.1, w.2, List.drop_zero, Nat.sub_zero, List.take_length]
      rw [e1] at q
      exact q
    · cases e
  · cases e
    obtain ⟨p, rfl, h1⟩ := ha
    exact .inl ⟨p, _, rfl, h1, fun l hl => hQ _ _ (by rw [cutV_map]; exact born_lst hl (flats_map_int _) (Iss.scr _))⟩
  · split at e
    · rename_i z h
      cases e
      cases ha
      exact .inr (.inl ⟨z, rfl, by rw [line_eq]; exact h, hQ _ _ (.atom rfl)⟩)
    · cases e
  · cases e
theorem pu_sl {lo hi : Option Expr} {p2 : Pos} {fl fh : OF} (ha : PuE cm X a fa) (hl : PuO cm X lo fl) (hh : PuO cm X hi fh) : PuE cm X (.Subscript a (.Slice lo hi none p2) pos) (eSl fa fl fh) := by
  obtain ⟨t, p, q⟩ := ha
  obtain ⟨tl, pl, ql⟩ := hl
  obtain ⟨th, ph, qh⟩ := hh
  refine ⟨_, pe_slice (sl_list.or (sl_str.or sl_tupA)) p pl ph, fun x B F ρ σ H d m Q ok hf hQ => ?_⟩
  unfold eSl at hf
  cases e1 : fa ρ with
  | none => simp [e1] at hf
  | some a =>
    cases e2 : fl ρ with
    | none => simp [e1, e2] at hf
    | some l =>
      cases e3 : fh ρ with
      | none => simp [e1, e2, e3] at hf
      | some u =>
        cases e4 : slD a.1 l u with
        | none => simp [e1, e2, e3, e4] at hf
        | some c =>
          simp [e1, e2, e3, e4] at hf
          obtain ⟨rfl, rfl⟩ := hf
          refine q x B F ρ σ H _ _ _ ok e1 fun v B1 H1 g1 ok1 hv => ?_
          refine ql x B1 F ρ σ H1 l _ ok1 e2 fun B2 H2 g2 ok2 => ?_
          refine qh x B2 F ρ σ H2 u _ ok2 e3 fun B3 H3 g3 ok3 => ?_
          refine ok_sl (Γ := gx X cm) H3 a.1 c l u v Q e4 (((hv.mono g2).mono g3).is ok3) fun w H4 bn => ?_
          obtain ⟨B4, g4, ok4, hw⟩ := ok3.born' bn
          exact hQ w B4 H4 (g1.trans (g2.trans (g3.trans g4))) ok4 hw
def revD : D → Option D
  | .lst ds => if flats ds = true then some (.lst ds.reverse) else none
  | _ => none
theorem pu_rev {k : Nat} {p1 p2 p3 : Pos} (ha : PuE cm X a fa) : PuE cm X (.Subscript a (.Slice none none (some (.UnaryOp .USub (.Constant (.int 1) k p1) p2)) p3) pos) (e1 revD fa) :=
  pu_op1 (r := fun v H Q => ∃ a xs, v = .ref a ∧ SqL X.K H a xs ∧ ∀ p, H p = none → Q (.ref p) (upd H p (.lst xs.reverse))) (fun _ pa => pe_revL pa) (fun H d c v Q e h hQ => by
    unfold revD at e
    split at e
    · split at e
      · rename_i f
        cases e
        obtain ⟨p, vs, rfl, h1, h2⟩ := h
        exact ⟨p, vs, rfl, SqL.of h1, fun l hl => hQ _ _ (born_lst hl (flats_reverse f) h2.reverse)⟩
      · cases e
    · cases e) ha

/-! ### calls -/
/-- the promise of a def that changes nothing: f of the arguments' data -/
def spP (K : PySem.W.Frag) (cm : Nat → Addr) (f : List D → Option D) : Sp := fun vs H Q _ => ∃ ds d, Iss ⟨K, cm⟩ H ds vs ∧ f ds = some d ∧ ∀ v H', Born ⟨K, cm⟩ H H' d v → Q v H'
/-- a def that may be called by its name -/
def CalP (P : Program) (w : World) (K : PySem.W.Frag) (mg : Str → Option Value) (base : Heap) (cm : Nat → Addr) (k : Nat) (x : Str) (f : List D → Option D) : Prop :=
  ∃ (fa : Addr) (fd : FuncData) (ps : List Str), FnOk P w K mg base CX0 k fa fd ps (spP K cm f) ∧ mg x = some (.ref fa) ∧ PySem.W.keepIn K (.ref fa) = true ∧ Binds K fd ps []
/-- a method of the class number n -/
def MetP (P : Program) (w : World) (K : PySem.W.Frag) (mg : Str → Option Value) (base : Heap) (cm : Nat → Addr) (k : Nat) (n : Nat) (m : Str) (f : List D → Option D) : Prop :=
  ∃ (fa : Addr) (fd : FuncData) (ps : List Str), FnOk P w K mg base CX0 k fa fd ps (spP K cm f) ∧ Cls K (cm n) ∧ Meth K (cm n) m fa ∧ Binds K fd ps []
def eCall (f : List D → Option D) (g : AF) : EF := fun ρ => (g ρ).bind fun as => (f (as.map (·.1))).bind fun d => some (d, .new)
theorem eCall_some {f : List D → Option D} {g : AF} {ρ : Ev} {d : D} {m : Md} (h : eCall f g ρ = some (d, m)) : ∃ as, g ρ = some as ∧ f (as.map (·.1)) = some d ∧ m = .new := by
  unfold eCall at h
  cases ea : g ρ with
  | none => rw [ea] at h; cases h
  | some as =>
    rw [ea] at h
    simp only [Option.bind_some] at h
    cases ed : f (as.map (·.1)) with
    | none => rw [ed] at h; cases h
    | some c =>
      rw [ed] at h
      simp at h
      exact ⟨as, rfl, by rw [ed, h.1], h.2.symm⟩
theorem pu_call {k j : Nat} {x : Str} {f : List D → Option D} {g : AF} {p : Pos} (C : CalP X.prog X.w X.K X.mg X.base cm k x f) (hr : Room j X.A) (hk : k ≤ j) (ha : PuA cm X (e :: es) g) (hg : Gl X x := by rfl)
    (hdb : (x == ("__debug__" : Str)) = false := by decide) (he : starEach (e :: es) X.env = (false, eval e X.env) :: starEach es X.env := by rfl) (hpl : (backTo pos (starEach es X.env)).any (·.1) = false := by rfl) :
    PuE cm X (.Call (.Name x p) (e :: es) [] pos) (eCall f g) := by
  obtain ⟨fa, fd, ps, F, hm, kp, hb⟩ := C
  obtain ⟨t, pa, qa⟩ := ha
  refine ⟨_, pe_call F (hr.mono hk) hg hm kp hb .nil pass0 pa hdb he hpl, fun x B F ρ σ H d m Q ok hf hQ => ?_⟩
  obtain ⟨as, e1, e2, rfl⟩ := eCall_some hf
  refine qa x B F ρ σ H as _ ok e1 fun vs B' H' g ok' hvs => ?_
  rw [List.append_nil]
  refine ⟨_, d, paired_iss ok' hvs, e2, fun v H2 bn => ?_⟩
  obtain ⟨B2, g2, ok2, hw⟩ := ok'.born' bn
  exact hQ v B2 H2 (g.trans g2) ok2 hw
/-- o.m(..), o an instance of the class number n; f of the instance and the arguments -/
def eMeth (n : Nat) (m : Str) (f : List D → Option D) (fo : EF) (g : AF) : EF := fun ρ => (fo ρ).bind fun o => match o.1 with
  | .ins c fs => if c = n ∧ getF fs m = none then (g ρ).bind fun as => (f (.ins c fs :: as.map (·.1))).bind fun d => some (d, .new) else none
  | _ => none
theorem eMeth_some {n : Nat} {m : Str} {f : List D → Option D} {fo : EF} {g : AF} {ρ : Ev} {d : D} {md : Md} (h : eMeth n m f fo g ρ = some (d, md)) :
    ∃ fs m1 as, fo ρ = some (.ins n fs, m1) ∧ getF fs m = none ∧ g ρ = some as ∧ f (.ins n fs :: as.map (·.1)) = some d ∧ md = .new := by
  unfold eMeth at h
  cases eo : fo ρ with
  | none => rw [eo] at h; cases h
  | some o =>
    rw [eo] at h
    obtain ⟨o, m1⟩ := o
    cases o with
    | ins c fs =>
      simp only [Option.bind_some] at h
      split at h
      · rename_i q
        obtain ⟨rfl, q⟩ := q
        cases ea : g ρ with
        | none => rw [ea] at h; cases h
        | some as =>
          rw [ea] at h
          simp only [Option.bind_some] at h
          cases ed : f (.ins c fs :: as.map (·.1)) with
          | none => rw [ed] at h; cases h
          | some u =>
            rw [ed] at h
            simp at h
            exact ⟨fs, m1, as, rfl, q, rfl, by rw [ed, h.1], h.2.symm⟩
      · cases h
    | _ => simp at h
theorem pu_meth {k j n : Nat} {m : Str} {f : List D → Option D} {fo : EF} {g : AF} {apos : Pos} {o : Expr} (pl : Sem Bool) (C : MetP X.prog X.w X.K X.mg X.base cm k n m f) (hr : Room j X.A) (hk : k ≤ j) (ho : PuE cm X o fo) (ha : PuA cm X (e :: es) g)
    (hst : starEach (e :: es) X.env = (false, eval e X.env) :: starEach es X.env := by rfl) (hpl : (backTo pos (starEach es X.env)).any (·.1) = false := by rfl)
    (ht : eval (.Call (.Attribute o m apos) (e :: es) [] pos) X.env = (do
      let ov ← eval o X.env
      standAt apos.atName
      let (f, first) ← holding [ov] (getMethod ov m pl)
      callWith pos f first (backTo pos (starEach (e :: es) X.env)) (backToKw pos (keywordEach [] X.env))) := by rfl) :
    PuE cm X (.Call (.Attribute o m apos) (e :: es) [] pos) (eMeth n m f fo g) := by
  obtain ⟨fa, fd, ps, F, hc, hm, hb⟩ := C
  obtain ⟨to, po, qo⟩ := ho
  obtain ⟨t, pa, qa⟩ := ha
  refine ⟨_, pe_meth po hc hm F (hr.mono hk) hb .nil pass0 pa hst hpl ht, fun x B F ρ σ H d md Q ok hf hQ => ?_⟩
  obtain ⟨fs, m1, as, e1, e2, e3, e4, rfl⟩ := eMeth_some hf
  refine qo x B F ρ σ H _ m1 _ ok e1 fun v B1 H1 g1 ok1 hv => ?_
  obtain ⟨p, dx, vs, rfl, h1, h2⟩ := hv.is ok1
  refine ⟨p, dx, vs, rfl, h1, h2.none e2, ?_⟩
  refine qa x B1 F ρ σ H1 as _ ok1 e3 fun us B2 H2 g2 ok2 hus => ?_
  rw [List.append_nil]
  refine ⟨.ins n fs :: as.map (·.1), d, ⟨_, _, rfl, (hv.mono g2).is ok2, paired_iss ok2 hus⟩, e4, fun v H3 bn => ?_⟩
  obtain ⟨B3, g3, ok3, hw⟩ := ok2.born' bn
  exact hQ v B3 H3 (g1.trans (g2.trans g3)) ok3 hw

/-- a call by values: o of the arguments' data -/
def OkCall (Γ : Ga) (r : List V → Hp → VK → Prop) (o : List D → Option D) : Prop :=
  ∀ (H : Hp) (ds : List D) (d : D) (vs : List V) (Q : VK), o ds = some d → Iss Γ H ds vs → (∀ w H', Born Γ H H' d w → Q w H') → r vs H Q
theorem pu_cb {r : List V → Hp → VK → Prop} {o : List D → Option D} {g : AF} (ht : ∀ t, PA X es t → PE X e (tCB r t)) (ho : OkCall (gx X cm) r o) (ha : PuA cm X es g) : PuE cm X e (eCall o g) := by
  obtain ⟨t, pa, qa⟩ := ha
  refine ⟨_, ht t pa, fun x B F ρ σ H d m Q ok hf hQ => ?_⟩
  obtain ⟨as, e1, e2, rfl⟩ := eCall_some hf
  refine qa x B F ρ σ H as _ ok e1 fun vs B' H' g ok' hvs => ?_
  refine ho H' _ d vs Q e2 (paired_iss ok' hvs) fun v H2 bn => ?_
  obtain ⟨B2, g2, ok2, hw⟩ := ok'.born' bn
  exact hQ v B2 H2 (g.trans g2) ok2 hw
theorem iss1 {Γ : Ga} {H : Hp} {d : D} {vs : List V} (h : Iss Γ H [d] vs) : ∃ v, vs = [v] ∧ Is Γ H d v := by
  obtain ⟨v, r, e, h1, h2⟩ := h
  rw [show r = [] from h2] at e
  exact ⟨v, e, h1⟩
theorem iss2 {Γ : Ga} {H : Hp} {d d' : D} {vs : List V} (h : Iss Γ H [d, d'] vs) : ∃ v u, vs = [v, u] ∧ Is Γ H d v ∧ Is Γ H d' u := by
  obtain ⟨v, r, e, h1, h2⟩ := h
  obtain ⟨u, e2, h3⟩ := iss1 h2
  exact ⟨v, u, by rw [e, e2], h1, h3⟩
def lenD : List D → Option D
  | [.lst ds] => some (.int (ds.length : Nat))
  | [.tup ds] => some (.int (ds.length : Nat))
  | [.scr ns] => some (.int (ns.length : Nat))
  | [.str z] => if z.length ≤ 16777216 then some (.int (z.length : Nat)) else none
  | _ => none
theorem ok_len {Γ : Ga} : OkCall Γ (fun xs H Q => ∃ x n, xs = [x] ∧ LenV Γ.K x H n ∧ Q (.int (n : Nat)) H) lenD := by
  intro H ds d vs Q e h hQ
  unfold lenD at e
  split at e
  · cases e
    obtain ⟨v, rfl, p, us, rfl, h1, h2⟩ := iss1 h
    exact ⟨_, _, rfl, .inl ⟨us, SqL.of h1, h2.length.symm⟩, hQ _ _ (.atom rfl)⟩
  · cases e
    obtain ⟨v, rfl, p, us, rfl, h1, h2⟩ := iss1 h
    exact ⟨_, _, rfl, .inr ⟨us, SqT.of h1, h2.length.symm⟩, hQ _ _ (.atom rfl)⟩
  · cases e
    obtain ⟨v, rfl, p, rfl, h1⟩ := iss1 h
    exact ⟨_, _, rfl, .inl ⟨_, h1, (List.length_map _).symm⟩, hQ _ _ (.atom rfl)⟩
  · split at e
    · rename_i q
      cases e
      obtain ⟨v, rfl, rfl⟩ := iss1 h
      exact ⟨_, _, rfl, ⟨by rw [line_eq]; exact q, rfl⟩, hQ _ _ (.atom rfl)⟩
    · cases e
  · cases e
theorem pu_len {g : AF} {p : Pos} (hm : X.mg "len" = none) (ha : PuA cm X (e :: es) g) (hg : Gl X "len" := by rfl)
    (he : starEach (e :: es) X.env = (false, eval e X.env) :: starEach es X.env := by rfl) (hpl : (backTo pos (starEach es X.env)).any (·.1) = false := by rfl) : PuE cm X (.Call (.Name "len" p) (e :: es) [] pos) (eCall lenD g) :=
  pu_cb (fun t pa => pe_callB call_len hg hm PySem.boot_len pa (by decide) (by decide) he hpl) ok_len ha
def absD : List D → Option D
  | [.int i] => some (.int (if i < 0 then -i else i))
  | _ => none
theorem pu_abs {g : AF} {p : Pos} (hm : X.mg "abs" = none) (ha : PuA cm X (e :: es) g) (hg : Gl X "abs" := by rfl)
    (he : starEach (e :: es) X.env = (false, eval e X.env) :: starEach es X.env := by rfl) (hpl : (backTo pos (starEach es X.env)).any (·.1) = false := by rfl) : PuE cm X (.Call (.Name "abs" p) (e :: es) [] pos) (eCall absD g) :=
  pu_cb (fun t pa => pe_callB call_abs hg hm (by decide +kernel) pa (by decide) (by decide) he hpl) (fun H ds d vs Q e h hQ => by
    unfold absD at e
    split at e
    · cases e
      obtain ⟨v, rfl, rfl⟩ := iss1 h
      exact ⟨_, rfl, hQ _ _ (.atom rfl)⟩
    · cases e) ha
def maxD : List D → Option D
  | [.int i, .int j] => some (.int (if j > i then j else i))
  | _ => none
theorem pu_max {g : AF} {p : Pos} (hm : X.mg "max" = none) (ha : PuA cm X (e :: es) g) (hc : X.calm = true := by rfl) (hg : Gl X "max" := by rfl)
    (he : starEach (e :: es) X.env = (false, eval e X.env) :: starEach es X.env := by rfl) (hpl : (backTo pos (starEach es X.env)).any (·.1) = false := by rfl) : PuE cm X (.Call (.Name "max" p) (e :: es) [] pos) (eCall maxD g) :=
  pu_cb (fun t pa => pe_callB (call_max2 hc) hg hm (by decide +kernel) pa (by decide) (by decide) he hpl) (fun H ds d vs Q e h hQ => by
    unfold maxD at e
    split at e
    · cases e
      obtain ⟨v, u, rfl, rfl, rfl⟩ := iss2 h
      exact ⟨_, _, rfl, hQ _ _ (.atom rfl)⟩
    · cases e) ha
def intC : List D → Option D
  | [.int i] => some (.int i)
  | [.bl k] => some (.int (if k then 1 else 0))
  | _ => none
theorem pu_intc {g : AF} {p : Pos} (hm : X.mg "int" = none) (ha : PuA cm X (e :: es) g) (hg : Gl X "int" := by rfl)
    (he : starEach (e :: es) X.env = (false, eval e X.env) :: starEach es X.env := by rfl) (hpl : (backTo pos (starEach es X.env)).any (·.1) = false := by rfl) : PuE cm X (.Call (.Name "int" p) (e :: es) [] pos) (eCall intC g) :=
  pu_cb (fun t pa => pe_callTy call_int1 hg hm (by decide +kernel) pa (by decide) (by decide) he hpl) (fun H ds d vs Q e h hQ => by
    unfold intC at e
    split at e
    · cases e
      obtain ⟨v, rfl, rfl⟩ := iss1 h
      exact .inl ⟨_, rfl, hQ _ _ (.atom rfl)⟩
    · cases e
      obtain ⟨v, rfl, rfl⟩ := iss1 h
      exact .inr ⟨_, rfl, hQ _ _ (.atom rfl)⟩
    · cases e) ha
def lstC : List D → Option D
  | [.lst ds] => if flats ds = true then some (.lst ds) else none
  | [.tup ds] => if flats ds = true then some (.lst ds) else none
  | [.scr ns] => some (.lst (ns.map .int))
  | _ => none
theorem pu_lstc {g : AF} {p : Pos} (hm : X.mg "list" = none) (ha : PuA cm X (e :: es) g) (hg : Gl X "list" := by rfl)
    (he : starEach (e :: es) X.env = (false, eval e X.env) :: starEach es X.env := by rfl) (hpl : (backTo pos (starEach es X.env)).any (·.1) = false := by rfl) : PuE cm X (.Call (.Name "list" p) (e :: es) [] pos) (eCall lstC g) :=
  pu_cb (fun t pa => pe_callTy call_list_of hg hm (by decide +kernel) pa (by decide) (by decide) he hpl) (fun H ds d vs Q e h hQ => by
    unfold lstC at e
    split at e
    · split at e
      · rename_i f
        cases e
        obtain ⟨v, rfl, p, us, rfl, h1, h2⟩ := iss1 h
        exact ⟨p, us, rfl, .inl (SqL.of h1), fun l hl => hQ _ _ (born_lst hl f h2)⟩
      · cases e
    · split at e
      · rename_i f
        cases e
        obtain ⟨v, rfl, p, us, rfl, h1, h2⟩ := iss1 h
        exact ⟨p, us, rfl, .inr (SqT.of h1), fun l hl => hQ _ _ (born_lst hl f h2)⟩
      · cases e
    · cases e
      obtain ⟨v, rfl, p, rfl, h1⟩ := iss1 h
      exact ⟨p, _, rfl, .inl h1, fun l hl => hQ _ _ (born_lst hl (flats_map_int _) (Iss.scr _))⟩
    · cases e) ha

/-! ### isinstance -/
inductive Ty5 where
  | int | bool | str | list | tuple
def Ty5.nm : Ty5 → String
  | .int => "int" | .bool => "bool" | .str => "str" | .list => "list" | .tuple => "tuple"
def isTy (t : Ty5) : D → Option D
  | .non => some (.bl false)
  | .bl _ => some (.bl (match t with | .int => true | .bool => true | _ => false))
  | .int _ => some (.bl (match t with | .int => true | _ => false))
  | .str _ => some (.bl (match t with | .str => true | _ => false))
  | .tup _ => some (.bl (match t with | .tuple => true | _ => false))
  | .lst _ => some (.bl (match t with | .list => true | _ => false))
  | .scr _ => some (.bl (match t with | .list => true | _ => false))
  | .dic _ => some (.bl false)
  | .ins _ _ => none
theorem isTy_ok {Γ : Ga} {H : Hp} {t : Ty5} {d c : D} {v : V} {Q : VK} (e : isTy t d = some c) (h : Is Γ H d v) (hQ : ∀ w H', Born Γ H H' c w → Q w H') : rIsi Γ.K [v, .ty t.nm] H Q := by
  have go : ∀ (ty : String) (k : Bool), TyX Γ.K H v (.type ty) → kitB ty t.nm = some k → Q (.bl k) H → rIsi Γ.K [v, .ty t.nm] H Q := fun ty k h1 h2 h3 => ⟨v, _, _, _, k, rfl, .ty _, h1, kit_ty h2, h3⟩
  cases d with
  | non => cases e; cases h; exact go "NoneType" _ (.base .non) (by cases t <;> decide +kernel) (hQ _ _ (.atom rfl))
  | bl => cases e; cases h; exact go "bool" _ (.base (.bl _)) (by cases t <;> decide +kernel) (hQ _ _ (.atom rfl))
  | int => cases e; cases h; exact go "int" _ (.base (.int _)) (by cases t <;> decide +kernel) (hQ _ _ (.atom rfl))
  | str => cases e; cases h; exact go "str" _ (.base (.str _)) (by cases t <;> decide +kernel) (hQ _ _ (.atom rfl))
  | tup => cases e; obtain ⟨p, us, rfl, h1, h2⟩ := h; exact go "tuple" _ (.base (.tup h1)) (by cases t <;> decide +kernel) (hQ _ _ (.atom rfl))
  | lst => cases e; obtain ⟨p, us, rfl, h1, h2⟩ := h; exact go "list" _ (.base (.lst h1)) (by cases t <;> decide +kernel) (hQ _ _ (.atom rfl))
  | dic => cases e; obtain ⟨p, us, rfl, h1, h2⟩ := h; exact go "dict" _ (.base (.dK h1)) (by cases t <;> decide +kernel) (hQ _ _ (.atom rfl))
  | scr =>
    cases e
    obtain ⟨p, rfl, h1⟩ := h
    refine go "list" _ ?_ (by cases t <;> decide +kernel) (hQ _ _ (.atom rfl))
    rcases h1 with (h1 | ⟨o, h1⟩) | ⟨o, its, n, h1, h2, _⟩
    · exact .base (.lst h1)
    · exact .base (.frz h1)
    · exact .kList h1 h2
  | ins => simp [isTy] at e
theorem pu_isi {p p2 : Pos} {x : Str} (t : Ty5) (hm : X.mg "isinstance" = none) (hx : X.mg x = none) (hv : bootBuiltins x = some (.type t.nm)) (ha : PuE cm X a fa) (hg : Gl X "isinstance" := by rfl) (hgx : Gl X x := by rfl)
    (hn : x ≠ "__name__" := by decide) (hd : (x == ("__debug__" : Str)) = false := by decide)
    (he : starEach [a, .Name x p2] X.env = (false, eval a X.env) :: starEach [.Name x p2] X.env := by rfl) (hpl : (backTo pos (starEach [.Name x p2] X.env)).any (·.1) = false := by rfl) (he2 : starEach [.Name x p2] X.env = (false, eval (.Name x p2) X.env) :: starEach [] X.env := by rfl) :
    PuE cm X (.Call (.Name "isinstance" p) [a, .Name x p2] [] pos) (e1 (isTy t) fa) :=
  pu_op1 (r := fun v H Q => rIsi X.K [v, .ty t.nm] H Q) (fun _ pa => pe_callB call_isi hg hm (by decide +kernel) (pa_cons pa (pa_cons (pe_bltn (v := .ty t.nm) hgx hx hv rfl hn hd) pa_nil he2) he) (by decide) (by decide) he hpl)
    (fun H d c v Q e h hQ => isTy_ok (Γ := gx X cm) e h hQ) ha

/-! ### texts joined -/
def strsOf : List D → Option (List Str)
  | [] => some []
  | .str x :: r => (strsOf r).map (x :: ·)
  | _ => none
theorem strsOf_is {Γ : Ga} {H : Hp} : ∀ {ds : List D} {ys : List Str} {vs : List V}, strsOf ds = some ys → Iss Γ H ds vs → vs = ys.map V.str
  | [], _, _, e, h => by cases e; exact h
  | d :: r, _, _, e, ⟨v, s, e1, h1, h2⟩ => by
    subst e1
    cases d <;> simp [strsOf] at e
    obtain ⟨ys, e2, rfl⟩ := e
    rw [List.map_cons, ← strsOf_is e2 h2, show v = _ from h1]
def joinD : D → D → Option D
  | .str a, .lst ds => (strsOf ds).bind fun ys => if (ys.map (·.length)).sum + ys.length * a.length ≤ 16777216 then some (.str (Txt.join a ys)) else none
  | _, _ => none
theorem pu_join {apos : Pos} (ha : PuE cm X a fa) (hb : PuE cm X b fb) (hs : starEach [b] X.env = [(false, eval b X.env)] := by rfl) (hbase : attributeBase a "join" X.env (eval a X.env) = eval a X.env := by rfl) (hline : (apos.endLine == pos.line) = true := by rfl) :
    PuE cm X (.Call (.Attribute a "join" apos) [b] [] pos) (e2 joinD fa fb) := by
  obtain ⟨ta, pa, qa⟩ := ha
  obtain ⟨tb, pb, qb⟩ := hb
  refine ⟨_, pe_join pa pb hs hbase hline, fun x B F ρ σ H d m Q ok hf hQ => ?_⟩
  obtain ⟨da, m1, db, m2, ea, eb, ed, rfl⟩ := e2_some hf
  unfold joinD at ed
  split at ed
  · rename_i z ds
    cases q : strsOf ds with
    | none => simp [q] at ed
    | some ys =>
      simp [q] at ed
      obtain ⟨hl, rfl⟩ := ed
      refine qa x B F ρ σ H _ m1 _ ok ea fun v B1 H1 g1 ok1 hv => ?_
      cases hv.is ok1
      refine ⟨⟨_, rfl⟩, ?_⟩
      refine qb x B1 F ρ σ H1 _ m2 _ ok1 eb fun u B2 H2 g2 ok2 hu => ?_
      obtain ⟨p, us, rfl, h1, h2⟩ := hu.is ok2
      refine ⟨z, p, ys, rfl, rfl, .inl (by rw [← strsOf_is q h2]; exact SqL.of h1), hl, hQ _ B2 H2 (g1.trans g2) ok2 rfl⟩
  · cases ed
end
end DL

/-! DL7: targets, what is walked, comprehensions. -/
namespace DL
open PySem L2

/-! ### one reading for all that is pure -/
def tPu (Γ : Ga) (f : EF) : TE := fun σ H Q => ∃ (x : Fx) (B : Hp) (F : Nat → List Addr) (ρ : Ev) (d : D) (m : Md), Ok Γ x B F ρ σ H ∧ f ρ = some (d, m) ∧ ∀ v B' H', Gr B H B' H' → Ok Γ x B' F ρ σ H' → Val Γ x m B' H' d v → Q v H'
theorem PuE.can {cm : Nat → Addr} {X : Cx} {e : Expr} {f : EF} (h : PuE cm X e f) : PE X e (tPu (gx X cm) f) := by
  obtain ⟨t, p, q⟩ := h
  refine ⟨fun pins s σ H Q I w => ?_⟩
  obtain ⟨x, B, F, ρ, d, m, ok, ef, hQ⟩ := w
  exact p.run pins s σ H Q I (q x B F ρ σ H d m Q ok ef hQ)
def tPt (Γ : Ga) (f : Ev → Option Bool) : TT := fun σ H Q => ∃ (x : Fx) (B : Hp) (F : Nat → List Addr) (ρ : Ev) (k : Bool), Ok Γ x B F ρ σ H ∧ f ρ = some k ∧ ∀ B' H', Gr B H B' H' → Ok Γ x B' F ρ σ H' → Q k H'
theorem PuT.can {cm : Nat → Addr} {X : Cx} {e : Expr} {f : Ev → Option Bool} (h : PuT cm X e f) : PT X e (tPt (gx X cm) f) := by
  obtain ⟨t, p, q⟩ := h
  refine ⟨fun pins s σ H Q I w => ?_⟩
  obtain ⟨x, B, F, ρ, k, ok, ef, hQ⟩ := w
  exact p.run pins s σ H Q I (q x B F ρ σ H k Q ok ef hQ)

/-! ### slots stored -/
def mkSl (d : D) (m : Md) : Option Sl := if flat d = true then some (.fn d) else match m with
  | .new => some (.fn d)
  | .par => some (.fa d)
  | .own => none
/-- may the slot be overwritten? -/
def freeS : Sl → Bool
  | .ow _ => false
  | _ => true
def setS (i : Nat) (d : D) (m : Md) (ρ : Ev) : Option Ev := (ρ[i]?).bind fun s => if freeS s = true then (mkSl d m).map fun t => ρ.set i t else none
def offF (F : Nat → List Addr) (i : Nat) : Nat → List Addr := fun j => if j = i then [] else F j
theorem offF_sub {F : Nat → List Addr} {i j : Nat} {a : Addr} (h : a ∈ offF F i j) : a ∈ F j ∧ j ≠ i := by
  unfold offF at h
  split at h
  · cases h
  · rename_i q; exact ⟨h, q⟩
section
variable {Γ : Ga} {x : Fx} {B : Hp} {F : Nat → List Addr} {ρ : Ev} {σ : St} {H : Hp}
/-- a slot that holds nothing of its own is set -/
theorem Ok.put (o : Ok Γ x B F ρ σ H) {i : Nat} {s : Sl} {v : Option V} (h : SlotAt Γ x B H i (some v) [] s) (hi : i < ρ.length) : Ok Γ x B (offF F i) (ρ.set i s) (σ.set i v) H where
  kp := o.kp
  bh := o.bh
  tup := o.tup
  born := o.born
  bk := o.bk
  dom := o.dom
  fk := fun j a ha => o.fk j a (offF_sub ha).1
  dj := fun j k a h1 h2 => o.dj j k a (offF_sub h1).1 (offF_sub h2).1
  nd := fun j => by unfold offF; split; exact List.nodup_nil; exact o.nd j
  out := fun j hj => by
    unfold offF
    split
    · rfl
    · exact o.out j (by simpa using hj)
  len := by rw [List.length_set, List.length_set, o.len]
  at_ := fun j t ht => by
    by_cases q : j = i
    · subst q
      rw [List.getElem?_set_self hi] at ht
      cases ht
      rw [List.getElem?_set_self (by rw [← o.len]; exact hi), show offF F j j = [] from if_pos rfl]
      exact h
    · rw [List.getElem?_set_ne (Ne.symm q)] at ht ⊢
      rw [show offF F i j = F j from if_neg q]
      exact o.at_ j t ht
theorem mkSl_at (o : Ok Γ x B F ρ σ H) {d : D} {m : Md} {v : V} {s : Sl} (h : mkSl d m = some s) (hv : Val Γ x m B H d v) (i : Nat) : SlotAt Γ x B H i (some (some v)) [] s := by
  unfold mkSl at h
  split at h
  · rename_i f
    cases h
    exact ⟨rfl, v, rfl, Val.new o (by rw [f]; rfl) hv⟩
  · split at h
    · cases h; exact ⟨rfl, v, rfl, hv⟩
    · cases h; exact ⟨rfl, v, rfl, hv⟩
    · cases h
theorem setS_some {i : Nat} {d : D} {m : Md} {ρ' : Ev} (h : setS i d m ρ = some ρ') : ∃ s t, ρ[i]? = some s ∧ freeS s = true ∧ mkSl d m = some t ∧ ρ' = ρ.set i t := by
  unfold setS at h
  cases e : ρ[i]? with
  | none => rw [e] at h; cases h
  | some s =>
    rw [e] at h
    simp only [Option.bind_some] at h
    split at h
    · rename_i f
      cases q : mkSl d m with
      | none => rw [q] at h; cases h
      | some t => rw [q] at h; cases h; exact ⟨s, t, rfl, f, rfl, rfl⟩
    · cases h
theorem Ok.setS (o : Ok Γ x B F ρ σ H) {i : Nat} {d : D} {m : Md} {v : V} {ρ' : Ev} (h : setS i d m ρ = some ρ') (hv : Val Γ x m B H d v) : Ok Γ x B (offF F i) ρ' (σ.set i (some v)) H := by
  obtain ⟨s, t, e1, _, e2, rfl⟩ := setS_some h
  exact o.put (mkSl_at o e2 hv i) (List.getElem?_eq_some_iff.mp e1).1
end

/-! ### targets -/
abbrev GF := D → Md → Ev → Option Ev
def PuG (cm : Nat → Addr) (X : Cx) (tg : Expr) (js : List Nat) (g : GF) : Prop :=
  ∃ t, PG X tg t ∧ ∀ (x : Fx) (B : Hp) (F : Nat → List Addr) (ρ ρ' : Ev) (σ : St) (H : Hp) (d : D) (m : Md) (v : V) (Q : St → Hp → Prop), Ok (gx X cm) x B F ρ σ H → Val (gx X cm) x m B H d v → g d m ρ = some ρ' →
    (∀ F' σ', Ok (gx X cm) x B F' ρ' σ' H → (∀ j, j ∉ js → σ'[j]? = σ[j]?) → σ'.length = σ.length → Q σ' H) → t v σ H Q
def PuGs (cm : Nat → Addr) (X : Cx) (ts : List Expr) (js : List Nat) (g : List D → Md → Ev → Option Ev) : Prop :=
  ∃ t, PGs X ts t ∧ ∀ (x : Fx) (B : Hp) (F : Nat → List Addr) (ρ ρ' : Ev) (σ : St) (H : Hp) (ds : List D) (m : Md) (vs : List V) (Q : St → Hp → Prop), Ok (gx X cm) x B F ρ σ H → (∀ d v, (d, v) ∈ ds.zip vs → Val (gx X cm) x (effm m d) B H d v) → vs.length = ds.length → g ds m ρ = some ρ' →
    (∀ F' σ', Ok (gx X cm) x B F' ρ' σ' H → (∀ j, j ∉ js → σ'[j]? = σ[j]?) → σ'.length = σ.length → Q σ' H) → t vs σ H Q
def gN (i : Nat) : GF := fun d m ρ => setS i d m ρ
def gsNil : List D → Md → Ev → Option Ev := fun ds _ ρ => match ds with
  | [] => some ρ
  | _ => none
def gsCons (i : Nat) (g : List D → Md → Ev → Option Ev) : List D → Md → Ev → Option Ev := fun ds m ρ => match ds with
  | d :: r => (setS i d (effm m d) ρ).bind fun ρ' => g r m ρ'
  | [] => none
def gT (n : Nat) (g : List D → Md → Ev → Option Ev) : GF := fun d m ρ => match d with
  | .tup ds => if ds.length = n then g ds m ρ else none
  | _ => none
section
variable {cm : Nat → Addr} {X : Cx} {pos : Pos}
theorem pug_name (i : Nat) {x : Str} (hN : X.N.Nodup) (hi : X.N[i]? = some x := by rfl) (hx : Loc X.env.scope x := by first | exact .inl rfl | exact .inr rfl)
    (hf : X.fn x = true ∨ X.env.scope.names.lookup x = some .local := by first | exact .inl rfl | exact .inr rfl) : PuG cm X (.Name x pos) [i] (gN i) := by
  refine ⟨_, pg_name hN hi hx hf, fun x B F ρ ρ' σ H d m v Q ok hv hg hQ => ?_⟩
  exact hQ _ _ (ok.setS hg hv) (fun j hj => List.getElem?_set_ne (fun e => hj (by simp [e]))) (List.length_set ..)
theorem pugs_nil : PuGs cm X [] [] gsNil := by
  refine ⟨_, pgs_nil, fun x B F ρ ρ' σ H ds m vs Q ok hv hl hg hQ => ?_⟩
  cases ds with
  | nil =>
    cases hg
    exact ⟨List.eq_nil_of_length_eq_zero hl, hQ F σ ok (fun _ _ => rfl) rfl⟩
  | cons => simp [gsNil] at hg
theorem pugs_cons (i : Nat) {x : Str} {es : List Expr} {js : List Nat} {g : List D → Md → Ev → Option Ev} (hN : X.N.Nodup) (h2 : PuGs cm X es js g) (hi : X.N[i]? = some x := by rfl) (hx : Loc X.env.scope x := by first | exact .inl rfl | exact .inr rfl)
    (hf : X.fn x = true ∨ X.env.scope.names.lookup x = some .local := by first | exact .inl rfl | exact .inr rfl)
    (hs : (assignEach (.Name x pos :: es) X.env).map (·.2) = assign (.Name x pos) X.env :: (assignEach es X.env).map (·.2) := by rfl) : PuGs cm X (.Name x pos :: es) (i :: js) (gsCons i g) := by
  obtain ⟨t, p, q⟩ := h2
  refine ⟨_, pgs_cons (pg_name hN hi hx hf) p hs, fun x B F ρ ρ' σ H ds m vs Q ok hv hl hg hQ => ?_⟩
  cases ds with
  | nil => simp [gsCons] at hg
  | cons d r =>
    cases vs with
    | nil => simp at hl
    | cons v vs =>
      simp only [gsCons] at hg
      cases e : DL.setS i d (effm m d) ρ with
      | none => rw [e] at hg; cases hg
      | some ρ1 =>
        rw [e] at hg
        refine ⟨v, vs, rfl, ?_⟩
        exact q x B _ ρ1 ρ' _ H r m vs Q (ok.setS e (hv d v (by simp))) (fun d' v' h => hv d' v' (by simp [h])) (by simpa using hl) hg fun F' σ' ok' h1 h2 => hQ F' σ' ok' (fun j hj => (h1 j fun z => hj (List.mem_cons_of_mem _ z)).trans (List.getElem?_set_ne (fun e => hj (by simp [e])))) (h2.trans (List.length_set ..))
theorem pug_tup {es : List Expr} {k n : Nat} {js : List Nat} {g : List D → Md → Ev → Option Ev} (h : PuGs cm X es js g) (hc : X.calm = true := by rfl)
    (hn : (assignEach es X.env).length = n := by rfl) (hst : (assignEach es X.env).findIdx? (·.1) = none := by rfl) : PuG cm X (.Tuple es k pos) js (gT n g) := by
  obtain ⟨t, p, q⟩ := h
  refine ⟨_, pg_tup hc p hn hst, fun x B F ρ ρ' σ H d m v Q ok hv hg hQ => ?_⟩
  unfold gT at hg
  split at hg
  · rename_i ds
    split at hg
    · rename_i hl
      obtain ⟨a, vs, rfl, h1, h2⟩ := hv.is ok
      refine ⟨a, vs, rfl, SqT.of h1, h2.length.trans hl, ?_⟩
      refine q x B F ρ ρ' σ H ds m vs Q ok (fun d' v' hm => ?_) h2.length hg hQ
      obtain ⟨j, hj, e⟩ := List.getElem_of_mem hm
      have e1 : ds[j]? = some d' ∧ vs[j]? = some v' := by
        rw [List.getElem_zip] at e
        rw [List.length_zip] at hj
        injection e with ea eb
        exact ⟨by rw [List.getElem?_eq_getElem (by omega), ea], by rw [List.getElem?_eq_getElem (by omega), eb]⟩
      refine hv.part ok fun R eR ⟨a', vs', ea, k1, k2⟩ => ?_
      cases ea
      have z := (eR _ _ k1).symm.trans h1
      cases z
      obtain ⟨w, ew, hw⟩ := k2.get e1.1
      rw [e1.2] at ew
      cases ew
      exact hw
    · cases hg
  · cases hg
end

/-! ### what is walked -/
/-- the iterator J yields ds as long as Rg stands -/
structure Src (Γ : Ga) (Rg : Hp) (ds : List D) (J : It) : Prop where
  go : ∀ (i : Nat) (H : Hp) (d : D), Same Rg H → ds[i]? = some d → J.go i H
  yld : ∀ (i : Nat) (H : Hp) (d : D) (v : V) (H' : Hp), Same Rg H → ds[i]? = some d → J.yld i H v H' → (H' = H ∧ Is Γ Rg d v) ∨ (flat d = true ∧ Born Γ H H' d v)
  stop : ∀ (i : Nat) (H : Hp), Same Rg H → ds.length ≤ i → J.stop i H
abbrev IF := Ev → Option (List D × Md)
def rgOf (x : Fx) (m : Md) (B H : Hp) : Hp := match m with
  | .own => H
  | .par => x.Kp
  | .new => B
def PuI (cm : Nat → Addr) (X : Cx) (tg iter : Expr) (f : IF) : Prop :=
  ∃ wi, PI X tg iter wi ∧ ∀ (x : Fx) (B : Hp) (F : Nat → List Addr) (ρ : Ev) (σ : St) (H : Hp) (ds : List D) (m : Md) (R : It → Hp → Prop), Ok (gx X cm) x B F ρ σ H → f ρ = some (ds, m) →
    (∀ J B' H', Gr B H B' H' → Ok (gx X cm) x B' F ρ σ H' → Src (gx X cm) (rgOf x m B' H') ds J → R J H') → wi σ H R
section
variable {cm : Nat → Addr} {X : Cx} {pos : Pos} {e : Expr} {tg : Expr} {fe : EF}
theorem PI.or {iter : Expr} {w1 w2 : TI} (h1 : PI X tg iter w1) (h2 : PI X tg iter w2) : PI X tg iter (fun σ H R => w1 σ H R ∨ w2 σ H R) :=
  ⟨fun pins s σ H R I h => h.elim (h1.run pins s σ H R I) (h2.run pins s σ H R I)⟩
def strD (z : Str) : List D := z.cps.toList.map fun c => .str ⟨#[c]⟩
/-- the items of a list, a tuple, a text -/
def itemsD : D → Option (List D)
  | .lst ds => some ds
  | .tup ds => some ds
  | .str z => some (strD z)
  | _ => none
def iE (f : EF) : IF := fun ρ => (f ρ).bind fun a => (itemsD a.1).map fun ds => (ds, a.2)
theorem src_list {Γ : Ga} {Rg : Hp} {a : Addr} {vs : List V} {ds : List D} (h1 : Rg a = some (.lst vs)) (h2 : Iss Γ Rg ds vs) : Src Γ Rg ds (Itl Γ.K a) where
  go := fun i H d s e => by
    obtain ⟨v, e1, _⟩ := h2.get e
    exact ⟨vs, v, SqL.of (s _ _ h1), e1⟩
  yld := fun i H d v H' s e y => by
    obtain ⟨w, e1, e2⟩ := h2.get e
    have z := y.2 vs (SqL.of (s _ _ h1))
    rw [e1] at z
    cases z
    exact .inl ⟨y.1, e2⟩
  stop := fun i H s hl => ⟨vs, SqL.of (s _ _ h1), by rw [h2.length]; exact hl⟩
theorem src_tup {Γ : Ga} {Rg : Hp} {a : Addr} {vs : List V} {ds : List D} (h1 : Rg a = some (.tup vs)) (h2 : Iss Γ Rg ds vs) : Src Γ Rg ds (Itt Γ.K a) where
  go := fun i H d s e => by
    obtain ⟨v, e1, _⟩ := h2.get e
    exact ⟨vs, v, SqT.of (s _ _ h1), e1⟩
  yld := fun i H d v H' s e y => by
    obtain ⟨w, e1, e2⟩ := h2.get e
    have z := y.2 vs (SqT.of (s _ _ h1))
    rw [e1] at z
    cases z
    exact .inl ⟨y.1, e2⟩
  stop := fun i H s hl => ⟨vs, SqT.of (s _ _ h1), by rw [h2.length]; exact hl⟩
theorem src_str {Γ : Ga} {Rg : Hp} (z : Str) : Src Γ Rg (strD z) (Its z) where
  go := fun i H d s e => by
    have := (List.getElem?_eq_some_iff.mp e).1
    show i < z.cps.size
    simpa [strD] using this
  yld := fun i H d v H' s e y => by
    obtain ⟨y1, c, y2, rfl⟩ := y
    have e1 : d = .str ⟨#[c]⟩ := by
      rw [strD, List.getElem?_map, Array.getElem?_toList, y2] at e
      exact (Option.some.inj e).symm
    subst e1
    exact .inl ⟨y1, rfl⟩
  stop := fun i H s hl => by show z.cps.size ≤ i; simpa [strD] using hl
theorem rg_is {Γ : Ga} {x : Fx} {m : Md} {B H : Hp} {d : D} {v : V} (h : Val Γ x m B H d v) : Is Γ (rgOf x m B H) d v := by cases m <;> exact h
theorem pui_seq (he : PuE cm X e fe) : PuI cm X tg e (iE fe) := by
  obtain ⟨t, p, q⟩ := he
  refine ⟨_, PI.or (pi_list p) (PI.or (pi_tup p) (pi_str p)), fun x B F ρ σ H ds m R ok hf hR => ?_⟩
  unfold iE at hf
  cases ea : fe ρ with
  | none => rw [ea] at hf; cases hf
  | some a =>
    rw [ea] at hf
    obtain ⟨a, ma⟩ := a
    simp only [Option.bind_some] at hf
    cases a with
    | lst es =>
      cases hf
      refine .inl (q x B F ρ σ H _ m _ ok ea fun v B' H' g ok' hv => ?_)
      obtain ⟨a, vs, rfl, h1, h2⟩ := rg_is hv
      obtain ⟨a', vs', ea', k1, k2⟩ := hv.is ok'
      cases ea'
      exact ⟨a, rfl, ⟨vs', SqL.of k1⟩, hR _ B' H' g ok' (src_list h1 h2)⟩
    | tup es =>
      cases hf
      refine .inr (.inl (q x B F ρ σ H _ m _ ok ea fun v B' H' g ok' hv => ?_))
      obtain ⟨a, vs, rfl, h1, h2⟩ := rg_is hv
      obtain ⟨a', vs', ea', k1, k2⟩ := hv.is ok'
      cases ea'
      exact ⟨a, rfl, ⟨vs', SqT.of k1⟩, hR _ B' H' g ok' (src_tup h1 h2)⟩
    | str z =>
      cases hf
      refine .inr (.inr (q x B F ρ σ H _ m _ ok ea fun v B' H' g ok' hv => ?_))
      cases hv.is ok'
      exact ⟨z, rfl, hR _ B' H' g ok' (src_str z)⟩
    | _ => simp [itemsD] at hf
def rangeL (n : Int) : List D := (List.range n.toNat).map fun i => .int (i : Nat)
def iR (f : EF) : IF := fun ρ => (f ρ).bind fun a => (intD a.1).bind fun n => if -4611686018427387904 ≤ n ∧ n < 4611686018427387904 then some (rangeL n, .new) else none
theorem src_range {Γ : Ga} {Rg : Hp} (n : Int) : Src Γ Rg (rangeL n) (Itr 0 n.toNat) where
  go := fun i H d s e => by
    have := (List.getElem?_eq_some_iff.mp e).1
    rw [rangeL, List.length_map, List.length_range] at this
    exact this
  yld := fun i H d v H' s e y => by
    obtain ⟨rfl, rfl⟩ := y
    have hl : i < n.toNat := by
      have := (List.getElem?_eq_some_iff.mp e).1
      simpa [rangeL] using this
    have e1 : d = .int (i : Nat) := by
      rw [rangeL, List.getElem?_map, List.getElem?_range hl] at e
      exact (Option.some.inj e).symm
    subst e1
    exact .inl ⟨rfl, by show V.int (0 + (i : Nat)) = V.int (i : Nat); rw [Int.zero_add]⟩
  stop := fun i H s hl => by rw [rangeL, List.length_map, List.length_range] at hl; exact hl
theorem pui_range {p : Pos} (hm : X.mg "range" = none) (he : PuE cm X e fe) (hg : Gl X "range" := by rfl) (hs : starEach [e] X.env = [(false, eval e X.env)] := by rfl) (hs2 : starEach [e] X.env = (false, eval e X.env) :: starEach [] X.env := by rfl) :
    PuI cm X tg (.Call (.Name "range" p) [e] [] pos) (iR fe) := by
  obtain ⟨t, pe, q⟩ := he
  refine ⟨_, pi_range1 hg hm (pa_cons pe pa_nil hs2) hs, fun x B F ρ σ H ds m R ok hf hR => ?_⟩
  unfold iR at hf
  cases ea : fe ρ with
  | none => rw [ea] at hf; cases hf
  | some a =>
    rw [ea] at hf
    obtain ⟨a, ma⟩ := a
    cases a <;> simp [intD] at hf
    rename_i n
    obtain ⟨⟨h1, h2⟩, rfl, rfl⟩ := hf
    refine q x B F ρ σ H _ ma _ ok ea fun v B' H' g ok' hv => ?_
    cases hv.is ok'
    exact ⟨n, rfl, by omega, by omega, hR _ B' H' g ok' (src_range n)⟩
def enumL : Nat → List D → List D
  | _, [] => []
  | i, d :: r => .tup [.int (i : Nat), d] :: enumL (i + 1) r
theorem enumL_get : ∀ {ds : List D} {k i : Nat}, (enumL k ds)[i]? = (ds[i]?).map fun d => .tup [.int ((k + i : Nat) : Int), d]
  | [], k, i => by simp [enumL]
  | d :: r, k, 0 => by simp [enumL]
  | d :: r, k, i + 1 => by
    rw [enumL, List.getElem?_cons_succ, enumL_get, List.getElem?_cons_succ, show k + 1 + i = k + (i + 1) by omega]
theorem enumL_length : ∀ {ds : List D} {k : Nat}, (enumL k ds).length = ds.length
  | [], _ => rfl
  | d :: r, k => by rw [enumL, List.length_cons, enumL_length, List.length_cons]
def iEn (f : EF) : IF := fun ρ => (f ρ).bind fun a => match a.1 with
  | .lst ds => if flats ds = true then some (enumL 0 ds, a.2) else none
  | _ => none
theorem src_enum {Γ : Ga} {Rg : Hp} {a : Addr} {vs : List V} {ds : List D} (h1 : Rg a = some (.lst vs)) (h2 : Iss Γ Rg ds vs) (f : flats ds = true) : Src Γ Rg (enumL 0 ds) (Ite Γ.K a) where
  go := fun i H d s e => by
    rw [enumL_get] at e
    cases q : ds[i]? with
    | none => rw [q] at e; cases e
    | some d0 =>
      obtain ⟨v, e1, _⟩ := h2.get q
      exact ⟨vs, v, SqL.of (s _ _ h1), e1⟩
  yld := fun i H d v H' s e y => by
    rw [enumL_get] at e
    cases q : ds[i]? with
    | none => rw [q] at e; cases e
    | some d0 =>
      rw [q] at e
      cases e
      obtain ⟨w, e1, e2⟩ := h2.get q
      obtain ⟨T, z, rfl, hT, rfl, hz⟩ := y
      have z1 := hz vs (SqL.of (s _ _ h1))
      rw [e1] at z1
      cases z1
      have fd := flats_mem f d0 (List.mem_of_getElem? q)
      have ff : flats [.int ((0 + i : Nat) : Int), d0] = true := by simp only [flats, flat, fd]; rfl
      exact .inr ⟨ff, born_tup hT ff ⟨_, _, rfl, by rw [Nat.zero_add]; rfl, w, [], rfl, e2.mono s, rfl⟩⟩
  stop := fun i H s hl => ⟨vs, SqL.of (s _ _ h1), by rw [h2.length]; rw [enumL_length] at hl; exact hl⟩
theorem pui_enum {p tpos : Pos} {elts : List Expr} {kk : Nat} (hm : X.mg "enumerate" = none) (he : PuE cm X e fe) (hg : Gl X "enumerate" := by rfl) (hs : starEach [e] X.env = [(false, eval e X.env)] := by rfl) (hs2 : starEach [e] X.env = (false, eval e X.env) :: starEach [] X.env := by rfl) :
    PuI cm X (.Tuple elts kk tpos) (.Call (.Name "enumerate" p) [e] [] pos) (iEn fe) := by
  obtain ⟨t, pe, q⟩ := he
  refine ⟨_, pi_enum hg hm (pa_cons pe pa_nil hs2) hs, fun x B F ρ σ H ds m R ok hf hR => ?_⟩
  unfold iEn at hf
  cases ea : fe ρ with
  | none => rw [ea] at hf; cases hf
  | some a =>
    rw [ea] at hf
    obtain ⟨a, ma⟩ := a
    cases a with
    | lst es =>
      simp only [Option.bind_some] at hf
      split at hf
      · rename_i f
        cases hf
        refine q x B F ρ σ H _ m _ ok ea fun v B' H' g ok' hv => ?_
        obtain ⟨a, vs, rfl, h1, h2⟩ := rg_is hv
        obtain ⟨a', vs', ea', k1, k2⟩ := hv.is ok'
        cases ea'
        exact ⟨a, vs', rfl, SqL.of k1, hR _ B' H' g ok' (src_enum h1 h2 f)⟩
      · cases hf
    | _ => simp at hf
def zipL : List D → List D → List D
  | a :: r, b :: s => .tup [a, b] :: zipL r s
  | _, _ => []
theorem zipL_get : ∀ {as bs : List D} {i : Nat} {d : D}, (zipL as bs)[i]? = some d → ∃ a b, as[i]? = some a ∧ bs[i]? = some b ∧ d = .tup [a, b]
  | [], _, _, _, e => by simp [zipL] at e
  | _ :: _, [], _, _, e => by simp [zipL] at e
  | a :: r, b :: s, 0, d, e => by simp [zipL] at e; exact ⟨a, b, rfl, rfl, e.symm⟩
  | a :: r, b :: s, i + 1, d, e => by
    rw [zipL, List.getElem?_cons_succ] at e
    simpa using zipL_get (as := r) (bs := s) (i := i) e
theorem zipL_length : ∀ {as bs : List D}, (zipL as bs).length = min as.length bs.length
  | [], _ => by simp [zipL]
  | _ :: _, [] => by simp [zipL]
  | a :: r, b :: s => by rw [zipL, List.length_cons, zipL_length, List.length_cons, List.length_cons]; omega
/-- the weaker of two -/
def mmin : Md → Md → Option Md
  | .new, .new => some .new
  | .par, .par => some .par
  | .own, .own => some .own
  | _, _ => none
def iZ (f g : EF) : IF := fun ρ => (f ρ).bind fun a => (g ρ).bind fun b => match a.1, b.1 with
  | .lst ds, .lst es => if flats ds = true ∧ flats es = true then (mmin a.2 b.2).map fun m => (zipL ds es, m) else none
  | _, _ => none
theorem src_zip {Γ : Ga} {Rg : Hp} {a b : Addr} {vs us : List V} {ds es : List D} (h1 : Rg a = some (.lst vs)) (h2 : Iss Γ Rg ds vs) (k1 : Rg b = some (.lst us)) (k2 : Iss Γ Rg es us) (f : flats ds = true) (f2 : flats es = true) : Src Γ Rg (zipL ds es) (Itz Γ.K a b) where
  go := fun i H d s e => by
    obtain ⟨x, y, e1, e2, _⟩ := zipL_get e
    obtain ⟨v, e3, _⟩ := h2.get e1
    obtain ⟨u, e4, _⟩ := k2.get e2
    exact ⟨vs, us, v, u, SqL.of (s _ _ h1), SqL.of (s _ _ k1), e3, e4⟩
  yld := fun i H d v H' s e y => by
    obtain ⟨p, q, e1, e2, rfl⟩ := zipL_get e
    obtain ⟨w, e3, w1⟩ := h2.get e1
    obtain ⟨u, e4, u1⟩ := k2.get e2
    obtain ⟨T, z, z', rfl, hT, rfl, hz, hz'⟩ := y
    have q1 := hz vs (SqL.of (s _ _ h1))
    rw [e3] at q1
    cases q1
    have q2 := hz' us (SqL.of (s _ _ k1))
    rw [e4] at q2
    cases q2
    have ff : flats [p, q] = true := by simp only [flats, flats_mem f p (List.mem_of_getElem? e1), flats_mem f2 q (List.mem_of_getElem? e2)]; rfl
    exact .inr ⟨ff, born_tup hT ff ⟨_, _, rfl, w1.mono s, _, [], rfl, u1.mono s, rfl⟩⟩
  stop := fun i H s hl => ⟨vs, us, SqL.of (s _ _ h1), SqL.of (s _ _ k1), by rw [h2.length, k2.length]; rw [zipL_length] at hl; omega⟩
theorem rg_gr {x : Fx} {m : Md} {B H B' H' : Hp} (g : Gr B H B' H') : Same (rgOf x m B H) (rgOf x m B' H') := by
  cases m with
  | own => exact g.hh
  | par => exact Same.refl _
  | new => exact g.bb
theorem pui_zip {e2 : Expr} {fe2 : EF} {p tpos : Pos} {elts : List Expr} {kk : Nat} (hm : X.mg "zip" = none) (he : PuE cm X e fe) (he2 : PuE cm X e2 fe2) (hg : Gl X "zip" := by rfl)
    (hs : starEach [e, e2] X.env = (false, eval e X.env) :: starEach [e2] X.env := by rfl) (hpl : (backTo pos (starEach [e2] X.env)).any (·.1) = false := by rfl) (hs2 : starEach [e2] X.env = (false, eval e2 X.env) :: starEach [] X.env := by rfl) :
    PuI cm X (.Tuple elts kk tpos) (.Call (.Name "zip" p) [e, e2] [] pos) (iZ fe fe2) := by
  obtain ⟨t, pe, q⟩ := he
  obtain ⟨t2, pe2, q2⟩ := he2
  refine ⟨_, pi_zip hg hm (pa_cons pe (pa_cons pe2 pa_nil hs2) hs) hs hpl, fun x B F ρ σ H ds m R ok hf hR => ?_⟩
  unfold iZ at hf
  cases ea : fe ρ with
  | none => rw [ea] at hf; cases hf
  | some a =>
    cases eb : fe2 ρ with
    | none => rw [ea, eb] at hf; cases hf
    | some b =>
      rw [ea, eb] at hf
      obtain ⟨a, ma⟩ := a
      obtain ⟨b, mb⟩ := b
      simp only [Option.bind_some] at hf
      split at hf
      · rename_i ds es
        split at hf
        · rename_i f
          have em : mmin ma mb = some m ∧ ma = m ∧ mb = m := by
            cases ma <;> cases mb <;> simp [mmin] at hf ⊢ <;> exact hf.2
          obtain ⟨e0, rfl, rfl⟩ := em
          rw [e0] at hf
          cases hf
          refine q x B F ρ σ H _ _ _ ok ea fun v B1 H1 g1 ok1 hv => ?_
          refine q2 x B1 F ρ σ H1 _ _ _ ok1 eb fun u B2 H2 g2 ok2 hu => ?_
          obtain ⟨a, vs, rfl, h1, h2⟩ := rg_is hv
          obtain ⟨b, us, rfl, k1, k2⟩ := rg_is hu
          obtain ⟨a', vs', ea', j1, j2⟩ := (hv.mono g2).is ok2
          cases ea'
          obtain ⟨b', us', eb', l1, l2⟩ := hu.is ok2
          cases eb'
          exact ⟨a, b, vs', us', rfl, SqL.of j1, SqL.of l1, hR _ B2 H2 (g1.trans g2) ok2 (src_zip (rg_gr g2 _ _ h1) (h2.mono (rg_gr g2)) k1 k2 f.1 f.2)⟩
        · cases hf
      · cases hf
end
end DL

/-! DL8: list comprehensions. -/
namespace DL
open PySem L2

def wipeE (ρ : Ev) : List Nat → Ev
  | [] => ρ
  | v :: vs => (wipeE ρ vs).set v .emp
theorem wipeE_length (ρ : Ev) : ∀ vs : List Nat, (wipeE ρ vs).length = ρ.length
  | [] => rfl
  | v :: vs => by rw [wipeE, List.length_set, wipeE_length ρ vs]
section
variable {Γ : Ga} {x : Fx} {B : Hp} {F : Nat → List Addr} {ρ : Ev} {σ : St} {H : Hp}
theorem Ok.wipe (o : Ok Γ x B F ρ σ H) : ∀ vs : List Nat, ∃ F', Ok Γ x B F' (wipeE ρ vs) (L2.wipe σ vs) H
  | [] => ⟨F, o⟩
  | v :: vs => by
    obtain ⟨F', o'⟩ := Ok.wipe o vs
    rw [wipeE, L2.wipe]
    by_cases h : v < (wipeE ρ vs).length
    · exact ⟨_, o'.put (s := .emp) (v := none) rfl h⟩
    · rw [List.set_eq_of_length_le (by omega), List.set_eq_of_length_le (by rw [← o'.len]; omega)]
      exact ⟨F', o'⟩
theorem wipe_in {σ : St} {i : Nat} {v : Option V} : ∀ {vs : List Nat}, i ∈ vs → (L2.wipe σ vs)[i]? = some v → v = none
  | w :: vs, h, e => by
    rw [L2.wipe] at e
    by_cases q : w = i
    · subst q
      rw [List.getElem?_set] at e
      simp at e
      exact e.2.symm
    · rw [List.getElem?_set_ne q] at e
      exact wipe_in ((List.mem_cons.mp h).resolve_left fun z => q z.symm) e
theorem wipe_eq {σ τ : St} {vs : List Nat} (hl : σ.length = τ.length) (h : ∀ j, j ∉ vs → σ[j]? = τ[j]?) : L2.wipe σ vs = L2.wipe τ vs := by
  apply List.ext_getElem?
  intro j
  by_cases q : j ∈ vs
  · have l1 : (L2.wipe σ vs).length = (L2.wipe τ vs).length := by rw [L2.wipe_length, L2.wipe_length, hl]
    cases e1 : (L2.wipe σ vs)[j]? with
    | none =>
      have := List.getElem?_eq_none_iff.mp e1
      exact (List.getElem?_eq_none_iff.mpr (by omega)).symm
    | some u =>
      have lt := (List.getElem?_eq_some_iff.mp e1).1
      cases e2 : (L2.wipe τ vs)[j]? with
      | none =>
        have := List.getElem?_eq_none_iff.mp e2
        omega
      | some w => rw [wipe_in q e1, wipe_in q e2]
  · rw [L2.wipe_out q, L2.wipe_out q, h j q]
theorem wipe_wipe {σ : St} {vs : List Nat} : L2.wipe (L2.wipe σ vs) vs = L2.wipe σ vs := wipe_eq (L2.wipe_length σ vs) fun j hj => L2.wipe_out hj

theorem Val.eff {m : Md} {d : D} {v : V} (o : Ok Γ x B F ρ σ H) (h : Val Γ x m B H d v) : Val Γ x (effm m d) B H d v := h.part o fun R _ z => z
/-- a thing that no one knows of is written -/
theorem Ok.hid (o : Ok Γ x B F ρ σ H) {p : Addr} {vs us : List V} (hb : B p = none) (hk : x.Kp p = none) (hf : ∀ i, p ∉ F i) (hp : H p = some (.lst vs)) : Ok Γ x B F ρ σ (upd H p (.lst us)) where
  kp := fun a u e => by rw [upd_ne (fun q => by rw [q, hk] at e; cases e)]; exact o.kp a u e
  bh := fun a u e => by rw [upd_ne (fun q => by rw [q, hb] at e; cases e)]; exact o.bh a u e
  tup := fun a xs e => by
    by_cases q : a = p
    · subst q; rw [upd_same] at e; cases e
    · rw [upd_ne q] at e; exact o.tup a xs e
  born := o.born
  bk := o.bk
  dom := fun a e => by
    by_cases q : a = p
    · subst q; rw [upd_same] at e; cases e
    · rw [upd_ne q] at e; exact o.dom a e
  fk := o.fk
  dj := o.dj
  nd := o.nd
  out := o.out
  len := o.len
  at_ := fun i s h => by
    have q := o.at_ i s h
    have ht : TupK H (upd H p (.lst us)) := TupK.upd (by intro xs; rw [hp]; intro z; cases z)
    have hkk : ∀ a ∈ F i, (upd H p (.lst us)) a = H a := fun a ha => upd_ne fun z => hf i (z ▸ ha)
    cases s with
    | ow => obtain ⟨v, q1, q2, q3⟩ := q; exact ⟨v, q1, q2.keep ht hkk, q3⟩
    | on => obtain ⟨v, q1, q2, q3⟩ := q; exact ⟨v, q1, q2.keep ht hkk, q3⟩
    | _ => exact q
/-- an item has come -/
theorem Src.item {Rg : Hp} {ds : List D} {J : It} {m : Md} {B0 H0 : Hp} (S : Src Γ (rgOf x m B0 H0) ds J) (o : Ok Γ x B F ρ σ H) (g : Gr B0 H0 B H) {i : Nat} {d : D} {v : V} {H' : Hp} (e : ds[i]? = some d) (y : J.yld i H v H') :
    ∃ B', Gr B H B' H' ∧ Ok Γ x B' F ρ σ H' ∧ Val Γ x (effm m d) B' H' d v := by
  have s : Same (rgOf x m B0 H0) H := by
    cases m with
    | own => exact g.hh
    | par => exact o.kp
    | new => exact g.bb.trans o.bh
  rcases S.yld i H d v H' s e y with ⟨rfl, h⟩ | ⟨f, bn⟩
  · refine ⟨B, Gr.refl B _, o, Val.eff o ?_⟩
    cases m with
    | own => exact Is.mono g.hh h
    | par => exact h
    | new => exact Is.mono g.bb h
  · obtain ⟨B', g', o', h⟩ := o.born' bn
    refine ⟨B', g', o', ?_⟩
    unfold effm
    rw [if_pos f]
    exact h
theorem Src.same {ds : List D} {J : It} {m : Md} {B0 H0 : Hp} (o : Ok Γ x B F ρ σ H) (g : Gr B0 H0 B H) : Same (rgOf x m B0 H0) H := by
  cases m with
  | own => exact g.hh
  | par => exact o.kp
  | new => exact g.bb.trans o.bh
end
theorem Ok.to {Γ : Ga} {x : Fx} {B B' : Hp} {F F2 : Nat → List Addr} {ρ ρ2 : Ev} {σ σ2 : St} {H H' : Hp} (o : Ok Γ x B F ρ σ H) (g : Gr B H B' H') (o2 : Ok Γ x B' F2 ρ2 σ2 H') : Ok Γ x B' F ρ σ H' := o.grow g.hh g.bb o2.bh o2.tup g.new
theorem hid_none {B H B' H' : Hp} {p : Addr} {vs : List V} (bh : Same B' H') (g : Gr B H B' H') (hb : B p = none) (hp : H p = some (.lst vs)) : B' p = none := by
  cases z : B' p with
  | none => rfl
  | some u =>
    rcases g.new p u z with ⟨xs, rfl⟩ | h | h
    · have e := bh _ _ z
      rw [g.hh _ _ hp] at e
      cases e
    · rw [hb] at h; cases h
    · rw [hp] at h; cases h
def tGu (Γ : Ga) (js : List Nat) (g : GF) : TG := fun v σ H Q => ∃ (x : Fx) (B : Hp) (F : Nat → List Addr) (ρ ρ' : Ev) (d : D) (m : Md), Ok Γ x B F ρ σ H ∧ Val Γ x m B H d v ∧ g d m ρ = some ρ' ∧
  ∀ F' σ', Ok Γ x B F' ρ' σ' H → (∀ j, j ∉ js → σ'[j]? = σ[j]?) → σ'.length = σ.length → Q σ' H
theorem PuG.can {cm : Nat → Addr} {X : Cx} {tg : Expr} {js : List Nat} {g : GF} (h : PuG cm X tg js g) : PG X tg (tGu (gx X cm) js g) := by
  obtain ⟨t, p, q⟩ := h
  refine ⟨fun pins s σ H v u Q I r w => ?_⟩
  obtain ⟨x, B, F, ρ, ρ', d, m, ok, hv, hg, hQ⟩ := w
  exact p.run pins s σ H v u Q I r (q x B F ρ ρ' σ H d m v Q ok hv hg hQ)

/-- the tests of a clause -/
def PuTs (cm : Nat → Addr) (X : Cx) (ifs : List Expr) (f : Ev → Option Bool) : Prop := PTs X ifs (tPt (gx X cm) f)
theorem puts_nil {cm : Nat → Addr} {X : Cx} : PuTs cm X [] (fun _ => some true) :=
  ⟨fun pins s σ H Q I w => by
    obtain ⟨x, B, F, ρ, k, ok, ek, hQ⟩ := w
    cases ek
    exact pts_nil.run pins s σ H Q I (hQ B H (Gr.refl B H) ok)⟩
theorem puts_one {cm : Nat → Addr} {X : Cx} {c : Expr} {f : Ev → Option Bool} (h : PuT cm X c f) : PuTs cm X [c] f := pts_one h.can

def lcGo (g : GF) (t : Ev → Option Bool) (e : EF) (m : Md) (ρ : Ev) : List D → Option (List D)
  | [] => some []
  | d :: r => (g d (effm m d) ρ).bind fun ρ1 => (t ρ1).bind fun k => if k = true then (e ρ1).bind fun y => if (flat y.1 || isNew y.2) = true then (lcGo g t e m ρ r).map (y.1 :: ·) else none else lcGo g t e m ρ r
def eLc (f : IF) (vs : List Nat) (g : GF) (t : Ev → Option Bool) (e : EF) : EF := fun ρ => (f ρ).bind fun s => if s.1.length ≤ 16777216 then (lcGo g t e s.2 (wipeE ρ vs) s.1).map fun ys => (.lst ys, .new) else none
theorem lcGo_cons {g : GF} {t : Ev → Option Bool} {e : EF} {m : Md} {ρ : Ev} {d : D} {r : List D} {ys : List D} (h : lcGo g t e m ρ (d :: r) = some ys) :
    ∃ ρ1 k, g d (effm m d) ρ = some ρ1 ∧ t ρ1 = some k ∧ ((k = true ∧ ∃ y m1 zs, e ρ1 = some (y, m1) ∧ (flat y || isNew m1) = true ∧ lcGo g t e m ρ r = some zs ∧ ys = y :: zs) ∨ (k = false ∧ lcGo g t e m ρ r = some ys)) := by
  rw [lcGo] at h
  cases e1 : g d (effm m d) ρ with
  | none => rw [e1] at h; cases h
  | some ρ1 =>
    rw [e1] at h
    simp only [Option.bind_some] at h
    cases e2 : t ρ1 with
    | none => rw [e2] at h; cases h
    | some k =>
      rw [e2] at h
      simp only [Option.bind_some] at h
      refine ⟨ρ1, k, rfl, e2, ?_⟩
      cases k with
      | false => exact .inr ⟨rfl, by simpa using h⟩
      | true =>
        refine .inl ⟨rfl, ?_⟩
        rw [if_pos rfl] at h
        cases e3 : e ρ1 with
        | none => rw [e3] at h; cases h
        | some y =>
          rw [e3] at h
          simp only [Option.bind_some] at h
          split at h
          · rename_i f
            cases e4 : lcGo g t e m ρ r with
            | none => rw [e4] at h; cases h
            | some zs => rw [e4] at h; cases h; exact ⟨y.1, y.2, zs, rfl, f, rfl, rfl⟩
          · cases h

section
variable {cm : Nat → Addr} {X : Cx} {pos : Pos} {elt tg iter : Expr} {ifs : List Expr} {scope : Scope} {own : List (Str × Nat)} {js : List Nat} {f : IF} {g : GF} {t : Ev → Option Bool} {e : EF}
theorem lc_hid {wi : TI} (q : ∀ (x : Fx) (B : Hp) (F : Nat → List Addr) (ρ : Ev) (σ : St) (H : Hp) (ds : List D) (m : Md) (R : It → Hp → Prop), Ok (gx X cm) x B F ρ σ H → f ρ = some (ds, m) →
      (∀ J B' H', Gr B H B' H' → Ok (gx X cm) x B' F ρ σ H' → Src (gx X cm) (rgOf x m B' H') ds J → R J H') → wi σ H R) (hjs : ∀ j ∈ js, j ∈ own.map (·.2))
    (x : Fx) (B : Hp) (F : Nat → List Addr) (ρ : Ev) (σ : St) (H : Hp) (d : D) (m0 : Md) (Q : VK) (ok : Ok (gx X cm) x B F ρ σ H) (hf : eLc f (own.map (·.2)) g t e ρ = some (d, m0))
    (hQ : ∀ p B' H' ys vs, Gr B H B' H' → Ok (gx X cm) x B' F ρ σ H' → d = .lst ys → m0 = .new → H p = none → B' p = none → H' p = some (.lst vs) → Iss (gx X cm) B' ys vs → Q (.ref p) H') : tLc wi (tGu (gx X cm) js g) (tPt (gx X cm) t) (tPu (gx X cm) e) (own.map (·.2)) σ H Q := by
  unfold eLc at hf
  cases ea : f ρ with
  | none => rw [ea] at hf; cases hf
  | some s =>
    rw [ea] at hf
    obtain ⟨ds, m⟩ := s
    simp only [Option.bind_some] at hf
    split at hf
    · rename_i hlen
      cases eys : lcGo g t e m (wipeE ρ (own.map (·.2))) ds with
      | none => rw [eys] at hf; cases hf
      | some ys =>
        rw [eys] at hf
        cases hf
        refine q x B F ρ σ H ds m _ ok ea fun J B1 H1 g1 ok1 S => ?_
        intro Dd hD
        have kD : x.Kp Dd = none := Same.free ok1.kp hD
        have fD : ∀ i, Dd ∉ F i := fun i hi => by
          obtain ⟨u, hu, _⟩ := ok1.box hi
          rw [hD] at hu
          cases hu
        have bD : B1 Dd = none := Same.free ok1.bh hD
        refine ⟨fun i mm H => mm = ds.length - i ∧ i ≤ ds.length ∧ ∃ B accV accD rest, H Dd = some (.lst accV) ∧ Iss (gx X cm) B accD accV ∧ accV.length ≤ i ∧ B Dd = none ∧ Ok (gx X cm) x B F ρ σ H ∧ Gr B1 H1 B H ∧
            lcGo g t e m (wipeE ρ (own.map (·.2))) (ds.drop i) = some rest ∧ accD ++ rest = ys, ?_, ?_⟩
        · have sm : Same H1 (upd H1 Dd (.lst [])) := same_upd hD
          have gg : Gr B1 H1 B1 (upd H1 Dd (.lst [])) := ⟨sm, Same.refl _, fun a u h => .inr (.inl h)⟩
          have ok2 : Ok (gx X cm) x B1 F ρ σ (upd H1 Dd (.lst [])) := ok1.grow sm (Same.refl _) (ok1.bh.trans sm) (fun a xs h => by
            by_cases z : a = Dd
            · subst z; rw [upd_same] at h; cases h
            · rw [upd_ne z] at h; exact ok1.tup a xs h) fun a u h => .inr (.inl h)
          exact ⟨ds.length, by simp, Nat.zero_le _, B1, [], [], ys, upd_same, rfl, Nat.le_refl _, bD, ok2, gg, by simpa using eys, rfl⟩
        · rintro i mm H2 ⟨rfl, hi, B2, accV, accD, rest, hacc, iacc, lacc, b2D, ok2, g2, erest, eacc⟩
          by_cases hlt : i < ds.length
          · have ed : ds[i]? = some ds[i] := List.getElem?_eq_getElem hlt
            rw [List.drop_eq_getElem_cons hlt] at erest
            obtain ⟨ρ1, k, h1, h2, h3⟩ := lcGo_cons erest
            refine .inr ⟨S.go i H2 _ (Src.same (ds := ds) (J := J) ok2 g2) ed, fun H' => (i + 1 ≤ ds.length ∧ ∃ B accV accD rest, H' Dd = some (.lst accV) ∧ Iss (gx X cm) B accD accV ∧ accV.length ≤ i + 1 ∧ B Dd = none ∧ Ok (gx X cm) x B F ρ σ H' ∧ Gr B1 H1 B H' ∧
              lcGo g t e m (wipeE ρ (own.map (·.2))) (ds.drop (i + 1)) = some rest ∧ accD ++ rest = ys), fun H' h => ⟨ds.length - (i + 1), by omega, rfl, h⟩, fun v H3 y => ?_⟩
            obtain ⟨B3, g3, ok3, hv⟩ := S.item (Rg := H) ok2 g2 ed y
            obtain ⟨F', okb⟩ := ok3.wipe (own.map (·.2))
            refine ⟨x, B3, F', _, ρ1, _, _, okb, hv, h1, fun F4 σ4 ok4 hs hl => ⟨?_, ?_⟩⟩
            · exact (wipe_eq (τ := L2.wipe σ (own.map (·.2))) hl fun j hj => hs j fun z => hj (hjs j z)).trans wipe_wipe
            · refine ⟨x, B3, F4, ρ1, k, ok4, h2, fun B5 H5 g5 ok5 => ?_⟩
              have g25 : Gr B2 H2 B5 H5 := g3.trans g5
              rcases h3 with ⟨rfl, y1, m1, zs, h4, h5, h6, rfl⟩ | ⟨rfl, h6⟩
              · refine iteT ⟨x, B5, F4, ρ1, y1, m1, ok5, h4, fun w B6 H6 g6 ok6 hw => ?_⟩
                have g26 : Gr B2 H2 B6 H6 := g25.trans g6
                have o6 : Ok (gx X cm) x B6 F ρ σ H6 := ok2.to g26 ok6
                have b6 : B6 Dd = none := hid_none ok6.bh g26 b2D hacc
                refine ⟨accV, g26.hh _ _ hacc, by rw [line_eq]; omega, hlt, B6, accV ++ [w], accD ++ [y1], zs, upd_same, (iacc.mono g26.bb).snoc (Val.new ok6 h5 hw), by rw [List.length_append, List.length_singleton]; omega, b6, o6.hid b6 kD fD (g26.hh _ _ hacc), ?_, h6, by rw [← eacc]; simp⟩
                have gg := g2.trans g26
                exact ⟨fun a u h => by rw [upd_ne (fun z => by rw [z, hD] at h; cases h)]; exact gg.hh a u h, gg.bb, gg.new⟩
              · exact iteF ⟨hlt, B5, accV, accD, rest, g25.hh _ _ hacc, iacc.mono g25.bb, by omega, hid_none ok5.bh g25 b2D hacc, ok2.to g25 ok5, g2.trans g25, h6, eacc⟩
          · have ei : i = ds.length := by omega
            subst ei
            rw [List.drop_length] at erest
            cases erest
            rw [List.append_nil] at eacc
            subst eacc
            refine .inl ⟨S.stop _ H2 (Src.same (ds := ds) (J := J) ok2 g2) (Nat.le_refl _), ?_⟩
            exact hQ Dd B2 H2 _ accV (g1.trans g2) ok2 rfl rfl (g1.hh.free hD) b2D hacc iacc
    · cases hf
theorem lc_reads {wi : TI} (q : ∀ (x : Fx) (B : Hp) (F : Nat → List Addr) (ρ : Ev) (σ : St) (H : Hp) (ds : List D) (m : Md) (R : It → Hp → Prop), Ok (gx X cm) x B F ρ σ H → f ρ = some (ds, m) →
      (∀ J B' H', Gr B H B' H' → Ok (gx X cm) x B' F ρ σ H' → Src (gx X cm) (rgOf x m B' H') ds J → R J H') → wi σ H R) (hjs : ∀ j ∈ js, j ∈ own.map (·.2))
    (x : Fx) (B : Hp) (F : Nat → List Addr) (ρ : Ev) (σ : St) (H : Hp) (d : D) (m0 : Md) (Q : VK) (ok : Ok (gx X cm) x B F ρ σ H) (hf : eLc f (own.map (·.2)) g t e ρ = some (d, m0))
    (hQ : ∀ v B' H', Gr B H B' H' → Ok (gx X cm) x B' F ρ σ H' → Val (gx X cm) x m0 B' H' d v → Q v H') : tLc wi (tGu (gx X cm) js g) (tPt (gx X cm) t) (tPu (gx X cm) e) (own.map (·.2)) σ H Q := by
  refine lc_hid q hjs x B F ρ σ H d m0 Q ok hf fun Dd B2 H2 ys accV g2 ok2 ed em hD b2D hacc iacc => ?_
  subst ed em
  have nb : Same B2 (upd B2 Dd (.lst accV)) := same_upd b2D
  have bh2 : Same (upd B2 Dd (.lst accV)) H2 := fun a u h => by
    by_cases z : a = Dd
    · subst z; rw [upd_same] at h; cases h; exact hacc
    · rw [upd_ne z] at h; exact ok2.bh a u h
  have nw : ∀ a u, (upd B2 Dd (.lst accV)) a = some u → (∃ xs, u = .tup xs) ∨ B a = some u ∨ H a = none := fun a u h => by
    by_cases z : a = Dd
    · subst z; exact .inr (.inr hD)
    · rw [upd_ne z] at h; exact g2.new a u h
  refine hQ (.ref Dd) (upd B2 Dd (.lst accV)) H2 ⟨g2.hh, g2.bb.trans nb, nw⟩ ?_ ⟨Dd, accV, rfl, upd_same, iacc.mono nb⟩
  exact ok.grow g2.hh (g2.bb.trans nb) bh2 (fun a xs h => nb _ _ (ok2.tup a xs h)) nw
theorem pu_lc (hN : X.N.Nodup) (hi : PuI cm X tg iter f) (ok : BlkOk X.N X.env.scope scope own) (hg : ∀ (s : Shared) (H : Hp) (C : Addr) (cl : List (Str × Addr)) (fp : List Addr), PuG cm (X.blk s H scope (compEnvC scope cl C X.env) fp) tg js g)
    (ht : ∀ (s : Shared) (H : Hp) (C : Addr) (cl : List (Str × Addr)) (fp : List Addr), PuTs cm (X.blk s H scope (compEnvC scope cl C X.env) fp) ifs t)
    (he : ∀ (s : Shared) (H : Hp) (C : Addr) (cl : List (Str × Addr)) (fp : List Addr), PuE cm (X.blk s H scope (compEnvC scope cl C X.env) fp) elt e) (hjs : ∀ j ∈ js, j ∈ own.map (·.2) := by decide) (hc : X.calm = true := by rfl) (hs : ∀ x, foldedSetIterable iter X.env x = pure x := by intro _; rfl) :
    PuE cm X (.ListComp elt [⟨tg, iter, ifs, 0⟩] scope pos) (eLc f (own.map (·.2)) g t e) := by
  obtain ⟨wi, p, q⟩ := hi
  exact ⟨_, pe_lc hc hN p ok (fun s H C cl fp => (hg s H C cl fp).can) (fun s H C cl fp => (show PTs (X.blk s H scope (compEnvC scope cl C X.env) fp) ifs (tPt (gx X cm) t) from ht s H C cl fp)) (fun s H C cl fp => (he s H C cl fp).can) hs, lc_reads q hjs⟩
end
end DL

/-! DL9: statements as functions of the slots; defs that change nothing. -/
namespace DL
open PySem L2

inductive Fl where
  | nx (ρ : Ev) | rt (d : D) (ρ : Ev) | bk (ρ : Ev) | ct (ρ : Ev)
abbrev SF := Ev → Option Fl
def Post (Γ : Ga) (x : Fx) (B0 : Hp) (r : Fl) (E : Ends) : Prop := match r with
  | .nx ρ => ∀ B F σ H, Same B0 B → Ok Γ x B F ρ σ H → E.nx σ H
  | .bk ρ => ∀ B F σ H, Same B0 B → Ok Γ x B F ρ σ H → E.bk σ H
  | .ct ρ => ∀ B F σ H, Same B0 B → Ok Γ x B F ρ σ H → E.ct σ H
  | .rt d ρ => ∀ v B F σ H, Same B0 B → Ok Γ x B F ρ σ H → Is Γ B d v → E.rt v H
theorem Post.mono {Γ : Ga} {x : Fx} {B0 B1 : Hp} {r : Fl} {E : Ends} (s : Same B0 B1) (h : Post Γ x B0 r E) : Post Γ x B1 r E := by
  cases r with
  | nx => exact fun B F σ H s' o => h B F σ H (s.trans s') o
  | bk => exact fun B F σ H s' o => h B F σ H (s.trans s') o
  | ct => exact fun B F σ H s' o => h B F σ H (s.trans s') o
  | rt => exact fun v B F σ H s' o i => h v B F σ H (s.trans s') o i
def PuS (cm : Nat → Addr) (X : Cx) (st : Stmt) (g : SF) : Prop :=
  ∃ t, PS X st t ∧ ∀ (x : Fx) (B : Hp) (F : Nat → List Addr) (ρ : Ev) (σ : St) (H : Hp) (r : Fl) (E : Ends), Ok (gx X cm) x B F ρ σ H → g ρ = some r → Post (gx X cm) x B r E → t E σ H
def PuB (cm : Nat → Addr) (X : Cx) (st : List Stmt) (g : SF) : Prop :=
  ∃ t, PSs X st t ∧ ∀ (x : Fx) (B : Hp) (F : Nat → List Addr) (ρ : Ev) (σ : St) (H : Hp) (r : Fl) (E : Ends), Ok (gx X cm) x B F ρ σ H → g ρ = some r → Post (gx X cm) x B r E → t E σ H
section
variable {cm : Nat → Addr} {X : Cx} {pos : Pos} {st : Stmt} {sts : List Stmt} {e : Expr} {f : EF} {g h : SF}
def bNil : SF := fun ρ => some (.nx ρ)
def bSeq (g h : SF) : SF := fun ρ => (g ρ).bind fun r => match r with
  | .nx ρ' => h ρ'
  | r => some r
theorem pub_nil : PuB cm X [] bNil := ⟨_, pss_nil, fun x B F ρ σ H r E ok hf hE => by cases hf; exact hE B F σ H (Same.refl B) ok⟩
theorem pub_one (hs : PuS cm X st g) : PuB cm X [st] g := by
  obtain ⟨t, p, q⟩ := hs
  exact ⟨t, pss_one p, q⟩
theorem pub_cons (hs : PuS cm X st g) (hb : PuB cm X sts h) : PuB cm X (st :: sts) (bSeq g h) := by
  obtain ⟨t, p, q⟩ := hs
  obtain ⟨u, p2, q2⟩ := hb
  refine ⟨_, pss_cons p p2, fun x B F ρ σ H r E ok hf hE => ?_⟩
  unfold bSeq at hf
  cases e1 : g ρ with
  | none => rw [e1] at hf; cases hf
  | some r1 =>
    rw [e1] at hf
    refine q x B F ρ σ H r1 _ ok e1 ?_
    cases r1 with
    | nx ρ1 => exact fun B' F' σ' H' s ok' => q2 x B' F' ρ1 σ' H' r E ok' hf (hE.mono s)
    | bk => cases hf; exact hE
    | ct => cases hf; exact hE
    | rt => cases hf; exact hE
def sPass : SF := fun ρ => some (.nx ρ)
def sBreak : SF := fun ρ => some (.bk ρ)
def sCont : SF := fun ρ => some (.ct ρ)
def sNever : SF := fun _ => none
theorem pus_pass : PuS cm X (.Pass pos) sPass := ⟨_, ps_pass, fun x B F ρ σ H r E ok hf hE => by cases hf; exact hE B F σ H (Same.refl B) ok⟩
theorem pus_break : PuS cm X (.Break pos) sBreak := ⟨_, ps_break, fun x B F ρ σ H r E ok hf hE => by cases hf; exact hE B F σ H (Same.refl B) ok⟩
theorem pus_cont : PuS cm X (.Continue pos) sCont := ⟨_, ps_continue, fun x B F ρ σ H r E ok hf hE => by cases hf; exact hE B F σ H (Same.refl B) ok⟩
theorem pus_never : PuS cm X st sNever := ⟨_, ps_never, fun x B F ρ σ H r E ok hf hE => by cases hf⟩
def sDrop (f : EF) : SF := fun ρ => (f ρ).map fun _ => .nx ρ
theorem pus_expr (he : PuE cm X e f) (hs : swapsWith e none pos.line X.env = pure false := by rfl) : PuS cm X (.Expr e pos) (sDrop f) := by
  obtain ⟨t, p, q⟩ := he
  refine ⟨_, ps_expr p hs, fun x B F ρ σ H r E ok hf hE => ?_⟩
  unfold sDrop at hf
  cases e1 : f ρ with
  | none => rw [e1] at hf; cases hf
  | some a =>
    rw [e1] at hf
    cases hf
    exact q x B F ρ σ H a.1 a.2 _ ok e1 fun v B' H' gr ok' _ => hE B' F σ H' gr.bb ok'
def sSet (i : Nat) (f : EF) : SF := fun ρ => (f ρ).bind fun a => (setS i a.1 a.2 ρ).map .nx
theorem set_reads {te : TE} {i : Nat} (q : ∀ (x : Fx) (B : Hp) (F : Nat → List Addr) (ρ : Ev) (σ : St) (H : Hp) (d : D) (m : Md) (Q : VK), Ok (gx X cm) x B F ρ σ H → f ρ = some (d, m) →
      (∀ v B' H', Gr B H B' H' → Ok (gx X cm) x B' F ρ σ H' → Val (gx X cm) x m B' H' d v → Q v H') → te σ H Q)
    (x : Fx) (B : Hp) (F : Nat → List Addr) (ρ : Ev) (σ : St) (H : Hp) (r : Fl) (E : Ends) (ok : Ok (gx X cm) x B F ρ σ H) (hf : sSet i f ρ = some r) (hE : Post (gx X cm) x B r E) : tAsg te (gName i) E σ H := by
  unfold sSet at hf
  cases e1 : f ρ with
  | none => rw [e1] at hf; cases hf
  | some a =>
    rw [e1] at hf
    simp only [Option.bind_some] at hf
    cases e2 : setS i a.1 a.2 ρ with
    | none => rw [e2] at hf; cases hf
    | some ρ' =>
      rw [e2] at hf
      cases hf
      exact q x B F ρ σ H a.1 a.2 _ ok e1 fun v B' H' gr ok' hv => hE B' _ _ H' gr.bb (ok'.setS e2 hv)
theorem pus_set (i : Nat) {x : Str} {pos' : Pos} (hN : X.N.Nodup) (he : PuE cm X e f) (hi : X.N[i]? = some x := by rfl) (hx : Loc X.env.scope x := by first | exact .inl rfl | exact .inr rfl)
    (hs : swapsWith e (some (.Name x pos')) pos.line X.env = pure false := by rfl) (hf : X.fn x = true ∨ X.env.scope.names.lookup x = some .local := by first | exact .inl rfl | exact .inr rfl) : PuS cm X (.Assign [.Name x pos'] e pos) (sSet i f) := by
  obtain ⟨t, p, q⟩ := he
  exact ⟨_, ps_set hN hi hx p hs hf, set_reads q⟩
/-- name = [..] on one line -/
theorem pus_setLc (i : Nat) {y : Str} {py : Pos} {elt tg iter : Expr} {ifs : List Expr} {scope : Scope} {own : List (Str × Nat)} {js : List Nat} {spos : Pos} {fi : IF} {g : GF} {t : Ev → Option Bool} {e : EF} (hN : X.N.Nodup) (hi : PuI cm X tg iter fi) (ok : BlkOk X.N X.env.scope scope own)
    (hg : ∀ (s : Shared) (H : Hp) (C : Addr) (cl : List (Str × Addr)) (fp : List Addr), PuG cm (X.blk s H scope (compEnvC scope cl C X.env) fp) tg js g)
    (ht : ∀ (s : Shared) (H : Hp) (C : Addr) (cl : List (Str × Addr)) (fp : List Addr), PuTs cm (X.blk s H scope (compEnvC scope cl C X.env) fp) ifs t)
    (he : ∀ (s : Shared) (H : Hp) (C : Addr) (cl : List (Str × Addr)) (fp : List Addr), PuE cm (X.blk s H scope (compEnvC scope cl C X.env) fp) elt e)
    (hy : X.N[i]? = some y := by rfl) (hyl : X.env.scope.names.lookup y = some .local := by rfl) (hsw : swapsWith (.ListComp elt [⟨tg, iter, ifs, 0⟩] scope pos) (some (.Name y py)) spos.line X.env = pure true := by exact sw_true rfl rfl rfl (by decide +kernel))
    (hjs : ∀ j ∈ js, j ∈ own.map (·.2) := by decide) (hc : X.calm = true := by rfl) (hs : ∀ x, foldedSetIterable iter X.env x = pure x := by intro _; rfl) :
    PuS cm X (.Assign [.Name y py] (.ListComp elt [⟨tg, iter, ifs, 0⟩] scope pos) spos) (sSet i (eLc fi (own.map (·.2)) g t e)) := by
  obtain ⟨wi, p, q⟩ := hi
  exact ⟨_, ps_setLc hc hN hy hyl hsw p ok (fun s H C cl fp => (hg s H C cl fp).can) (fun s H C cl fp => (show PTs (X.blk s H scope (compEnvC scope cl C X.env) fp) ifs (tPt (gx X cm) t) from ht s H C cl fp)) (fun s H C cl fp => (he s H C cl fp).can) hs, set_reads (lc_reads q hjs)⟩
/-- a, b = e -/
def sUnp (f : EF) (g : GF) : SF := fun ρ => (f ρ).bind fun a => (g a.1 a.2 ρ).map .nx
theorem pus_unp {tg : Expr} {js : List Nat} {gg : GF} (he : PuE cm X e f) (hg : PuG cm X tg js gg) (hs : swapsWithSole [tg] e pos.line X.env = pure false := by rfl) (hw : swappedStores [tg] e X.env = pure none := by rfl) (h1 : (assignEach [tg] X.env).map (·.2) = [assign tg X.env] := by rfl) : PuS cm X (.Assign [tg] e pos) (sUnp f gg) := by
  obtain ⟨t, p, q⟩ := he
  obtain ⟨tg', p2, q2⟩ := hg
  refine ⟨_, ps_asg p p2 hs hw h1, fun x B F ρ σ H r E ok hf hE => ?_⟩
  unfold sUnp at hf
  cases e1 : f ρ with
  | none => rw [e1] at hf; cases hf
  | some a =>
    rw [e1] at hf
    simp only [Option.bind_some] at hf
    cases e2 : gg a.1 a.2 ρ with
    | none => rw [e2] at hf; cases hf
    | some ρ' =>
      rw [e2] at hf
      cases hf
      exact q x B F ρ σ H a.1 a.2 _ ok e1 fun v B' H' gr ok' hv => q2 x B' F ρ ρ' σ H' a.1 a.2 v _ ok' hv e2 fun F' σ' ok2 _ _ => hE B' F' σ' H' gr.bb ok2
/-- name += e, ints -/
def sAug (i : Nat) (o : D → D → Option D) (f : EF) : SF := fun ρ => (eV i ρ).bind fun a => (f ρ).bind fun b => (o a.1 b.1).bind fun c => (setS i c .new ρ).map .nx
theorem pus_augI (i : Nat) {x : Str} {pos' : Pos} {op : Operator} {fn : Int → Int → Int} {o : D → D → Option D} (hp : PIp X op (ipI fn)) (ho : ∀ a b c, o a b = some c → ∃ i j, a = .int i ∧ b = .int j ∧ c = .int (fn i j)) (hN : X.N.Nodup) (he : PuE cm X e f) (hi : X.N[i]? = some x := by rfl) (hx : Loc X.env.scope x := by first | exact .inl rfl | exact .inr rfl)
    (hf : X.fn x = true ∨ X.env.scope.names.lookup x = some .local := by first | exact .inl rfl | exact .inr rfl) : PuS cm X (.AugAssign (.Name x pos') op e pos) (sAug i o f) := by
  obtain ⟨t, p, q⟩ := he
  refine ⟨_, ps_aug hN hi hx p hp hf, fun x B F ρ σ H r E ok hg hE => ?_⟩
  unfold sAug at hg
  cases e1 : eV i ρ with
  | none => rw [e1] at hg; cases hg
  | some a =>
    rw [e1] at hg
    simp only [Option.bind_some] at hg
    cases e2 : f ρ with
    | none => rw [e2] at hg; cases hg
    | some b =>
      rw [e2] at hg
      simp only [Option.bind_some] at hg
      cases e3 : o a.1 b.1 with
      | none => rw [e3] at hg; cases hg
      | some c =>
        rw [e3] at hg
        simp only [Option.bind_some] at hg
        cases e4 : setS i c .new ρ with
        | none => rw [e4] at hg; cases hg
        | some ρ' =>
          rw [e4] at hg
          cases hg
          obtain ⟨n, k, ea, eb, rfl⟩ := ho _ _ _ e3
          obtain ⟨a, ma⟩ := a
          obtain ⟨b, mb⟩ := b
          cases ea
          cases eb
          have key : σ[i]? = some (some (.int n)) := by
            unfold eV at e1
            split at e1
            all_goals first
              | (rename_i z; cases e1; obtain ⟨_, v, h1, h2⟩ := ok.at_ i _ z; cases h2; exact h1)
              | (rename_i z; cases e1; obtain ⟨_, v, h1, h2, _⟩ := ok.at_ i _ z; cases h2; exact h1)
              | (rename_i z; cases e1; obtain ⟨v, h1, h2, _⟩ := ok.at_ i _ z; cases h2.1; exact h1)
              | cases e1
          refine ⟨_, key, q x B F ρ σ H _ _ _ ok e2 fun v B' H' gr ok' hv => ?_⟩
          cases hv.is ok'
          exact ⟨n, k, rfl, rfl, hE B' _ _ H' gr.bb (ok'.setS e4 rfl)⟩
def augAdd (a b : D) : Option D := match a, b with
  | .int i, .int j => some (.int (i + j))
  | _, _ => none
theorem pus_augadd (i : Nat) {x : Str} {pos' : Pos} (hN : X.N.Nodup) (he : PuE cm X e f) (hi : X.N[i]? = some x := by rfl) (hx : Loc X.env.scope x := by first | exact .inl rfl | exact .inr rfl)
    (hf : X.fn x = true ∨ X.env.scope.names.lookup x = some .local := by first | exact .inl rfl | exact .inr rfl) : PuS cm X (.AugAssign (.Name x pos') .Add e pos) (sAug i augAdd f) :=
  pus_augI i (fn := fun i j => i + j) ip_add (fun a b c h => by unfold augAdd at h; split at h <;> cases h; exact ⟨_, _, rfl, rfl, rfl⟩) hN he hi hx hf
def sRet (f : EF) : SF := fun ρ => (f ρ).bind fun a => if (flat a.1 || isNew a.2) = true then some (.rt a.1 ρ) else none
theorem pus_ret (he : PuE cm X e f) : PuS cm X (.Return (some e) pos) (sRet f) := by
  obtain ⟨t, p, q⟩ := he
  refine ⟨_, ps_ret p, fun x B F ρ σ H r E ok hf hE => ?_⟩
  unfold sRet at hf
  cases e1 : f ρ with
  | none => rw [e1] at hf; cases hf
  | some a =>
    rw [e1] at hf
    simp only [Option.bind_some] at hf
    split at hf
    · rename_i hn
      cases hf
      exact q x B F ρ σ H a.1 a.2 _ ok e1 fun v B' H' gr ok' hv => hE v B' F σ H' gr.bb ok' (Val.new ok' hn hv)
    · cases hf
def sRetN : SF := fun ρ => some (.rt .non ρ)
theorem pus_retN : PuS cm X (.Return none pos) sRetN := ⟨_, ps_retN, fun x B F ρ σ H r E ok hf hE => by cases hf; exact hE _ B F σ H (Same.refl B) ok rfl⟩
def sIf (c : Ev → Option Bool) (g h : SF) : SF := fun ρ => (c ρ).bind fun k => if k = true then g ρ else h ρ
theorem pus_if {c : Expr} {fc : Ev → Option Bool} {a b : List Stmt} (hc : PuT cm X c fc) (ha : PuB cm X a g) (hb : PuB cm X b h) : PuS cm X (.If c a b pos) (sIf fc g h) := by
  obtain ⟨t, p, q⟩ := hc
  obtain ⟨ta, pa, qa⟩ := ha
  obtain ⟨tb, pb, qb⟩ := hb
  refine ⟨_, ps_if p pa pb, fun x B F ρ σ H r E ok hf hE => ?_⟩
  unfold sIf at hf
  cases e1 : fc ρ with
  | none => rw [e1] at hf; cases hf
  | some k =>
    rw [e1] at hf
    refine q x B F ρ σ H k _ ok e1 fun B' H' gr ok' => ?_
    cases k with
    | true => exact iteT (qa x B' F ρ σ H' r E ok' (by simpa using hf) (hE.mono gr.bb))
    | false => exact iteF (qb x B' F ρ σ H' r E ok' (by simpa using hf) (hE.mono gr.bb))

/-! ### for -/
def notOwn : Md → Bool
  | .own => false
  | _ => true
def forGo (g : GF) (b : SF) (m : Md) : List D → Ev → Option Fl
  | [], ρ => some (.nx ρ)
  | d :: r, ρ => (g d (effm m d) ρ).bind fun ρ1 => (b ρ1).bind fun s => match s with
    | .nx ρ2 => forGo g b m r ρ2
    | .ct ρ2 => forGo g b m r ρ2
    | .bk ρ2 => some (.nx ρ2)
    | .rt d ρ2 => some (.rt d ρ2)
def sFor (f : IF) (g : GF) (b : SF) : SF := fun ρ => (f ρ).bind fun s => if notOwn s.2 = true then forGo g b s.2 s.1 ρ else none
theorem Src.item2 {Γ : Ga} {x : Fx} {ds : List D} {J : It} {m : Md} {B0 H0 B H : Hp} {F : Nat → List Addr} {ρ : Ev} {σ : St} (S : Src Γ (rgOf x m B0 H0) ds J) (hm : notOwn m = true) (o : Ok Γ x B F ρ σ H) (bb : Same B0 B) {i : Nat} {d : D} (e : ds[i]? = some d) :
    J.go i H ∧ ∀ v H', J.yld i H v H' → ∃ B', Gr B H B' H' ∧ Ok Γ x B' F ρ σ H' ∧ Val Γ x (effm m d) B' H' d v := by
  have s : Same (rgOf x m B0 H0) H := by
    cases m with
    | own => simp [notOwn] at hm
    | par => exact o.kp
    | new => exact bb.trans o.bh
  refine ⟨S.go i H d s e, fun v H' y => ?_⟩
  rcases S.yld i H d v H' s e y with ⟨rfl, h⟩ | ⟨f, bn⟩
  · refine ⟨B, Gr.refl B _, o, Val.eff o ?_⟩
    cases m with
    | own => simp [notOwn] at hm
    | par => exact h
    | new => exact Is.mono bb h
  · obtain ⟨B', g', o', h⟩ := o.born' bn
    refine ⟨B', g', o', ?_⟩
    unfold effm
    rw [if_pos f]
    exact h
theorem pus_for {tg iter : Expr} {body : List Stmt} {js : List Nat} {fi : IF} {gg : GF} (hi : PuI cm X tg iter fi) (hg : PuG cm X tg js gg) (hb : PuB cm X body g) (hp : PassesOwn (model X.prog X.w) X.A X.env X.xe := by exact PassesOwn.never) (hc : X.calm = true := by rfl) (hs : ∀ x, foldedSetIterable iter X.env x = pure x := by intro _; rfl) : PuS cm X (.For tg iter body [] pos) (sFor fi gg g) := by
  obtain ⟨wi, p, q⟩ := hi
  obtain ⟨tg', p2, q2⟩ := hg
  obtain ⟨tb, p3, q3⟩ := hb
  refine ⟨_, ps_for hp hc p p2 p3 hs, fun x B F ρ σ H r E ok hf hE => ?_⟩
  unfold sFor at hf
  cases e1 : fi ρ with
  | none => rw [e1] at hf; cases hf
  | some s =>
    rw [e1] at hf
    obtain ⟨ds, m⟩ := s
    simp only [Option.bind_some] at hf
    split at hf
    · rename_i hm
      refine q x B F ρ σ H ds m _ ok e1 fun J B1 H1 g1 ok1 S => ?_
      refine ⟨fun i mm σ H => mm = ds.length - i ∧ i ≤ ds.length ∧ ∃ B F ρ, Ok (gx X cm) x B F ρ σ H ∧ Same B1 B ∧ forGo gg g m (ds.drop i) ρ = some r, ⟨ds.length, by simp, Nat.zero_le _, B1, F, ρ, ok1, Same.refl B1, by simpa using hf⟩, ?_⟩
      rintro i mm σ2 H2 ⟨rfl, hi, B2, F2, ρ2, ok2, bb, er⟩
      by_cases hlt : i < ds.length
      · have ed : ds[i]? = some ds[i] := List.getElem?_eq_getElem hlt
        rw [List.drop_eq_getElem_cons hlt, forGo] at er
        cases h1 : gg ds[i] (effm m ds[i]) ρ2 with
        | none => rw [h1] at er; cases er
        | some ρ3 =>
          rw [h1] at er
          simp only [Option.bind_some] at er
          cases h2 : g ρ3 with
          | none => rw [h2] at er; cases er
          | some r3 =>
            rw [h2] at er
            simp only [Option.bind_some] at er
            obtain ⟨hgo, hy⟩ := S.item2 (H0 := H1) hm ok2 bb ed
            refine .inr ⟨hgo, fun σ H => i + 1 ≤ ds.length ∧ ∃ B F ρ, Ok (gx X cm) x B F ρ σ H ∧ Same B1 B ∧ forGo gg g m (ds.drop (i + 1)) ρ = some r, fun σ' H' h => ⟨_, by omega, rfl, h⟩, fun v H3 y => ?_⟩
            obtain ⟨B3, g3, ok3, hv⟩ := hy v H3 y
            refine q2 x B3 F2 ρ2 ρ3 σ2 H3 _ _ v _ ok3 hv h1 fun F4 σ4 ok4 _ _ => ?_
            refine q3 x B3 F4 ρ3 σ4 H3 r3 _ ok4 h2 ?_
            have b13 : Same B1 B3 := bb.trans g3.bb
            cases r3 with
            | nx ρ4 => exact fun B' F' σ' H' s ok' => ⟨hlt, B', F', ρ4, ok', b13.trans s, er⟩
            | ct ρ4 => exact fun B' F' σ' H' s ok' => ⟨hlt, B', F', ρ4, ok', b13.trans s, er⟩
            | bk ρ4 => cases er; exact fun B' F' σ' H' s ok' => hE B' F' σ' H' (g1.bb.trans (b13.trans s)) ok'
            | rt d ρ4 => cases er; exact fun v B' F' σ' H' s ok' hi => hE v B' F' σ' H' (g1.bb.trans (b13.trans s)) ok' hi
      · have ei : i = ds.length := by omega
        subst ei
        rw [List.drop_length] at er
        cases er
        have s : Same (rgOf x m B1 H1) H2 := by
          cases m with
          | own => simp [notOwn] at hm
          | par => exact ok2.kp
          | new => exact bb.trans ok2.bh
        exact .inl ⟨S.stop _ H2 s (Nat.le_refl _), hE B2 F2 σ2 H2 (g1.bb.trans bb) ok2⟩
    · cases hf

/-! ### while -/
def whGo (c : Ev → Option Bool) (b : SF) : Nat → Ev → Option Fl
  | 0, _ => none
  | n + 1, ρ => (c ρ).bind fun k => if k = true then (b ρ).bind fun s => match s with
    | .nx ρ2 => whGo c b n ρ2
    | .ct ρ2 => whGo c b n ρ2
    | .bk ρ2 => some (.nx ρ2)
    | .rt d ρ2 => some (.rt d ρ2) else some (.nx ρ)
theorem whGo_step {c : Ev → Option Bool} {b : SF} : ∀ {n : Nat} {ρ : Ev} {r : Fl}, whGo c b n ρ = some r → whGo c b (n + 1) ρ = some r
  | 0, _, _, h => by cases h
  | n + 1, ρ, r, h => by
    rw [whGo] at h ⊢
    cases e1 : c ρ with
    | none => rw [e1] at h; cases h
    | some k =>
      rw [e1] at h
      simp only [Option.bind_some] at h ⊢
      split at h
      · rename_i hk
        rw [if_pos hk]
        cases e2 : b ρ with
        | none => rw [e2] at h; cases h
        | some s =>
          rw [e2] at h
          simp only [Option.bind_some] at h ⊢
          cases s with
          | nx ρ2 => exact whGo_step h
          | ct ρ2 => exact whGo_step h
          | bk => exact h
          | rt => exact h
      · rename_i hk
        rw [if_neg hk]
        exact h
theorem whGo_le {c : Ev → Option Bool} {b : SF} {n m : Nat} {ρ : Ev} {r : Fl} (h : whGo c b n ρ = some r) (l : n ≤ m) : whGo c b m ρ = some r := by
  induction l with
  | refl => exact h
  | step _ ih => exact whGo_step ih
open Classical in
noncomputable def sWhile (c : Ev → Option Bool) (b : SF) : SF := fun ρ => if h : ∃ n r, whGo c b n ρ = some r then some h.choose_spec.choose else none
theorem sWhile_of {c : Ev → Option Bool} {b : SF} {n : Nat} {ρ : Ev} {r : Fl} (h : whGo c b n ρ = some r) : sWhile c b ρ = some r := by
  have q : ∃ n r, whGo c b n ρ = some r := ⟨n, r, h⟩
  unfold sWhile
  rw [dif_pos q]
  have h2 := q.choose_spec.choose_spec
  have a := whGo_le h (Nat.le_max_left n q.choose)
  have a2 := whGo_le h2 (Nat.le_max_right n q.choose)
  rw [a] at a2
  exact a2.symm
theorem sWhile_some {c : Ev → Option Bool} {b : SF} {ρ : Ev} {r : Fl} (h : sWhile c b ρ = some r) : ∃ n, whGo c b n ρ = some r := by
  unfold sWhile at h
  split at h
  · rename_i q
    have h2 := q.choose_spec.choose_spec
    cases h
    exact ⟨_, h2⟩
  · cases h
theorem pus_while {c : Expr} {body : List Stmt} {fc : Ev → Option Bool} (hc : PuT cm X c fc) (hb : PuB cm X body g) (hp : PassesOwn (model X.prog X.w) X.A X.env X.xe := by exact PassesOwn.never) : PuS cm X (.While c body [] pos) (sWhile fc g) := by
  obtain ⟨t, p, q⟩ := hc
  obtain ⟨tb, p3, q3⟩ := hb
  refine ⟨_, ps_while hp p p3, fun x B F ρ σ H r E ok hf hE => ?_⟩
  obtain ⟨n, hn⟩ := sWhile_some hf
  refine ⟨fun m σ H => ∃ B' F ρ, Ok (gx X cm) x B' F ρ σ H ∧ Same B B' ∧ whGo fc g m ρ = some r, ⟨n, B, F, ρ, ok, Same.refl B, hn⟩, ?_⟩
  rintro m σ2 H2 ⟨B2, F2, ρ2, ok2, bb, er⟩
  cases m with
  | zero => cases er
  | succ m =>
    rw [whGo] at er
    cases e1 : fc ρ2 with
    | none => rw [e1] at er; cases er
    | some k =>
      rw [e1] at er
      simp only [Option.bind_some] at er
      refine q x B2 F2 ρ2 σ2 H2 k _ ok2 e1 fun B3 H3 g3 ok3 => ?_
      cases k with
      | false =>
        simp at er
        subst er
        exact iteF (hE B3 F2 σ2 H3 (bb.trans g3.bb) ok3)
      | true =>
        rw [if_pos rfl] at er
        cases e2 : g ρ2 with
        | none => rw [e2] at er; cases er
        | some s =>
          rw [e2] at er
          simp only [Option.bind_some] at er
          refine iteT ⟨fun σ H => ∃ B' F ρ, Ok (gx X cm) x B' F ρ σ H ∧ Same B B' ∧ whGo fc g m ρ = some r, fun σ' H' h => ⟨m, Nat.lt_succ_self _, h⟩, ?_⟩
          refine q3 x B3 F2 ρ2 σ2 H3 s _ ok3 e2 ?_
          have b13 : Same B B3 := bb.trans g3.bb
          cases s with
          | nx ρ4 => exact fun B' F' σ' H' s ok' => ⟨B', F', ρ4, ok', b13.trans s, er⟩
          | ct ρ4 => exact fun B' F' σ' H' s ok' => ⟨B', F', ρ4, ok', b13.trans s, er⟩
          | bk ρ4 => cases er; exact fun B' F' σ' H' s ok' => hE B' F' σ' H' (b13.trans s) ok'
          | rt d ρ4 => cases er; exact fun v B' F' σ' H' s ok' hi => hE v B' F' σ' H' (b13.trans s) ok' hi
end

/-! ### a def that changes nothing -/
/-- the slots at the entry -/
def ent (n : Nat) (ds : List D) : Ev := ds.map .fz ++ List.replicate (n - ds.length) .emp
/-- what the body b says of the arguments; n: the number of slots, k: of arguments -/
def fnP (n k : Nat) (b : SF) (ds : List D) : Option D := if ds.length = k then (b (ent n ds)).bind fun r => match r with
  | .rt d _ => some d
  | .nx _ => some .non
  | _ => none else none
theorem ok_start {K : PySem.W.Frag} {cm : Nat → Addr} {H : Hp} {ds : List D} {vs : List V} {N : List Str} (h : Iss ⟨K, cm⟩ H ds vs) (hl : ds.length ≤ N.length) :
    Ok ⟨K, cm⟩ ⟨H, H, fun _ => False, L2.start N vs⟩ (tupOf H) (fun _ => []) (ent N.length ds) (L2.start N vs) H where
  kp := Same.refl H
  bh := tupOf_same
  tup := fun a xs e => tupOf_tup e
  born := fun a o e => .inl (tupOf_some e).2
  bk := fun a o e => .inl (tupOf_some e).2
  dom := fun a e => e
  fk := fun i a ha => nomatch ha
  dj := fun i j a ha => nomatch ha
  nd := fun i => List.nodup_nil
  out := fun i _ => rfl
  len := by unfold ent L2.start; simp [h.length]
  at_ := fun i s e => by
    unfold ent at e
    by_cases q : i < ds.length
    · rw [List.getElem?_append_left (by simpa using q), List.getElem?_map] at e
      have e1 : ds[i]? = some ds[i] := List.getElem?_eq_getElem q
      rw [e1] at e
      cases e
      obtain ⟨v, ev, hv⟩ := h.get e1
      have e0 : (L2.start N vs)[i]? = some (some v) := by
        unfold L2.start
        rw [List.getElem?_append_left (by simpa [h.length] using q), List.getElem?_map, ev]; rfl
      exact ⟨rfl, v, e0, hv, e0⟩
    · rw [List.getElem?_append_right (by simpa using q)] at e
      have := List.mem_of_getElem? e
      rw [List.eq_of_mem_replicate this]
      rfl
theorem fn_pure {P : Program} {w : World} {K : PySem.W.Frag} {mg : Str → Option Value} {base : Heap} {cm : Nat → Addr} {x qual : Str} {st : Stmt} {f : Addr} {fd : FuncData} {N ps : List Str} {k : Nat} {b : SF} (F : Fun K x qual st f fd) (S : FnScope N ps (defScope st)) (hN : ps.length ≤ N.length)
    (hb : ∀ (cdv : Value) (A : Around) (outer : List Env) (s : Shared) (H : Hp) (E : XK), Room k (A.deeper (PyProof.Rows.envOfC qual (defScope st) s.heap.objs.size f cdv)) → PuB cm (cxOf CX0 P w K mg base N qual (defScope st) f cdv A outer s H E).nox (defBody st) b) :
    FnOk P w K mg base CX0 (k + 1) f fd ps (spP K cm (fnP N.length ps.length b)) := by
  refine F.ok S (fun vs H Q E h => ?_) (fun cdv A outer s H vs Q E hr h => ?_)
  · obtain ⟨ds, d, h1, h2, _⟩ := h
    unfold fnP at h2
    split at h2
    · rename_i e
      rw [h1.length, e]
    · cases h2
  · obtain ⟨ds, d, h1, h2, h3⟩ := h
    unfold fnP at h2
    split at h2
    · rename_i e
      obtain ⟨t, p, q⟩ := hb cdv A outer s H E hr
      cases e1 : b (ent N.length ds) with
      | none => rw [e1] at h2; cases h2
      | some r =>
        rw [e1] at h2
        simp only [Option.bind_some] at h2
        refine ⟨t, p, q _ _ _ _ _ _ r _ (ok_start (N := N) h1 (by omega)) e1 ?_⟩
        have born : ∀ {v : V} {B : Hp} {F : Nat → List Addr} {ρ : Ev} {σ : St} {H' : Hp} {d : D}, Ok ⟨K, cm⟩ ⟨H, H, fun _ => False, L2.start N vs⟩ B F ρ σ H' → Is ⟨K, cm⟩ B d v → Born ⟨K, cm⟩ H H' d v := fun ok hi => ⟨ok.kp, _, ok.bh, ok.born, hi⟩
        cases r with
        | nx ρ => cases h2; exact fun B F σ H' s ok => h3 _ _ (born ok (v := .non) rfl)
        | rt c ρ => cases h2; exact fun v B F σ H' s ok hi => h3 _ _ (born ok hi)
        | bk => cases h2
        | ct => cases h2
    · cases h2
end DL

/-! DL10: things of one's own: made, found by their way, changed. -/
namespace DL
open PySem L2

def ownD (ρ : Ev) (i : Nat) : Option D := match ρ[i]? with
  | some (.ow d) => some d
  | some (.on d) => some d
  | _ => none
def setOwn (ρ : Ev) (i : Nat) (d : D) : Ev := match ρ[i]? with
  | some (.ow _) => ρ.set i (.ow d)
  | some (.on _) => ρ.set i (.on d)
  | _ => ρ
def onF (F : Nat → List Addr) (i : Nat) (l : List Addr) : Nat → List Addr := fun j => if j = i then l else F j
/-- addresses that no one knows of -/
def Loose (x : Fx) (B : Hp) (F : Nat → List Addr) (a : Addr) : Prop := B a = none ∧ x.Kp a = none ∧ x.H0 a = none ∧ ∀ j, a ∉ F j
section
variable {Γ : Ga} {x : Fx} {B : Hp} {F : Nat → List Addr} {ρ : Ev} {σ : St} {H H' : Hp}
theorem Ok.own (o : Ok Γ x B F ρ σ H) {i : Nat} {d : D} (h : ownD ρ i = some d) : ∃ v, σ[i]? = some (some v) ∧ Own Γ H d v (F i) := by
  unfold ownD at h
  split at h
  · rename_i e; cases h; obtain ⟨v, h1, h2, _⟩ := o.at_ i _ e; exact ⟨v, h1, h2⟩
  · rename_i e; cases h; obtain ⟨v, h1, h2, _⟩ := o.at_ i _ e; exact ⟨v, h1, h2⟩
  · cases h
theorem Ok.write (o : Ok Γ x B F ρ σ H) {i : Nat} {d d' : D} {v : V} {fp : List Addr} (h : ownD ρ i = some d) (hv : σ[i]? = some (some v)) (hk : ∀ a u, a ∉ F i → H a = some u → H' a = some u) (hd : ∀ a, H' a = none → H a = none)
    (ht : ∀ a xs, H' a = some (.tup xs) → H a = some (.tup xs)) (ho : Own Γ H' d' v fp) (hn : fp.Nodup) (hf : ∀ a ∈ fp, a ∈ F i ∨ Loose x B F a) : Ok Γ x B (onF F i fp) (setOwn ρ i d') σ H' := by
  have tk : TupK H H' := fun a xs e => hk a _ (fun z => by obtain ⟨u, hu, bx⟩ := o.box z; rw [e] at hu; cases hu; exact bx) e
  have hlt : i < ρ.length := by
    unfold ownD at h
    split at h
    · rename_i e; exact (List.getElem?_eq_some_iff.mp e).1
    · rename_i e; exact (List.getElem?_eq_some_iff.mp e).1
    · cases h
  have hlen : (setOwn ρ i d').length = ρ.length := by
    unfold setOwn
    split <;> simp
  have other : ∀ j, j ≠ i → (setOwn ρ i d')[j]? = ρ[j]? := fun j hj => by
    unfold setOwn
    split
    · exact List.getElem?_set_ne (Ne.symm hj)
    · exact List.getElem?_set_ne (Ne.symm hj)
    · rfl
  have mem : ∀ j a, a ∈ onF F i fp j → a ∈ F j ∨ (j = i ∧ Loose x B F a) := fun j a ha => by
    unfold onF at ha
    split at ha
    · rename_i q
      subst q
      rcases hf a ha with z | z
      · exact .inl z
      · exact .inr ⟨rfl, z⟩
    · exact .inl ha
  refine ⟨fun a u e => hk a u (fun z => by rw [(o.fk i a z).1] at e; cases e) (o.kp a u e), fun a u e => hk a u (fun z => by rw [(o.fk i a z).2.1] at e; cases e) (o.bh a u e), fun a xs e => o.tup a xs (ht a xs e), o.born, o.bk, fun a e => o.dom a (hd a e), fun j a ha => ?_, fun j k a h1 h2 => ?_, fun j => ?_, fun j hj => ?_, by rw [hlen, o.len], fun j s hs => ?_⟩
  · rcases mem j a ha with z | ⟨_, z1, z2, z3, _⟩
    · exact o.fk j a z
    · exact ⟨z2, z1, .inr z3⟩
  · rcases mem j a h1 with z1 | ⟨rfl, z1⟩
    · rcases mem k a h2 with z2 | ⟨rfl, z2⟩
      · exact o.dj j k a z1 z2
      · exact absurd z1 (z2.2.2.2 j)
    · rcases mem k a h2 with z2 | ⟨rfl, z2⟩
      · exact absurd z2 (z1.2.2.2 k)
      · rfl
  · unfold onF
    split
    · exact hn
    · exact o.nd j
  · unfold onF
    split
    · rename_i q; subst q; omega
    · exact o.out j (by omega)
  · by_cases q : j = i
    · subst q
      rw [show onF F j fp j = fp from if_pos rfl]
      unfold ownD at h
      unfold setOwn at hs
      split at h
      · rename_i e
        rw [e] at hs
        simp only at hs
        rw [List.getElem?_set_self hlt] at hs
        cases hs
        obtain ⟨v', h1, h2, h3⟩ := o.at_ j _ e
        rw [hv] at h1
        cases h1
        exact ⟨v, hv, ho, h3⟩
      · rename_i e
        rw [e] at hs
        simp only at hs
        rw [List.getElem?_set_self hlt] at hs
        cases hs
        obtain ⟨v', h1, h2, h3⟩ := o.at_ j _ e
        rw [hv] at h1
        cases h1
        refine ⟨v, hv, ho, fun a ha => ?_⟩
        rcases hf a ha with z | z
        · exact h3 a z
        · exact z.2.2.1
      · cases h
    · rw [other j q] at hs
      rw [show onF F i fp j = F j from if_neg q]
      have r := o.at_ j s hs
      have hkk : ∀ a ∈ F j, H' a = H a := fun a ha => by
        obtain ⟨u, hu, _⟩ := o.box ha
        rw [hu, hk a u (fun z => q (o.dj j i a ha z)) hu]
      cases s with
      | ow => obtain ⟨v', q1, q2, q3⟩ := r; exact ⟨v', q1, q2.keep tk hkk, q3⟩
      | on => obtain ⟨v', q1, q2, q3⟩ := r; exact ⟨v', q1, q2.keep tk hkk, q3⟩
      | _ => exact r
/-- a new thing of one's own at a slot -/
theorem Ok.putOn (o : Ok Γ x B F ρ σ H) {i : Nat} {d : D} {v : V} {fp : List Addr} (hi : i < ρ.length) (ho : Own Γ H d v fp) (hn : fp.Nodup) (hf : ∀ a ∈ fp, Loose x B F a) : Ok Γ x B (onF F i fp) (ρ.set i (.on d)) (σ.set i (some v)) H where
  kp := o.kp
  bh := o.bh
  tup := o.tup
  born := o.born
  bk := o.bk
  dom := o.dom
  fk := fun j a ha => by
    unfold onF at ha
    split at ha
    · obtain ⟨h1, h2, h3, _⟩ := hf a ha; exact ⟨h2, h1, .inr h3⟩
    · exact o.fk j a ha
  dj := fun j k a h1 h2 => by
    unfold onF at h1 h2
    split at h1
    · split at h2
      · rename_i q1 q2; rw [q1, q2]
      · exact absurd h2 ((hf a h1).2.2.2 k)
    · split at h2
      · exact absurd h1 ((hf a h2).2.2.2 j)
      · exact o.dj j k a h1 h2
  nd := fun j => by
    unfold onF
    split
    · exact hn
    · exact o.nd j
  out := fun j hj => by
    rw [List.length_set] at hj
    unfold onF
    split
    · omega
    · exact o.out j hj
  len := by rw [List.length_set, List.length_set, o.len]
  at_ := fun j s hs => by
    by_cases q : j = i
    · subst q
      rw [List.getElem?_set_self hi] at hs
      cases hs
      rw [List.getElem?_set_self (by rw [← o.len]; exact hi), show onF F j fp j = fp from if_pos rfl]
      exact ⟨v, rfl, ho, fun a ha => (hf a ha).2.2.1⟩
    · rw [List.getElem?_set_ne (Ne.symm q)] at hs ⊢
      rw [show onF F i fp j = F j from if_neg q]
      exact o.at_ j s hs
theorem Ok.loose {B0 H0 : Hp} (o : Ok Γ x B F ρ σ H) (o0 : Ok Γ x B0 F ρ σ H0) {a : Addr} (h0 : H0 a = none) (hb : B a = none) : Loose x B F a :=
  ⟨hb, Same.free o0.kp h0, o0.dom a h0, fun j hj => by obtain ⟨u, hu, _⟩ := o0.box hj; rw [h0] at hu; cases hu⟩
end

/-! ### a thing made anew (or flat) -/
abbrev NF := Ev → Option D
def PuN (cm : Nat → Addr) (X : Cx) (e : Expr) (f : NF) : Prop :=
  ∃ t, PE X e t ∧ ∀ (x : Fx) (B : Hp) (F : Nat → List Addr) (ρ : Ev) (σ : St) (H : Hp) (d : D) (Q : VK), Ok (gx X cm) x B F ρ σ H → f ρ = some d →
    (∀ v B' H' fp, Gr B H B' H' → Ok (gx X cm) x B' F ρ σ H' → Own (gx X cm) H' d v fp → fp.Nodup → (∀ a ∈ fp, H a = none ∧ B' a = none) → Q v H') → t σ H Q
section
variable {cm : Nat → Addr} {X : Cx} {pos : Pos} {e : Expr} {f : EF}
def nFlat (f : EF) : NF := fun ρ => (f ρ).bind fun a => if flat a.1 = true then some a.1 else none
theorem pn_flat (h : PuE cm X e f) : PuN cm X e (nFlat f) := by
  obtain ⟨t, p, q⟩ := h
  refine ⟨t, p, fun x B F ρ σ H d Q ok hf hQ => ?_⟩
  unfold nFlat at hf
  cases e1 : f ρ with
  | none => rw [e1] at hf; cases hf
  | some a =>
    rw [e1] at hf
    simp only [Option.bind_some] at hf
    split at hf
    · rename_i hfl
      cases hf
      exact q x B F ρ σ H a.1 a.2 Q ok e1 fun v B' H' g ok' hv => hQ v B' H' [] g ok' (Own.ofFlat hfl (hv.is ok')) List.nodup_nil (fun _ h => nomatch h)
    · cases hf
/-- several, one after another -/
def PuNs (cm : Nat → Addr) (X : Cx) (es : List Expr) (f : Ev → Option (List D)) : Prop :=
  ∃ t, PA X es t ∧ ∀ (x : Fx) (B : Hp) (F : Nat → List Addr) (ρ : Ev) (σ : St) (H : Hp) (ds : List D) (Q : List V → Hp → Prop), Ok (gx X cm) x B F ρ σ H → f ρ = some ds →
    (∀ vs B' H' fp, Gr B H B' H' → Ok (gx X cm) x B' F ρ σ H' → Owns (gx X cm) H' ds vs fp → fp.Nodup → (∀ a ∈ fp, H a = none ∧ B' a = none) → Q vs H') → t σ H Q
def nNil : Ev → Option (List D) := fun _ => some []
def nCons (f : NF) (g : Ev → Option (List D)) : Ev → Option (List D) := fun ρ => (f ρ).bind fun a => (g ρ).bind fun r => some (a :: r)
theorem pns_nil : PuNs cm X [] nNil := ⟨_, pa_nil, fun x B F ρ σ H ds Q ok hf hQ => by cases hf; exact hQ [] B H [] (Gr.refl B H) ok ⟨rfl, rfl⟩ List.nodup_nil (fun _ h => nomatch h)⟩
/-- a tree stays over what only grows -/
theorem own_gr {Γ : Ga} {B H B' H' : Hp} {d : D} {v : V} {fp : List Addr} (g : Gr B H B' H') (h : Own Γ H d v fp) : Own Γ H' d v fp := h.keep (TupK.of g.hh) fun a ha => by
  obtain ⟨u, hu, _⟩ := h.box a ha
  rw [hu, g.hh a u hu]
theorem box_gr {B H B' H' : Hp} {a : Addr} {u : HO} (bh : Same B' H') (g : Gr B H B' H') (hb : B a = none) (hu : H a = some u) (bx : Box u) : B' a = none := by
  cases z : B' a with
  | none => rfl
  | some w =>
    have e := bh a w z
    rw [g.hh a u hu] at e
    cases e
    rcases g.new a u z with ⟨xs, rfl⟩ | h | h
    · exact bx.elim
    · rw [hb] at h; cases h
    · rw [hu] at h; cases h
theorem pns_cons {es : List Expr} {f : NF} {g : Ev → Option (List D)} (ha : PuN cm X e f) (hr : PuNs cm X es g) (hs : starEach (e :: es) X.env = (false, eval e X.env) :: starEach es X.env := by rfl) : PuNs cm X (e :: es) (nCons f g) := by
  obtain ⟨t, p, q⟩ := ha
  obtain ⟨u, p2, q2⟩ := hr
  refine ⟨_, pa_cons p p2 hs, fun x B F ρ σ H ds Q ok hf hQ => ?_⟩
  unfold nCons at hf
  cases e1 : f ρ with
  | none => rw [e1] at hf; cases hf
  | some a =>
    rw [e1] at hf
    simp only [Option.bind_some] at hf
    cases e2 : g ρ with
    | none => rw [e2] at hf; cases hf
    | some r =>
      rw [e2] at hf
      cases hf
      refine q x B F ρ σ H a _ ok e1 fun v B1 H1 f1 g1 ok1 o1 n1 l1 => ?_
      refine q2 x B1 F ρ σ H1 r _ ok1 e2 fun vs B2 H2 f2 g2 ok2 o2 n2 l2 => ?_
      refine hQ (v :: vs) B2 H2 (f1 ++ f2) (g1.trans g2) ok2 ⟨v, vs, f1, f2, rfl, own_gr g2 o1, o2, rfl⟩ (List.nodup_append.mpr ⟨n1, n2, ?_⟩) fun b hb => ?_
      · rintro b hb c hc rfl
        obtain ⟨u, hu, _⟩ := o1.box b hb
        rw [(l2 b hc).1] at hu
        cases hu
      · rcases List.mem_append.mp hb with hb | hb
        · obtain ⟨u, hu, bx⟩ := o1.box b hb
          exact ⟨(l1 b hb).1, box_gr ok2.bh g2 (l1 b hb).2 hu bx⟩
        · exact ⟨g1.hh.free (l2 b hb).1, (l2 b hb).2⟩
/-- a new object is laid, unknown -/
theorem Ok.laidH {Γ : Ga} {x : Fx} {B : Hp} {F : Nat → List Addr} {ρ : Ev} {σ : St} {H : Hp} (ok : Ok Γ x B F ρ σ H) {p : Addr} {o : HO} (hp : H p = none) (ho : ∀ xs, o ≠ .tup xs) : Gr B H B (upd H p o) ∧ Ok Γ x B F ρ σ (upd H p o) := by
  have g : Gr B H B (upd H p o) := ⟨same_upd hp, Same.refl B, fun a u e => .inr (.inl e)⟩
  refine ⟨g, ok.grow g.hh g.bb (ok.bh.trans g.hh) (fun a xs e => ?_) g.new⟩
  by_cases q : a = p
  · subst q; rw [upd_same] at e; cases e; exact absurd rfl (ho xs)
  · rw [upd_ne q] at e; exact ok.tup a xs e
def nLst (g : Ev → Option (List D)) : NF := fun ρ => (g ρ).bind fun ds => if ds.length ≤ 16777216 then some (.lst ds) else none
theorem Owns.length {Γ : Ga} {H : Hp} : ∀ {ds : List D} {vs : List V} {fp : List Addr}, Owns Γ H ds vs fp → vs.length = ds.length
  | [], _, _, h => by rw [h.1]; rfl
  | _ :: _, _, _, ⟨v, r, f1, f2, e, _, h2, _⟩ => by subst e; rw [List.length_cons, List.length_cons, Owns.length h2]
theorem pn_lst {es : List Expr} {g : Ev → Option (List D)} (ha : PuNs cm X es g) : PuN cm X (.List es pos) (nLst g) := by
  obtain ⟨t, p, q⟩ := ha
  refine ⟨_, pe_lst p, fun x B F ρ σ H d Q ok hf hQ => ?_⟩
  unfold nLst at hf
  cases e1 : g ρ with
  | none => rw [e1] at hf; cases hf
  | some ds =>
    rw [e1] at hf
    simp only [Option.bind_some] at hf
    split at hf
    · rename_i hl
      cases hf
      refine q x B F ρ σ H ds _ ok e1 fun vs B1 H1 fp g1 ok1 o1 n1 l1 => ⟨by rw [line_eq, o1.length]; exact hl, fun l hlz => ?_⟩
      obtain ⟨g2, ok2⟩ := ok1.laidH (o := .lst vs) hlz (fun xs z => nomatch z)
      have keep : ∀ a ∈ fp, (upd H1 l (.lst vs)) a = H1 a := fun a ha => by
        obtain ⟨u, hu, _⟩ := o1.box a ha
        exact upd_ne fun z => by rw [z, hlz] at hu; cases hu
      refine hQ (.ref l) B1 _ (l :: fp) (g1.trans g2) ok2 ⟨l, vs, fp, rfl, upd_same, o1.keep (TupK.of g2.hh) keep, rfl⟩ (List.nodup_cons.mpr ⟨fun z => ?_, n1⟩) fun a ha => ?_
      · obtain ⟨u, hu, _⟩ := o1.box l z
        rw [hlz] at hu
        cases hu
      · rcases List.mem_cons.mp ha with rfl | ha
        · exact ⟨g1.hh.free hlz, Same.free ok1.bh hlz⟩
        · exact l1 a ha
    · cases hf
def nDic0 : NF := fun _ => some (.dic [])
theorem pn_dic0 : PuN cm X (.Dict [] [] pos) nDic0 := by
  refine ⟨_, pe_dnewK, fun x B F ρ σ H d Q ok hf hQ => ?_⟩
  cases hf
  intro l hlz
  obtain ⟨g2, ok2⟩ := ok.laidH (o := .dK []) hlz (fun xs z => nomatch z)
  refine hQ (.ref l) B _ [l] g2 ok2 ⟨l, [], [], rfl, upd_same, ⟨rfl, rfl⟩, rfl⟩ (by simp) fun a ha => ?_
  rcases List.mem_cons.mp ha with rfl | ha
  · exact ⟨hlz, Same.free ok.bh hlz⟩
  · cases ha
/-- [.. for ..] of flat things -/
def nLc (f : EF) : NF := fun ρ => (f ρ).bind fun a => match a.1 with
  | .lst ds => if flats ds = true then some (.lst ds) else none
  | _ => none
theorem lc_own {own : List (Str × Nat)} {js : List Nat} {wi : TI} {fi : IF} {g : GF} {t : Ev → Option Bool} {e : EF} (q : ∀ (x : Fx) (B : Hp) (F : Nat → List Addr) (ρ : Ev) (σ : St) (H : Hp) (ds : List D) (m : Md) (R : It → Hp → Prop), Ok (gx X cm) x B F ρ σ H → fi ρ = some (ds, m) →
      (∀ J B' H', Gr B H B' H' → Ok (gx X cm) x B' F ρ σ H' → Src (gx X cm) (rgOf x m B' H') ds J → R J H') → wi σ H R) (hjs : ∀ j ∈ js, j ∈ own.map (·.2))
    (x : Fx) (B : Hp) (F : Nat → List Addr) (ρ : Ev) (σ : St) (H : Hp) (d : D) (Q : VK) (ok : Ok (gx X cm) x B F ρ σ H) (hf : nLc (eLc fi (own.map (·.2)) g t e) ρ = some d)
    (hQ : ∀ v B' H' fp, Gr B H B' H' → Ok (gx X cm) x B' F ρ σ H' → Own (gx X cm) H' d v fp → fp.Nodup → (∀ a ∈ fp, H a = none ∧ B' a = none) → Q v H') : tLc wi (tGu (gx X cm) js g) (tPt (gx X cm) t) (tPu (gx X cm) e) (own.map (·.2)) σ H Q := by
  unfold nLc at hf
  cases e1 : eLc fi (own.map (·.2)) g t e ρ with
  | none => rw [e1] at hf; cases hf
  | some a =>
    rw [e1] at hf
    obtain ⟨a, ma⟩ := a
    simp only [Option.bind_some] at hf
    split at hf
    · rename_i ds
      split at hf
      · rename_i hfl
        cases hf
        refine lc_hid q hjs x B F ρ σ H _ ma Q ok e1 fun Dd B2 H2 ys accV g2 ok2 ed em hD b2D hacc iacc => ?_
        cases ed
        refine hQ (.ref Dd) B2 H2 [Dd] g2 ok2 ⟨Dd, accV, [], rfl, hacc, Owns.ofFlat hfl (iacc.mono ok2.bh), rfl⟩ (by simp) fun a ha => ?_
        rcases List.mem_cons.mp ha with rfl | ha
        · exact ⟨hD, b2D⟩
        · cases ha
      · cases hf
    · cases hf
theorem pn_lc {tg iter elt : Expr} {ifs : List Expr} {scope : Scope} {own : List (Str × Nat)} {js : List Nat} {fi : IF} {g : GF} {t : Ev → Option Bool} {e : EF} (hN : X.N.Nodup) (hi : PuI cm X tg iter fi) (ok : BlkOk X.N X.env.scope scope own)
    (hg : ∀ (s : Shared) (H : Hp) (C : Addr) (cl : List (Str × Addr)) (fp : List Addr), PuG cm (X.blk s H scope (compEnvC scope cl C X.env) fp) tg js g)
    (ht : ∀ (s : Shared) (H : Hp) (C : Addr) (cl : List (Str × Addr)) (fp : List Addr), PuTs cm (X.blk s H scope (compEnvC scope cl C X.env) fp) ifs t)
    (he : ∀ (s : Shared) (H : Hp) (C : Addr) (cl : List (Str × Addr)) (fp : List Addr), PuE cm (X.blk s H scope (compEnvC scope cl C X.env) fp) elt e) (hjs : ∀ j ∈ js, j ∈ own.map (·.2) := by decide) (hc : X.calm = true := by rfl) (hs : ∀ x, foldedSetIterable iter X.env x = pure x := by intro _; rfl) :
    PuN cm X (.ListComp elt [⟨tg, iter, ifs, 0⟩] scope pos) (nLc (eLc fi (own.map (·.2)) g t e)) := by
  obtain ⟨wi, p, q⟩ := hi
  exact ⟨_, pe_lc hc hN p ok (fun s H C cl fp => (hg s H C cl fp).can) (fun s H C cl fp => (show PTs (X.blk s H scope (compEnvC scope cl C X.env) fp) ifs (tPt (gx X cm) t) from ht s H C cl fp)) (fun s H C cl fp => (he s H C cl fp).can) hs, lc_own q hjs⟩

/-! ### name = a thing of one's own -/
def sSetN (i : Nat) (f : NF) : SF := fun ρ => (f ρ).bind fun d => (ρ[i]?).bind fun s => if freeS s = true then some (.nx (ρ.set i (.on d))) else none
theorem setN_reads {te : TE} {i : Nat} {f : NF} (q : ∀ (x : Fx) (B : Hp) (F : Nat → List Addr) (ρ : Ev) (σ : St) (H : Hp) (d : D) (Q : VK), Ok (gx X cm) x B F ρ σ H → f ρ = some d →
    (∀ v B' H' fp, Gr B H B' H' → Ok (gx X cm) x B' F ρ σ H' → Own (gx X cm) H' d v fp → fp.Nodup → (∀ a ∈ fp, H a = none ∧ B' a = none) → Q v H') → te σ H Q)
    (x : Fx) (B : Hp) (F : Nat → List Addr) (ρ : Ev) (σ : St) (H : Hp) (r : Fl) (E : Ends) (ok : Ok (gx X cm) x B F ρ σ H) (hf : sSetN i f ρ = some r) (hE : Post (gx X cm) x B r E) : tAsg te (gName i) E σ H := by
  unfold sSetN at hf
  cases e1 : f ρ with
  | none => rw [e1] at hf; cases hf
  | some d =>
    rw [e1] at hf
    simp only [Option.bind_some] at hf
    cases e2 : ρ[i]? with
    | none => rw [e2] at hf; cases hf
    | some s =>
      rw [e2] at hf
      simp only [Option.bind_some] at hf
      split at hf
      · cases hf
        refine q x B F ρ σ H d _ ok e1 fun v B' H' fp g ok' o n l => ?_
        exact hE B' _ _ H' g.bb (ok'.putOn (List.getElem?_eq_some_iff.mp e2).1 o n fun a ha => ok'.loose ok (l a ha).1 (l a ha).2)
      · cases hf
theorem pus_setN (i : Nat) {x : Str} {pos' : Pos} {f : NF} (hN : X.N.Nodup) (he : PuN cm X e f) (hi : X.N[i]? = some x := by rfl) (hx : Loc X.env.scope x := by first | exact .inl rfl | exact .inr rfl)
    (hs : swapsWith e (some (.Name x pos')) pos.line X.env = pure false := by rfl) (hf : X.fn x = true ∨ X.env.scope.names.lookup x = some .local := by first | exact .inl rfl | exact .inr rfl) : PuS cm X (.Assign [.Name x pos'] e pos) (sSetN i f) := by
  obtain ⟨t, p, q⟩ := he
  exact ⟨_, ps_set hN hi hx p hs hf, setN_reads q⟩
theorem pus_setNLc (i : Nat) {y : Str} {py : Pos} {elt tg iter : Expr} {ifs : List Expr} {scope : Scope} {own : List (Str × Nat)} {js : List Nat} {spos : Pos} {fi : IF} {g : GF} {t : Ev → Option Bool} {e : EF} (hN : X.N.Nodup) (hi : PuI cm X tg iter fi) (ok : BlkOk X.N X.env.scope scope own)
    (hg : ∀ (s : Shared) (H : Hp) (C : Addr) (cl : List (Str × Addr)) (fp : List Addr), PuG cm (X.blk s H scope (compEnvC scope cl C X.env) fp) tg js g)
    (ht : ∀ (s : Shared) (H : Hp) (C : Addr) (cl : List (Str × Addr)) (fp : List Addr), PuTs cm (X.blk s H scope (compEnvC scope cl C X.env) fp) ifs t)
    (he : ∀ (s : Shared) (H : Hp) (C : Addr) (cl : List (Str × Addr)) (fp : List Addr), PuE cm (X.blk s H scope (compEnvC scope cl C X.env) fp) elt e)
    (hy : X.N[i]? = some y := by rfl) (hyl : X.env.scope.names.lookup y = some .local := by rfl) (hsw : swapsWith (.ListComp elt [⟨tg, iter, ifs, 0⟩] scope pos) (some (.Name y py)) spos.line X.env = pure true := by exact sw_true rfl rfl rfl (by decide +kernel))
    (hjs : ∀ j ∈ js, j ∈ own.map (·.2) := by decide) (hc : X.calm = true := by rfl) (hs : ∀ x, foldedSetIterable iter X.env x = pure x := by intro _; rfl) :
    PuS cm X (.Assign [.Name y py] (.ListComp elt [⟨tg, iter, ifs, 0⟩] scope pos) spos) (sSetN i (nLc (eLc fi (own.map (·.2)) g t e))) := by
  obtain ⟨wi, p, q⟩ := hi
  exact ⟨_, ps_setLc hc hN hy hyl hsw p ok (fun s H C cl fp => (hg s H C cl fp).can) (fun s H C cl fp => (show PTs (X.blk s H scope (compEnvC scope cl C X.env) fp) ifs (tPt (gx X cm) t) from ht s H C cl fp)) (fun s H C cl fp => (he s H C cl fp).can) hs, setN_reads (lc_own q hjs)⟩

/-! ### known from now on -/
/-- the slot's own thing is from now on only read -/
def froz (ρ : Ev) (i : Nat) : Option Ev := match ρ[i]? with
  | some (.on d) => some (ρ.set i (.fn d))
  | some _ => some ρ
  | none => none
theorem Ok.freeze {Γ : Ga} {x : Fx} {B : Hp} {F : Nat → List Addr} {ρ : Ev} {σ : St} {H : Hp} (o : Ok Γ x B F ρ σ H) {i : Nat} {d : D} (h : ρ[i]? = some (.on d)) : ∃ B', Same B B' ∧ Ok Γ x B' (offF F i) (ρ.set i (.fn d)) σ H := by
  obtain ⟨v, hv, ho, h0⟩ := o.at_ i _ h
  let R : Hp := fun a => if a ∈ F i then H a else none
  have hR : Same R H := fun a u e => by
    show H a = some u
    have e' : (if a ∈ F i then H a else none) = some u := e
    split at e'
    · exact e'
    · cases e'
  have t : Same (tupOf H) H := tupOf_same
  have sB : Same B (jn (tupOf H) B R) := fun a u z => jn_at t o.bh hR (.inr (.inl z))
  have hlt := (List.getElem?_eq_some_iff.mp h).1
  refine ⟨jn (tupOf H) B R, sB, ?_⟩
  refine ⟨o.kp, fun a u z => ?_, fun a xs e => jn_at t o.bh hR (.inl (tupOf_tup e)), fun a u z => ?_, fun a u z => ?_, o.dom, fun j a ha => ?_, fun j k a h1 h2 => o.dj j k a (offF_sub h1).1 (offF_sub h2).1, fun j => by unfold offF; split; exact List.nodup_nil; exact o.nd j, fun j hj => ?_, by rw [List.length_set, o.len], fun j s hs => ?_⟩
  · rcases jn_cases z with z | z | z
    · exact t a u z
    · exact o.bh a u z
    · exact hR a u z
  · rcases jn_cases z with z | z | z
    · exact .inl (tupOf_some z).2
    · exact o.born a u z
    · have e' : (if a ∈ F i then H a else none) = some u := z
      split at e'
      · rename_i q; exact .inr (h0 a q)
      · cases e'
  · rcases jn_cases z with z | z | z
    · exact .inl (tupOf_some z).2
    · exact o.bk a u z
    · have e' : (if a ∈ F i then H a else none) = some u := z
      split at e'
      · rename_i q; exact .inr (o.fk i a q).1
      · cases e'
  · obtain ⟨ha, hj⟩ := offF_sub ha
    obtain ⟨h1, h2, h3⟩ := o.fk j a ha
    refine ⟨h1, ?_, h3⟩
    cases z : jn (tupOf H) B R a with
    | none => rfl
    | some u =>
      obtain ⟨w, hw, bx⟩ := o.box ha
      rcases jn_cases z with z | z | z
      · obtain ⟨q1, xs, rfl⟩ := tupOf_some z
        rw [hw] at q1
        cases q1
        exact bx.elim
      · rw [h2] at z; cases z
      · have e' : (if a ∈ F i then H a else none) = some u := z
        split at e'
        · rename_i q; exact absurd (o.dj j i a ha q) hj
        · cases e'
  · rw [List.length_set] at hj
    unfold offF
    split
    · rfl
    · exact o.out j hj
  · by_cases q : j = i
    · subst q
      rw [List.getElem?_set_self hlt] at hs
      cases hs
      rw [show offF F j j = [] from if_pos rfl]
      refine ⟨rfl, v, hv, ho.isIn (fun a u z => jn_at t o.bh hR (.inl z)) fun a ha => ?_⟩
      obtain ⟨u, hu, _⟩ := o.box ha
      rw [hu]
      refine jn_at t o.bh hR (.inr (.inr ?_))
      show (if a ∈ F j then H a else none) = some u
      rw [if_pos ha, hu]
    · rw [List.getElem?_set_ne (Ne.symm q)] at hs
      rw [show offF F i j = F j from if_neg q]
      have r := o.at_ j s hs
      cases s with
      | fn => obtain ⟨q1, v', q2, q3⟩ := r; exact ⟨q1, v', q2, q3.mono sB⟩
      | _ => exact r
def bFroz (i : Nat) (g : SF) : SF := fun ρ => (froz ρ i).bind g
theorem pub_froz (i : Nat) {sts : List Stmt} {g : SF} (h : PuB cm X sts g) : PuB cm X sts (bFroz i g) := by
  obtain ⟨t, p, q⟩ := h
  refine ⟨t, p, fun x B F ρ σ H r E ok hf hE => ?_⟩
  unfold bFroz froz at hf
  split at hf
  · rename_i d e
    obtain ⟨B', s, ok'⟩ := ok.freeze e
    exact q x B' _ _ σ H r E ok' hf (hE.mono s)
  · exact q x B F ρ σ H r E ok hf hE
  · cases hf
end

/-! ### the way to a part of one's own -/
/-- at slot i, by the steps p, stands d -/
def wayD (ρ : Ev) (i : Nat) (p : List Stp) : Option D := (ownD ρ i).bind fun d => dgets d p
abbrev WF := Ev → Option (List Stp)
def PuL (cm : Nat → Addr) (X : Cx) (e : Expr) (i : Nat) (f : WF) : Prop :=
  ∃ t, PE X e t ∧ ∀ (x : Fx) (B : Hp) (F : Nat → List Addr) (ρ : Ev) (σ : St) (H : Hp) (p : List Stp) (d : D) (Q : VK), Ok (gx X cm) x B F ρ σ H → f ρ = some p → wayD ρ i p = some d →
    (∀ v v0 B' H', Gr B H B' H' → Ok (gx X cm) x B' F ρ σ H' → σ[i]? = some (some v0) → vgets H' v0 p = some v → Q v H') → t σ H Q
theorem dgets_app : ∀ {p q : List Stp} {d : D}, dgets d (p ++ q) = (dgets d p).bind fun e => dgets e q
  | [], _, _ => rfl
  | s :: p, q, d => by
    rw [List.cons_append, dgets, dgets]
    cases dget d s with
    | none => rfl
    | some e => exact dgets_app
theorem vgets_app {H : Hp} : ∀ {p q : List Stp} {v : V}, vgets H v (p ++ q) = (vgets H v p).bind fun e => vgets H e q
  | [], _, _ => rfl
  | s :: p, q, v => by
    rw [List.cons_append, vgets, vgets]
    cases vget H v s with
    | none => rfl
    | some e => exact vgets_app
section
variable {cm : Nat → Addr} {X : Cx} {pos : Pos} {e : Expr} {f : EF}
theorem wayD_some {ρ : Ev} {i : Nat} {p : List Stp} {d : D} (h : wayD ρ i p = some d) : ∃ d0, ownD ρ i = some d0 ∧ dgets d0 p = some d := by
  unfold wayD at h
  cases e : ownD ρ i with
  | none => rw [e] at h; cases h
  | some d0 => rw [e] at h; exact ⟨d0, rfl, h⟩
/-- the part, and how it is exchanged -/
theorem Ok.part {Γ : Ga} {x : Fx} {B : Hp} {F : Nat → List Addr} {ρ : Ev} {σ : St} {H : Hp} (o : Ok Γ x B F ρ σ H) {i : Nat} {p : List Stp} {d : D} {v v0 : V} (h : wayD ρ i p = some d) (hv : σ[i]? = some (some v0)) (hg : vgets H v0 p = some v) :
    ∃ d0 l fq r, ownD ρ i = some d0 ∧ F i = l ++ fq ++ r ∧ Own Γ H d v fq ∧ ∀ (H' : Hp) (y : D) (fx : List Addr), (∀ a ∈ l ++ r, H' a = H a) → TupK H H' → Own Γ H' y v fx → Own Γ H' (dreps d0 p y) v0 (l ++ fx ++ r) := by
  obtain ⟨d0, e0, e1⟩ := wayD_some h
  obtain ⟨w, hw, ho⟩ := o.own e0
  rw [hv] at hw
  cases hw
  obtain ⟨v', e2, ⟨l, fq, r, ef, hp, hk⟩⟩ := ho.parts e1
  rw [hg] at e2
  cases e2
  exact ⟨d0, l, fq, r, e0, ef, hp, hk⟩
def wN : WF := fun _ => some []
theorem pul_name (i : Nat) {x : Str} (hN : X.N[i]? = some x := by rfl) (hv : Vis X.env.scope x := by first | exact Or.inl rfl | exact Or.inr (Or.inl rfl) | exact Or.inr (Or.inr rfl))
    (hd : (x == ("__debug__" : Str)) = false := by decide) (hcd : (x == ("__classdict__" : Str)) = false := by decide) : PuL cm X (.Name x pos) i wN := by
  refine ⟨_, pe_var hN hv hd hcd, fun z B F ρ σ H p d Q ok hf hw hQ => ?_⟩
  cases hf
  obtain ⟨d0, e0, _⟩ := wayD_some hw
  obtain ⟨v, ev, _⟩ := ok.own e0
  exact ⟨v, ev, hQ v v B H (Gr.refl B H) ok ev rfl⟩
def wFld (n : Nat) (f : Str) (i : Nat) (w : WF) : WF := fun ρ => (w ρ).bind fun p => (wayD ρ i p).bind fun d => match d with
  | .ins c _ => if c = n then some (p ++ [.fd f]) else none
  | _ => none
theorem pul_fld (n : Nat) {f : Str} {i : Nat} {w : WF} (hc : Cls X.K (cm n)) (hn : NoAttr X.K (cm n) f) (ha : PuL cm X e i w) (hb : attributeBase e f X.env (eval e X.env) = eval e X.env := by rfl) : PuL cm X (.Attribute e f pos) i (wFld n f i w) := by
  obtain ⟨t, p, q⟩ := ha
  refine ⟨_, pe_fld p hb, fun z B F ρ σ H p d Q ok hf hw hQ => ?_⟩
  unfold wFld at hf
  cases e1 : w ρ with
  | none => rw [e1] at hf; cases hf
  | some p0 =>
    rw [e1] at hf
    simp only [Option.bind_some] at hf
    cases e2 : wayD ρ i p0 with
    | none => rw [e2] at hf; cases hf
    | some d1 =>
      rw [e2] at hf
      simp only [Option.bind_some] at hf
      split at hf
      · rename_i c fs
        split at hf
        · rename_i hcn
          subst hcn
          cases hf
          refine q z B F ρ σ H p0 _ _ ok e1 e2 fun v v0 B' H' g ok' hv hg => ?_
          obtain ⟨d0, l, fq, r, e0, ef, ho, _⟩ := ok'.part e2 hv hg
          obtain ⟨a, dx, vs, fq', rfl, h1, h2, rfl⟩ := ho
          have e3 : getF fs f = some d := by
            obtain ⟨d0', e0', e1'⟩ := wayD_some hw
            obtain ⟨d0'', e0'', e1''⟩ := wayD_some e2
            rw [e0'] at e0''
            cases e0''
            rw [dgets_app, e1''] at e1'
            simpa [dgets, dget] using e1'
          obtain ⟨v', e4, _⟩ := h2.part e3
          exact ⟨a, cm c, dx, vs, v', rfl, h1, hc, hn, e4, hQ v' v0 B' H' g ok' hv (by rw [vgets_app, hg]; simp only [Option.bind_some, vgets, vget, h1, e4])⟩
        · cases hf
      · cases hf
/-- the step that an index is -/
def stpOf (d k : D) : Option Stp := match d with
  | .dic _ => (keyOf k).map .ky
  | .lst ds => (intD k).bind fun j => (ixN ds.length j).map .ix
  | _ => none
def wIx (i : Nat) (w : WF) (f : EF) : WF := fun ρ => (w ρ).bind fun p => (wayD ρ i p).bind fun d => (f ρ).bind fun k => (stpOf d k.1).map fun s => p ++ [s]
theorem pul_ix {i : Nat} {w : WF} {k : Expr} (hu : X.A.units + 1 < cLine) (ha : PuL cm X e i w) (hk : PuE cm X k f) (hs : PlainIx k := by intro _ _; rfl) : PuL cm X (.Subscript e k pos) i (wIx i w f) := by
  obtain ⟨t, p, q⟩ := ha
  obtain ⟨t2, p2, q2⟩ := hk
  refine ⟨_, pe_ix (ix_seq.or (ix_dict hu)) p p2 hs, fun z B F ρ σ H p d Q ok hf hw hQ => ?_⟩
  unfold wIx at hf
  cases e1 : w ρ with
  | none => rw [e1] at hf; cases hf
  | some p0 =>
    rw [e1] at hf
    simp only [Option.bind_some] at hf
    cases e2 : wayD ρ i p0 with
    | none => rw [e2] at hf; cases hf
    | some d1 =>
      rw [e2] at hf
      simp only [Option.bind_some] at hf
      cases e3 : f ρ with
      | none => rw [e3] at hf; cases hf
      | some kk =>
        rw [e3] at hf
        simp only [Option.bind_some] at hf
        cases e4 : stpOf d1 kk.1 with
        | none => rw [e4] at hf; cases hf
        | some s =>
          rw [e4] at hf
          cases hf
          refine q z B F ρ σ H p0 _ _ ok e1 e2 fun v v0 B1 H1 g1 ok1 hv hg1 => ?_
          refine q2 z B1 F ρ σ H1 kk.1 kk.2 _ ok1 e3 fun u B2 H2 g2 ok2 hu2 => ?_
          have e5 : dget d1 s = some d := by
            obtain ⟨d0', e0', e1'⟩ := wayD_some hw
            obtain ⟨d0'', e0'', e1''⟩ := wayD_some e2
            rw [e0'] at e0''
            cases e0''
            rw [dgets_app, e1''] at e1'
            cases eq : dget d1 s with
            | none => rw [Option.bind_some, dgets, eq] at e1'; cases e1'
            | some y => rw [Option.bind_some, dgets, eq] at e1'; exact e1'
          obtain ⟨d0, l, fq, r, e0, ef, ho, _⟩ := ok1.part e2 hv hg1
          have ho2 := own_gr g2 ho
          -- the way is the same in the later heap
          obtain ⟨d0', e0', e1'⟩ := wayD_some e2
          obtain ⟨w1, hw1, how1⟩ := ok1.own e0'
          rw [hv] at hw1
          cases hw1
          obtain ⟨w2, hw2, how2⟩ := ok2.own e0'
          rw [hv] at hw2
          cases hw2
          have hg2 : vgets H2 v0 p0 = some v := by
            obtain ⟨va, ea, ⟨la, fa, ra, efa, hoa, _⟩⟩ := how2.parts e1'
            have : va = v := by
              have same : ∀ (p : List Stp) (a b c : V), vgets H1 a p = some b → vgets H2 a p = some c → c = b := by
                intro p
                induction p with
                | nil => intro a b c h1 h2; cases h1; cases h2; rfl
                | cons s p ih =>
                  intro a b c h1 h2
                  rw [vgets] at h1 h2
                  cases x1 : vget H1 a s with
                  | none => rw [x1] at h1; cases h1
                  | some y1 =>
                    rw [x1] at h1
                    have x2 : vget H2 a s = some y1 := by
                      cases a with
                      | ref a =>
                        cases s with
                        | ix i =>
                          simp only [vget] at x1 ⊢
                          cases hh : H1 a with
                          | none => rw [hh] at x1; cases x1
                          | some o => rw [hh] at x1; rw [g2.hh a o hh]; exact x1
                        | ky i =>
                          simp only [vget] at x1 ⊢
                          cases hh : H1 a with
                          | none => rw [hh] at x1; cases x1
                          | some o => rw [hh] at x1; rw [g2.hh a o hh]; exact x1
                        | fd i =>
                          simp only [vget] at x1 ⊢
                          cases hh : H1 a with
                          | none => rw [hh] at x1; cases x1
                          | some o => rw [hh] at x1; rw [g2.hh a o hh]; exact x1
                      | _ => cases s <;> simp [vget] at x1
                    rw [x2] at h2
                    exact ih y1 b c h1 h2
              exact same p0 v0 v va hg1 ea
            rw [ea, this]
          obtain ⟨v', e6, _⟩ := ho2.part1 e5
          have fin : Q v' H2 := hQ v' v0 B2 H2 (g1.trans g2) ok2 hv (by rw [vgets_app, hg2]; simp only [Option.bind_some, vgets, e6])
          have huis := hu2.is ok2
          cases d1 with
          | lst ds =>
            obtain ⟨a, vs, fq', rfl, h1, h2, rfl⟩ := ho2
            simp only [stpOf] at e4
            cases ek : intD kk.1 with
            | none => rw [ek] at e4; cases e4
            | some j =>
              rw [ek] at e4
              simp only [Option.bind_some] at e4
              cases ei : ixN ds.length j with
              | none => rw [ei] at e4; cases e4
              | some n =>
                rw [ei] at e4
                cases e4
                have eu : u = .int j := by
                  cases hkk : kk.1 <;> rw [hkk] at ek huis <;> simp [intD] at ek
                  subst ek
                  exact huis
                subst eu
                refine .inl (.inl ⟨a, vs, j, v', rfl, rfl, SqL.of h1, ?_, fin⟩)
                simp only [vget, h1] at e6
                unfold atI
                rw [h2.length, ei]
                exact e6
          | dic kvs =>
            obtain ⟨a, vs, fq', rfl, h1, h2, rfl⟩ := ho2
            simp only [stpOf] at e4
            cases ek : keyOf kk.1 with
            | none => rw [ek] at e4; cases e4
            | some j =>
              rw [ek] at e4
              cases e4
              cases keyOf_is ek huis
              simp only [vget, h1] at e6
              exact .inr ⟨a, v', rfl, by rw [← e6]; exact DGet.k h1, fin⟩
          | _ => simp [stpOf] at e4
end
end DL

/-! DL11: changes of one's own things. -/
namespace DL
open PySem L2

section
variable {Γ : Ga} {x : Fx} {B : Hp} {F : Nat → List Addr} {ρ : Ev} {σ : St} {H : Hp}
theorem ownD_get {ρ : Ev} {i : Nat} {d : D} (h : ownD ρ i = some d) : i < ρ.length := by
  unfold ownD at h
  split at h
  · rename_i e; exact (List.getElem?_eq_some_iff.mp e).1
  · rename_i e; exact (List.getElem?_eq_some_iff.mp e).1
  · cases h
/-- the object at a, the head of a part, is written; what it holds besides may be loose -/
theorem Ok.writePart (o : Ok Γ x B F ρ σ H) {i : Nat} {p : List Stp} {d y : D} {a : Addr} {v0 : V} {u : HO} {fx : List Addr} (hw : wayD ρ i p = some d) (hv : σ[i]? = some (some v0)) (hg : vgets H v0 p = some (.ref a))
    (hu : Box u) (hy : ∀ fq, Own Γ H d (.ref a) (a :: fq) → (a :: fq ++ fx).Nodup → ∃ fz, Own Γ (upd H a u) y (.ref a) fz ∧ fz.Nodup ∧ ∀ b ∈ fz, b ∈ a :: fq ∨ b ∈ fx) (hfx : fx.Nodup) (hl : ∀ b ∈ fx, Loose x B F b) (hbox : ∃ w, H a = some w ∧ Box w) (hda : ∀ fq, Own Γ H d (.ref a) fq → ∃ fr, fq = a :: fr) :
    ∀ d0, ownD ρ i = some d0 → ∃ F', Ok Γ x B F' (setOwn ρ i (dreps d0 p y)) σ (upd H a u) := by
  intro d0' h0'
  obtain ⟨d0, l, fq, r, e0, ef, ho, hk⟩ := o.part hw hv hg
  rw [h0'] at e0
  cases e0
  obtain ⟨fr, rfl⟩ := hda fq ho
  have nd := o.nd i
  rw [ef] at nd
  have hna : ∀ b ∈ l ++ r, b ≠ a := by
    rintro b hb rfl
    rw [List.nodup_append, List.nodup_append] at nd
    rcases List.mem_append.mp hb with hb | hb
    · exact nd.1.2.2 b hb b (by simp) rfl
    · exact nd.2.2 b (by simp) b hb rfl
  have hnd : (a :: fr).Nodup := by
    rw [List.nodup_append, List.nodup_append] at nd
    exact nd.1.2.1
  have memF : ∀ b ∈ a :: fr, b ∈ F i := fun b hb => by rw [ef]; simp only [List.mem_append]; exact .inl (.inr hb)
  obtain ⟨fz, hz, hzn, hzm⟩ := hy fr ho (by
    show ((a :: fr) ++ fx).Nodup
    refine List.nodup_append.mpr ⟨hnd, hfx, ?_⟩
    rintro b hb c hc rfl
    exact (hl b hc).2.2.2 i (memF b hb))
  have tk : TupK H (upd H a u) := TupK.upd (by
    obtain ⟨w, hw, bw⟩ := hbox
    intro xs e
    rw [hw] at e
    cases e
    exact bw.elim)
  have hnew := hk (upd H a u) y fz (fun b hb => upd_ne (hna b hb)) tk hz
  refine ⟨_, o.write h0' hv (fun b w hb hw => ?_) (fun b hb => ?_) (fun b xs hb => ?_) hnew ?_ fun b hb => ?_⟩
  · rw [upd_ne]
    · exact hw
    · rintro rfl
      exact hb (memF b (by simp))
  · by_cases q : b = a
    · subst q; rw [upd_same] at hb; cases hb
    · rw [upd_ne q] at hb; exact hb
  · by_cases q : b = a
    · subst q
      rw [upd_same] at hb
      cases hb
      exact hu.elim
    · rw [upd_ne q] at hb; exact hb
  · rw [List.nodup_append, List.nodup_append] at nd ⊢
    refine ⟨⟨nd.1.1, hzn, ?_⟩, nd.2.1, ?_⟩
    · rintro b hb c hc rfl
      rcases hzm b hc with z | z
      · exact nd.1.2.2 b hb b z rfl
      · exact (hl b z).2.2.2 i (by rw [ef]; simp [hb])
    · rintro b hb c hc rfl
      rcases List.mem_append.mp hb with hb | hb
      · exact nd.2.2 b (by simp [hb]) b hc rfl
      · rcases hzm b hb with z | z
        · exact nd.2.2 b (List.mem_append_right _ z) b hc rfl
        · exact (hl b z).2.2.2 i (by rw [ef]; simp [hc])
  · rcases List.mem_append.mp hb with hb | hb
    · rcases List.mem_append.mp hb with hb | hb
      · exact .inl (by rw [ef]; simp [hb])
      · rcases hzm b hb with z | z
        · exact .inl (memF b z)
        · exact .inr (hl b z)
    · exact .inl (by rw [ef]; simp [hb])
/-- behind what only grows the way is the same -/
theorem vgets_gr {B H B' H' : Hp} (g : Gr B H B' H') : ∀ {p : List Stp} {a b : V}, vgets H a p = some b → vgets H' a p = some b
  | [], _, _, h => h
  | s :: p, a, b, h => by
    rw [vgets] at h ⊢
    cases x1 : vget H a s with
    | none => rw [x1] at h; cases h
    | some y1 =>
      rw [x1] at h
      have x2 : vget H' a s = some y1 := by
        cases a with
        | ref a =>
          cases s with
          | ix i =>
            simp only [vget] at x1 ⊢
            cases hh : H a with
            | none => rw [hh] at x1; cases x1
            | some o => rw [hh] at x1; rw [g.hh a o hh]; exact x1
          | ky i =>
            simp only [vget] at x1 ⊢
            cases hh : H a with
            | none => rw [hh] at x1; cases x1
            | some o => rw [hh] at x1; rw [g.hh a o hh]; exact x1
          | fd i =>
            simp only [vget] at x1 ⊢
            cases hh : H a with
            | none => rw [hh] at x1; cases x1
            | some o => rw [hh] at x1; rw [g.hh a o hh]; exact x1
        | _ => cases s <;> simp [vget] at x1
      rw [x2]
      exact vgets_gr g h
theorem Owns.snoc {Γ : Ga} {H : Hp} : ∀ {ds : List D} {vs : List V} {fp fx : List Addr} {d : D} {v : V}, Owns Γ H ds vs fp → Own Γ H d v fx → Owns Γ H (ds ++ [d]) (vs ++ [v]) (fp ++ fx)
  | [], _, _, fx, d, v, h, k => by
    obtain ⟨rfl, rfl⟩ := h
    exact ⟨v, [], fx, [], rfl, k, ⟨rfl, rfl⟩, by simp⟩
  | _ :: _, _, _, fx, d, v, ⟨u, r, f1, f2, e, h1, h2, ef⟩, k => by
    subst e ef
    exact ⟨u, r ++ [v], f1, f2 ++ fx, rfl, h1, Owns.snoc h2 k, by simp⟩
theorem Owns.app {Γ : Ga} {H : Hp} : ∀ {ds es : List D} {vs us : List V} {fp fx : List Addr}, Owns Γ H ds vs fp → Owns Γ H es us fx → Owns Γ H (ds ++ es) (vs ++ us) (fp ++ fx)
  | [], _, _, _, _, fx, h, k => by
    obtain ⟨rfl, rfl⟩ := h
    exact k
  | _ :: _, _, _, _, _, fx, ⟨u, r, f1, f2, e, h1, h2, ef⟩, k => by
    subst e ef
    exact ⟨u, r ++ _, f1, f2 ++ fx, rfl, h1, Owns.app h2 k, by simp⟩
end

section
variable {cm : Nat → Addr} {X : Cx} {pos : Pos} {e e2 : Expr} {f : EF} {nf : NF} {i : Nat} {w : WF}
/-! ### P.append(e) -/
def putW (ρ : Ev) (i : Nat) (p : List Stp) (y : D) : Option Ev := (ownD ρ i).map fun d0 => setOwn ρ i (dreps d0 p y)
def sApp (i : Nat) (w : WF) (f : NF) : SF := fun ρ => (w ρ).bind fun p => (wayD ρ i p).bind fun d => (f ρ).bind fun y => match d with
  | .lst ds => if ds.length < 16777216 then (putW ρ i p (.lst (ds ++ [y]))).map .nx else none
  | _ => none
theorem own_lst {Γ : Ga} {H : Hp} {ds : List D} {v : V} {fp : List Addr} (h : Own Γ H (.lst ds) v fp) : ∃ a vs fq, v = .ref a ∧ H a = some (.lst vs) ∧ Owns Γ H ds vs fq ∧ fp = a :: fq := h
theorem pus_app {apos : Pos} {pos2 : Pos} (hP : PuL cm X e i w) (hv : PuN cm X e2 nf) (hs : swapsWith (.Call (.Attribute e "append" apos) [e2] [] pos) none pos2.line X.env = pure false := by rfl)
    (hbase : attributeBase e "append" X.env (eval e X.env) = eval e X.env := by rfl)
    (hfew : ((backTo pos (starEach [e2] X.env)).all (fun x => !x.1) && (backToKw pos (keywordEach [] X.env)).all (fun x => x.1.isSome)
      && decide ([e2].length + ([] : List Keyword).length + (if ([] : List Keyword).isEmpty then 0 else 1) < 30)) = true := by rfl)
    (hline : (apos.endLine == pos.line) = true := by rfl) (hst : starEach [e2] X.env = (false, eval e2 X.env) :: starEach [] X.env := by rfl) (hplain : (backTo pos (starEach [] X.env)).any (·.1) = false := by rfl) :
    PuS cm X (.Expr (.Call (.Attribute e "append" apos) [e2] [] pos) pos2) (sApp i w nf) := by
  obtain ⟨t, p, q⟩ := hP
  obtain ⟨t2, p2, q2⟩ := hv
  refine ⟨_, ps_expr (pe_bm PySem.F.plainAttrs_list PySem.F.slot_list_append PySem.F.type_list_append mt_append p (pa_cons p2 pa_nil hst) hbase hfew hline hst hplain) hs, fun x B F ρ σ H r E ok hf hE => ?_⟩
  unfold sApp at hf
  cases e1 : w ρ with
  | none => rw [e1] at hf; cases hf
  | some pth =>
    rw [e1] at hf
    simp only [Option.bind_some] at hf
    cases ew : wayD ρ i pth with
    | none => rw [ew] at hf; cases hf
    | some d =>
      rw [ew] at hf
      simp only [Option.bind_some] at hf
      cases en : nf ρ with
      | none => rw [en] at hf; cases hf
      | some y =>
        rw [en] at hf
        simp only [Option.bind_some] at hf
        split at hf
        · rename_i ds
          split at hf
          · rename_i hlen
            obtain ⟨d0, ho0, _⟩ := wayD_some ew
            rw [putW, ho0] at hf
            cases hf
            refine q x B F ρ σ H pth _ _ ok e1 ew fun v v0 B1 H1 g1 ok1 hv0 hg1 => ?_
            obtain ⟨_, l, fq, rr, _, _, ho, _⟩ := ok1.part ew hv0 hg1
            obtain ⟨a, vs, fr, rfl, h1, h2, rfl⟩ := own_lst ho
            refine ⟨.inl ⟨rfl, _, SqL.of h1⟩, ?_⟩
            refine q2 x B1 F ρ σ H1 y _ ok1 en fun u B2 H2 fx g2 ok2 ou nu lu => ?_
            have h1' := g2.hh _ _ h1
            have hlv : vs.length = ds.length := h2.length
            refine ⟨a, vs, u, rfl, rfl, h1', by rw [line_eq]; omega, ?_⟩
            obtain ⟨F', ok3⟩ := ok2.writePart (y := .lst (ds ++ [y])) (u := .lst (vs ++ [u])) (fx := fx) ew hv0 (vgets_gr g2 hg1) trivial (fun fq2 hq nq => by
                obtain ⟨a', vs', fr', ea, k1, k2, ef⟩ := own_lst hq
                cases ea
                rw [h1'] at k1
                cases k1
                cases ef
                have hkeep : ∀ b, b ≠ a → (upd H2 a (.lst (vs ++ [u]))) b = H2 b := fun b hb => upd_ne hb
                have tk : TupK H2 (upd H2 a (.lst (vs ++ [u]))) := TupK.upd (by intro xs z; rw [h1'] at z; cases z)
                rw [List.cons_append, List.nodup_cons] at nq
                refine ⟨a :: (fq2 ++ fx), ⟨a, vs ++ [u], fq2 ++ fx, rfl, upd_same, (k2.keep tk fun b hb => hkeep b fun z => nq.1 (by rw [← z]; simp [hb])).snoc (ou.keep tk fun b hb => hkeep b fun z => nq.1 (by rw [← z]; simp [hb])), rfl⟩, List.nodup_cons.mpr nq, fun b hb => ?_⟩
                rcases List.mem_cons.mp hb with rfl | hb
                · exact .inl (by simp)
                · rcases List.mem_append.mp hb with hb | hb
                  · exact .inl (by simp [hb])
                  · exact .inr hb) nu (fun b hb => ok2.loose ok1 (lu b hb).1 (lu b hb).2) ⟨_, h1', trivial⟩ (fun fq hq => by
                obtain ⟨a', vs', fr', ea, _, _, ef⟩ := own_lst hq
                cases ea
                exact ⟨fr', ef⟩) d0 ho0
            exact hE B2 F' σ _ (g1.bb.trans g2.bb) ok3
          · cases hf
        · cases hf
/-! ### P.extend(e) -/
def sExt (i : Nat) (w : WF) (f : EF) : SF := fun ρ => (w ρ).bind fun p => (wayD ρ i p).bind fun d => (f ρ).bind fun y => match d, y.1 with
  | .lst ds, .lst es => if flats es = true ∧ ds.length + es.length ≤ 16777216 then (putW ρ i p (.lst (ds ++ es))).map .nx else none
  | _, _ => none
theorem pus_ext {apos : Pos} {pos2 : Pos} (hP : PuL cm X e i w) (hv : PuE cm X e2 f) (hs : swapsWith (.Call (.Attribute e "extend" apos) [e2] [] pos) none pos2.line X.env = pure false := by rfl)
    (hbase : attributeBase e "extend" X.env (eval e X.env) = eval e X.env := by rfl)
    (hfew : ((backTo pos (starEach [e2] X.env)).all (fun x => !x.1) && (backToKw pos (keywordEach [] X.env)).all (fun x => x.1.isSome)
      && decide ([e2].length + ([] : List Keyword).length + (if ([] : List Keyword).isEmpty then 0 else 1) < 30)) = true := by rfl)
    (hline : (apos.endLine == pos.line) = true := by rfl) (hst : starEach [e2] X.env = (false, eval e2 X.env) :: starEach [] X.env := by rfl) (hplain : (backTo pos (starEach [] X.env)).any (·.1) = false := by rfl) :
    PuS cm X (.Expr (.Call (.Attribute e "extend" apos) [e2] [] pos) pos2) (sExt i w f) := by
  obtain ⟨t, p, q⟩ := hP
  obtain ⟨t2, p2, q2⟩ := hv
  refine ⟨_, ps_expr (pe_bm PySem.F.plainAttrs_list PySem.F.slot_list_extend PySem.F.type_list_extend mt_extend p (pa_cons p2 pa_nil hst) hbase hfew hline hst hplain) hs, fun x B F ρ σ H r E ok hf hE => ?_⟩
  unfold sExt at hf
  cases e1 : w ρ with
  | none => rw [e1] at hf; cases hf
  | some pth =>
    rw [e1] at hf
    simp only [Option.bind_some] at hf
    cases ew : wayD ρ i pth with
    | none => rw [ew] at hf; cases hf
    | some d =>
      rw [ew] at hf
      simp only [Option.bind_some] at hf
      cases en : f ρ with
      | none => rw [en] at hf; cases hf
      | some y =>
        rw [en] at hf
        obtain ⟨y, my⟩ := y
        simp only [Option.bind_some] at hf
        split at hf
        · rename_i ds es
          split at hf
          · rename_i hlen
            obtain ⟨d0, ho0, _⟩ := wayD_some ew
            rw [putW, ho0] at hf
            cases hf
            refine q x B F ρ σ H pth _ _ ok e1 ew fun v v0 B1 H1 g1 ok1 hv0 hg1 => ?_
            obtain ⟨_, l, fq, rr, _, _, ho, _⟩ := ok1.part ew hv0 hg1
            obtain ⟨a, vs, fr, rfl, h1, h2, rfl⟩ := own_lst ho
            refine ⟨.inl ⟨rfl, _, SqL.of h1⟩, ?_⟩
            refine q2 x B1 F ρ σ H1 _ _ _ ok1 en fun u B2 H2 g2 ok2 hu => ?_
            obtain ⟨b, us, rfl, k1, k2⟩ := hu.is ok2
            have h1' := g2.hh _ _ h1
            have hlv : vs.length = ds.length := h2.length
            refine ⟨a, b, vs, us, rfl, rfl, h1', k1, by rw [line_eq, k2.length]; omega, ?_⟩
            obtain ⟨F', ok3⟩ := ok2.writePart (y := .lst (ds ++ es)) (u := .lst (vs ++ us)) (fx := []) ew hv0 (vgets_gr g2 hg1) trivial (fun fq2 hq nq => by
                obtain ⟨a', vs', fr', ea, k1', k2', ef⟩ := own_lst hq
                cases ea
                rw [h1'] at k1'
                cases k1'
                cases ef
                have hkeep : ∀ b, b ≠ a → (upd H2 a (.lst (vs ++ us))) b = H2 b := fun b hb => upd_ne hb
                have tk : TupK H2 (upd H2 a (.lst (vs ++ us))) := TupK.upd (by intro xs z; rw [h1'] at z; cases z)
                rw [List.append_nil] at nq
                have nq' := List.nodup_cons.mp nq
                have oe : Owns (gx X cm) (upd H2 a (.lst (vs ++ us))) es us [] := (Owns.ofFlat hlen.1 k2).keep tk (fun _ h => nomatch h)
                refine ⟨a :: fq2, ⟨a, vs ++ us, fq2 ++ [], rfl, upd_same, (k2'.keep tk fun b hb => hkeep b fun z => nq'.1 (by rw [← z]; exact hb)).app oe, by simp⟩, nq, fun b hb => .inl hb⟩) List.nodup_nil (fun _ h => nomatch h) ⟨_, h1', trivial⟩ (fun fq hq => by
                obtain ⟨a', vs', fr', ea, _, _, ef⟩ := own_lst hq
                cases ea
                exact ⟨fr', ef⟩) d0 ho0
            exact hE B2 F' σ _ (g1.bb.trans g2.bb) ok3
          · cases hf
        · cases hf

/-! ### P[k] = e -/
def putG {β : Type} (kvs : List (Key × β)) (k : Key) (x : β) : List (Key × β) :=
  if (kvs.any fun kv => decide (kv.1 = k)) = true then kvs.map (fun kv => if kv.1 = k then (kv.1, x) else kv) else kvs ++ [(k, x)]
def cntK {β : Type} (kvs : List (Key × β)) (k : Key) : Nat := (kvs.filter fun kv => decide (kv.1 = k)).length
theorem OwnK.keys {Γ : Ga} {H : Hp} : ∀ {ds : List (Key × D)} {vs : List (Key × V)} {fp : List Addr}, OwnK Γ H ds vs fp → vs.map (·.1) = ds.map (·.1)
  | [], _, _, h => by rw [h.1]; rfl
  | (k, d) :: r, _, _, ⟨v, s, f1, f2, e, _, h2, _⟩ => by subst e; rw [List.map_cons, List.map_cons, OwnK.keys h2]
theorem any_keys {β γ : Type} {a : List (Key × β)} {b : List (Key × γ)} (h : a.map (·.1) = b.map (·.1)) (k : Key) : (a.any fun kv => decide (kv.1 = k)) = (b.any fun kv => decide (kv.1 = k)) := by
  have e1 : (a.any fun kv => decide (kv.1 = k)) = (a.map (·.1)).any fun j => decide (j = k) := by rw [List.any_map]; rfl
  have e2 : (b.any fun kv => decide (kv.1 = k)) = (b.map (·.1)).any fun j => decide (j = k) := by rw [List.any_map]; rfl
  rw [e1, e2, h]
theorem OwnK.snoc {Γ : Ga} {H : Hp} : ∀ {ds : List (Key × D)} {vs : List (Key × V)} {fp fx : List Addr} {k : Key} {d : D} {v : V}, OwnK Γ H ds vs fp → Own Γ H d v fx → OwnK Γ H (ds ++ [(k, d)]) (vs ++ [(k, v)]) (fp ++ fx)
  | [], _, _, fx, k, d, v, h, o => by
    obtain ⟨rfl, rfl⟩ := h
    exact ⟨v, [], fx, [], rfl, o, ⟨rfl, rfl⟩, by simp⟩
  | (k0, d0) :: _, _, _, fx, k, d, v, ⟨u, r, f1, f2, e, h1, h2, ef⟩, o => by
    subst e ef
    exact ⟨u, r ++ [(k, v)], f1, f2 ++ fx, rfl, h1, OwnK.snoc h2 o, by simp⟩
theorem cnt_none {β : Type} {k : Key} : ∀ {kvs : List (Key × β)}, cntK kvs k = 0 → ∀ x : β, kvs.map (fun kv => if kv.1 = k then (kv.1, x) else kv) = kvs
  | [], _, _ => rfl
  | (k0, d) :: r, h, x => by
    by_cases q : k0 = k
    · simp [cntK, q] at h
    · have h2 : cntK r k = 0 := by simpa [cntK, q] using h
      rw [List.map_cons, if_neg (show ¬ (k0, d).1 = k from q), cnt_none h2]
theorem OwnK.repl {Γ : Ga} {H : Hp} {k : Key} {x : D} {v : V} {fx : List Addr} (hx : Own Γ H x v fx) : ∀ {ds : List (Key × D)} {vs : List (Key × V)} {fp : List Addr}, OwnK Γ H ds vs fp → (fx = [] ∨ cntK ds k ≤ 1) → (fp ++ fx).Nodup →
    ∃ fz, OwnK Γ H (ds.map fun kv => if kv.1 = k then (kv.1, x) else kv) (vs.map fun kv => if kv.1 = k then (kv.1, v) else kv) fz ∧ fz.Nodup ∧ ∀ b ∈ fz, b ∈ fp ∨ b ∈ fx
  | [], _, _, h, _, _ => by
    obtain ⟨rfl, rfl⟩ := h
    exact ⟨[], ⟨rfl, rfl⟩, List.nodup_nil, fun _ h => nomatch h⟩
  | (k0, d) :: r, _, _, ⟨u, s, f1, f2, e, h1, h2, ef⟩, hc, hn => by
    subst e ef
    have hn2 : (f2 ++ fx).Nodup := by
      rw [List.append_assoc] at hn
      exact (List.nodup_append.mp hn).2.1
    by_cases q : k0 = k
    · rw [List.map_cons, List.map_cons, if_pos (show (k0, d).1 = k from q), if_pos (show (k0, u).1 = k from q)]
      rcases hc with rfl | hc
      · obtain ⟨fz, o, n, m⟩ := OwnK.repl hx h2 (.inl rfl) hn2
        exact ⟨[] ++ fz, ⟨v, _, [], fz, rfl, hx, o, rfl⟩, by simpa using n, fun b hb => (m b (by simpa using hb)).imp (fun z => by simp [z]) id⟩
      · have c0 : cntK r k = 0 := by simpa [cntK, q] using hc
        have cs : cntK s k = 0 := by
          have ek := h2.keys
          have e1 : cntK s k = ((s.map (·.1)).filter fun j => decide (j = k)).length := by unfold cntK; rw [List.filter_map, List.length_map]; rfl
          have e2 : cntK r k = ((r.map (·.1)).filter fun j => decide (j = k)).length := by unfold cntK; rw [List.filter_map, List.length_map]; rfl
          rw [e1, ek, ← e2, c0]
        rw [cnt_none c0, cnt_none cs]
        refine ⟨fx ++ f2, ⟨v, s, fx, f2, rfl, hx, h2, rfl⟩, ?_, fun b hb => ?_⟩
        · rw [List.nodup_append] at hn2 ⊢
          exact ⟨hn2.2.1, hn2.1, fun a ha b hb e => hn2.2.2 b hb a ha e.symm⟩
        · rcases List.mem_append.mp hb with hb | hb
          · exact .inr hb
          · exact .inl (by simp [hb])
    · rw [List.map_cons, List.map_cons, if_neg (show ¬ (k0, d).1 = k from q), if_neg (show ¬ (k0, u).1 = k from q)]
      have hc2 : fx = [] ∨ cntK r k ≤ 1 := hc.imp id fun z => by simpa [cntK, q] using z
      obtain ⟨fz, o, n, m⟩ := OwnK.repl hx h2 hc2 hn2
      refine ⟨f1 ++ fz, ⟨u, _, f1, fz, rfl, h1, o, rfl⟩, ?_, fun b hb => ?_⟩
      · rw [List.append_assoc, List.nodup_append] at hn
        refine List.nodup_append.mpr ⟨hn.1, n, fun a ha b hb e => ?_⟩
        rcases m b hb with z | z
        · exact hn.2.2 a ha b (by simp [z]) e
        · exact hn.2.2 a ha b (by simp [z]) e
      · rcases List.mem_append.mp hb with hb | hb
        · exact .inl (by simp [hb])
        · exact (m b hb).imp (fun z => by simp [z]) id
theorem OwnK.put {Γ : Ga} {H : Hp} {k : Key} {x : D} {v : V} {fx : List Addr} (hx : Own Γ H x v fx) {ds : List (Key × D)} {vs : List (Key × V)} {fp : List Addr} (h : OwnK Γ H ds vs fp) (hc : fx = [] ∨ cntK ds k ≤ 1) (hn : (fp ++ fx).Nodup) :
    ∃ fz, OwnK Γ H (putG ds k x) (putK vs k v) fz ∧ fz.Nodup ∧ ∀ b ∈ fz, b ∈ fp ∨ b ∈ fx := by
  unfold putG putK
  rw [any_keys h.keys k]
  split
  · exact OwnK.repl hx h hc hn
  · exact ⟨fp ++ fx, h.snoc hx, hn, fun b hb => List.mem_append.mp hb⟩
theorem Owns.put {Γ : Ga} {H : Hp} {x : D} {v : V} {fx : List Addr} (hx : Own Γ H x v fx) : ∀ {ds : List D} {vs : List V} {fp : List Addr} (j : Nat), Owns Γ H ds vs fp → (fp ++ fx).Nodup →
    ∃ fz, Owns Γ H (ds.set j x) (vs.set j v) fz ∧ fz.Nodup ∧ ∀ b ∈ fz, b ∈ fp ∨ b ∈ fx
  | [], _, _, _, h, _ => by
    obtain ⟨rfl, rfl⟩ := h
    exact ⟨[], ⟨rfl, rfl⟩, List.nodup_nil, fun _ h => nomatch h⟩
  | d :: r, _, _, 0, ⟨u, s, f1, f2, e, h1, h2, ef⟩, hn => by
    subst e ef
    have hn2 : (f2 ++ fx).Nodup := by
      rw [List.append_assoc] at hn
      exact (List.nodup_append.mp hn).2.1
    refine ⟨fx ++ f2, ⟨v, s, fx, f2, rfl, hx, h2, rfl⟩, ?_, fun b hb => ?_⟩
    · rw [List.nodup_append] at hn2 ⊢
      exact ⟨hn2.2.1, hn2.1, fun a ha b hb e => hn2.2.2 b hb a ha e.symm⟩
    · rcases List.mem_append.mp hb with hb | hb
      · exact .inr hb
      · exact .inl (by simp [hb])
  | d :: r, _, _, j + 1, ⟨u, s, f1, f2, e, h1, h2, ef⟩, hn => by
    subst e ef
    have hn2 : (f2 ++ fx).Nodup := by
      rw [List.append_assoc] at hn
      exact (List.nodup_append.mp hn).2.1
    obtain ⟨fz, o, n, m⟩ := Owns.put hx j h2 hn2
    refine ⟨f1 ++ fz, ⟨u, _, f1, fz, rfl, h1, o, rfl⟩, ?_, fun b hb => ?_⟩
    · rw [List.append_assoc, List.nodup_append] at hn
      refine List.nodup_append.mpr ⟨hn.1, n, fun a ha b hb e => ?_⟩
      rcases m b hb with z | z
      · exact hn.2.2 a ha b (by simp [z]) e
      · exact hn.2.2 a ha b (by simp [z]) e
    · rcases List.mem_append.mp hb with hb | hb
      · exact .inl (by simp [hb])
      · exact (m b hb).imp (fun z => by simp [z]) id
/-- the container with the item exchanged (or put in) -/
def itemD (d k y : D) : Option D := match d with
  | .dic kvs => (keyOf k).bind fun k => if kvs.length < 16777216 ∧ (flat y = true ∨ cntK kvs k ≤ 1) then some (.dic (putG kvs k y)) else none
  | .lst ds => (intD k).bind fun j => (ixN ds.length j).map fun n => .lst (ds.set n y)
  | _ => none
def rSetA : V → V → V → Hp → (Hp → Prop) → Prop := fun o i v H Q => rSetL o i v H Q ∨ ∃ a H', o = .ref a ∧ DPut H a i v H' ∧ Q H'
theorem set_any (hu : X.A.units + 1 < cLine) : PSet X rSetA := by
  intro pins s σ H o i v ov iv u Q I ro ri rv h
  rcases h with h | ⟨a, H', rfl, g, q⟩
  · exact set_list pins s σ H o i v ov iv u Q I ro ri rv h
  · cases ro
    exact d_setItem hu I g ri rv fun s' I' => ⟨H', I', q⟩
theorem own_flat_nil {Γ : Ga} {H : Hp} {d : D} {v : V} {fp : List Addr} (f : flat d = true) (h : Own Γ H d v fp) : fp = [] := by
  cases d with
  | non => exact h.2
  | bl => exact h.2
  | int => exact h.2
  | str => exact h.2
  | tup => exact h.2
  | scr => cases h
  | lst => simp [flat] at f
  | dic => simp [flat] at f
  | ins => simp [flat] at f
/-- the store itself: the state behind -/
theorem item_write {x : Fx} {B B1 : Hp} {F : Nat → List Addr} {ρ : Ev} {σ : St} {H H1 : Hp} {pth : List Stp} {d k y z d0 : D} {v v0 u ku : V} {fx : List Addr} {Q : Hp → Prop} (ok1 : Ok (gx X cm) x B1 F ρ σ H1) (ok : Ok (gx X cm) x B F ρ σ H) (g : Gr B1 H1 B H) (ew : wayD ρ i pth = some d) (ho0 : ownD ρ i = some d0)
    (hv0 : σ[i]? = some (some v0)) (hg : vgets H v0 pth = some v) (ek : Is (gx X cm) H k ku) (ou : Own (gx X cm) H y u fx) (nu : fx.Nodup) (lu : ∀ a ∈ fx, H1 a = none ∧ B a = none) (hz : itemD d k y = some z)
    (hQ : ∀ H' F', Ok (gx X cm) x B F' (setOwn ρ i (dreps d0 pth z)) σ H' → Q H') : rSetA v ku u H Q := by
  obtain ⟨_, l, fq, rr, _, _, ho, _⟩ := ok.part ew hv0 hg
  unfold itemD at hz
  split at hz
  · rename_i kvs
    obtain ⟨a, vs, fr, rfl, h1, h2, rfl⟩ := ho
    cases e1 : keyOf k with
    | none => rw [e1] at hz; cases hz
    | some kk =>
      rw [e1] at hz
      simp only [Option.bind_some] at hz
      split at hz
      · rename_i hc
        cases hz
        cases keyOf_is e1 ek
        have hlen : vs.length = kvs.length := by have := congrArg List.length h2.keys; simpa using this
        refine .inr ⟨a, _, rfl, DPut.k h1 (by rw [line_eq, hlen]; exact hc.1), ?_⟩
        obtain ⟨F', ok3⟩ := ok.writePart (y := .dic (putG kvs kk y)) (u := .dK (putK vs kk u)) (fx := fx) ew hv0 hg trivial (fun fq2 hq nq => by
            obtain ⟨a', vs', fr', ea, k1', k2', ef⟩ := hq
            cases ea
            rw [h1] at k1'
            cases k1'
            cases ef
            have hkeep : ∀ b, b ≠ a → (upd H a (.dK (putK vs kk u))) b = H b := fun b hb => upd_ne hb
            have tk : TupK H (upd H a (.dK (putK vs kk u))) := TupK.upd (by intro xs z; rw [h1] at z; cases z)
            rw [List.cons_append, List.nodup_cons] at nq
            obtain ⟨fz, o, n, m⟩ := OwnK.put (k := kk) (ou.keep tk fun b hb => hkeep b fun z => nq.1 (by rw [← z]; simp [hb])) (k2'.keep tk fun b hb => hkeep b fun z => nq.1 (by rw [← z]; simp [hb])) (hc.2.imp (fun f => own_flat_nil f ou) id) nq.2
            refine ⟨a :: fz, ⟨a, _, fz, rfl, upd_same, o, rfl⟩, List.nodup_cons.mpr ⟨fun hb => nq.1 (List.mem_append.mpr (m a hb)), n⟩, fun b hb => ?_⟩
            rcases List.mem_cons.mp hb with rfl | hb
            · exact .inl (by simp)
            · exact (m b hb).imp (fun z => by simp [z]) id) nu (fun b hb => ok.loose ok1 (lu b hb).1 (lu b hb).2) ⟨_, h1, trivial⟩ (fun fq hq => by
            obtain ⟨a', vs', fr', ea, _, _, ef⟩ := hq
            cases ea
            exact ⟨fr', ef⟩) d0 ho0
        exact hQ _ F' ok3
      · cases hz
  · rename_i ds
    obtain ⟨a, vs, fr, rfl, h1, h2, rfl⟩ := own_lst ho
    cases e1 : intD k with
    | none => rw [e1] at hz; cases hz
    | some j =>
      rw [e1] at hz
      simp only [Option.bind_some] at hz
      cases e2 : ixN ds.length j with
      | none => rw [e2] at hz; cases hz
      | some n =>
        rw [e2] at hz
        cases hz
        have eku : ku = .int j := by
          cases hk : k <;> rw [hk] at e1 ek <;> simp [intD] at e1
          subst e1
          exact ek
        subst eku
        refine .inl ⟨a, vs, j, n, rfl, rfl, h1, by rw [h2.length]; exact e2, ?_⟩
        obtain ⟨F', ok3⟩ := ok.writePart (y := .lst (ds.set n y)) (u := .lst (vs.set n u)) (fx := fx) ew hv0 hg trivial (fun fq2 hq nq => by
            obtain ⟨a', vs', fr', ea, k1', k2', ef⟩ := own_lst hq
            cases ea
            rw [h1] at k1'
            cases k1'
            cases ef
            have hkeep : ∀ b, b ≠ a → (upd H a (.lst (vs.set n u))) b = H b := fun b hb => upd_ne hb
            have tk : TupK H (upd H a (.lst (vs.set n u))) := TupK.upd (by intro xs z; rw [h1] at z; cases z)
            rw [List.cons_append, List.nodup_cons] at nq
            obtain ⟨fz, o, nn, m⟩ := Owns.put (ou.keep tk fun b hb => hkeep b fun z => nq.1 (by rw [← z]; simp [hb])) n (k2'.keep tk fun b hb => hkeep b fun z => nq.1 (by rw [← z]; simp [hb])) nq.2
            refine ⟨a :: fz, ⟨a, _, fz, rfl, upd_same, o, rfl⟩, List.nodup_cons.mpr ⟨fun hb => nq.1 (List.mem_append.mpr (m a hb)), nn⟩, fun b hb => ?_⟩
            rcases List.mem_cons.mp hb with rfl | hb
            · exact .inl (by simp)
            · exact (m b hb).imp (fun z => by simp [z]) id) nu (fun b hb => ok.loose ok1 (lu b hb).1 (lu b hb).2) ⟨_, h1, trivial⟩ (fun fq hq => by
            obtain ⟨a', vs', fr', ea, _, _, ef⟩ := own_lst hq
            cases ea
            exact ⟨fr', ef⟩) d0 ho0
        exact hQ _ F' ok3
  · cases hz
def sSub (i : Nat) (w : WF) (fk : EF) (f : NF) : SF := fun ρ => (f ρ).bind fun y => (w ρ).bind fun p => (wayD ρ i p).bind fun d => (fk ρ).bind fun k => (itemD d k.1 y).bind fun z => (putW ρ i p z).map .nx
theorem gr_loose {B H B' H' : Hp} {Γ : Ga} {d : D} {v : V} {fp : List Addr} {H0 : Hp} (bh : Same B' H') (g : Gr B H B' H') (o : Own Γ H d v fp) (l : ∀ a ∈ fp, H0 a = none ∧ B a = none) : ∀ a ∈ fp, H0 a = none ∧ B' a = none := fun a ha => by
  obtain ⟨u, hu, bx⟩ := o.box a ha
  exact ⟨(l a ha).1, box_gr bh g (l a ha).2 hu bx⟩
theorem pus_sub {k : Expr} {fk : EF} {pos' : Pos} (hu : X.A.units + 1 < cLine) (hv : PuN cm X e2 nf) (hP : PuL cm X e i w) (hk : PuE cm X k fk) (hs : swapsWithSole [.Subscript e k pos'] e2 pos.line X.env = pure false := by rfl) (hw : swappedStores [.Subscript e k pos'] e2 X.env = pure none := by rfl)
    (h1 : (assignEach [.Subscript e k pos'] X.env).map (·.2) = [assign (.Subscript e k pos') X.env] := by rfl)
    (ha : ∀ v, assign (.Subscript e k pos') X.env v = (do
      let ov ← holding [v] (eval e X.env)
      let iv ← holding [v, ov] (eval k X.env)
      standAt pos'
      holding [v, ov, iv] (setItem ov iv v)
      release [v, ov, iv] []) := by intro _; rfl) : PuS cm X (.Assign [.Subscript e k pos'] e2 pos) (sSub i w fk nf) := by
  obtain ⟨t, p, q⟩ := hP
  obtain ⟨t2, p2, q2⟩ := hv
  obtain ⟨t3, p3, q3⟩ := hk
  refine ⟨_, ps_asg p2 (pg_sub p p3 (set_any hu) ha) hs hw h1, fun x B F ρ σ H r E ok hf hE => ?_⟩
  unfold sSub at hf
  cases en : nf ρ with
  | none => rw [en] at hf; cases hf
  | some y =>
    rw [en] at hf
    simp only [Option.bind_some] at hf
    cases e1 : w ρ with
    | none => rw [e1] at hf; cases hf
    | some pth =>
      rw [e1] at hf
      simp only [Option.bind_some] at hf
      cases ew : wayD ρ i pth with
      | none => rw [ew] at hf; cases hf
      | some d =>
        rw [ew] at hf
        simp only [Option.bind_some] at hf
        cases ek : fk ρ with
        | none => rw [ek] at hf; cases hf
        | some kk =>
          rw [ek] at hf
          simp only [Option.bind_some] at hf
          cases ez : itemD d kk.1 y with
          | none => rw [ez] at hf; cases hf
          | some z =>
            rw [ez] at hf
            simp only [Option.bind_some] at hf
            obtain ⟨d0, ho0, _⟩ := wayD_some ew
            rw [putW, ho0] at hf
            cases hf
            refine q2 x B F ρ σ H y _ ok en fun u B1 H1 fx g1 ok1 ou nu lu => ?_
            refine q x B1 F ρ σ H1 pth _ _ ok1 e1 ew fun v v0 B2 H2 g2 ok2 hv0 hg2 => ?_
            refine q3 x B2 F ρ σ H2 _ _ _ ok2 ek fun ku B3 H3 g3 ok3 hku => ?_
            have g23 := g2.trans g3
            exact item_write (Q := fun H3 => E.nx σ H3) ok ok3 (g1.trans g23) ew ho0 hv0 (vgets_gr g3 hg2) (hku.is ok3) (own_gr g23 ou) nu (gr_loose ok3.bh g23 ou lu) ez fun H' F' ok' => hE B3 F' σ H' (g1.bb.trans g23.bb) ok'

/-! ### return of one's own -/
def sRetOn (i : Nat) : SF := fun ρ => match ρ[i]? with
  | some (.on d) => some (.rt d (ρ.set i (.fn d)))
  | _ => none
theorem pus_retOn (i : Nat) {x : Str} {p1 : Pos} (hN : X.N[i]? = some x := by rfl) (hv : Vis X.env.scope x := by first | exact Or.inl rfl | exact Or.inr (Or.inl rfl) | exact Or.inr (Or.inr rfl))
    (hd : (x == ("__debug__" : Str)) = false := by decide) (hcd : (x == ("__classdict__" : Str)) = false := by decide) : PuS cm X (.Return (some (.Name x p1)) pos) (sRetOn i) := by
  refine ⟨_, ps_ret (pe_var hN hv hd hcd), fun z B F ρ σ H r E ok hf hE => ?_⟩
  unfold sRetOn at hf
  split at hf
  · rename_i d ed
    cases hf
    obtain ⟨B', s, ok'⟩ := ok.freeze ed
    have hlt := (List.getElem?_eq_some_iff.mp ed).1
    obtain ⟨_, v, e1, e2⟩ := ok'.at_ i (.fn d) (List.getElem?_set_self hlt)
    exact ⟨v, e1, hE v B' _ σ H s ok' e2⟩
  · cases hf
end
end DL

/-! DL12: what a law's text is held against: built-ins, room, defs at their names, the end. -/
namespace DL
open PySem L2

/-- the built-ins are still the built-ins -/
structure Bm (mg : Str → Option Value) : Prop where
  len : mg "len" = none
  abs : mg "abs" = none
  max : mg "max" = none
  int : mg "int" = none
  list : mg "list" = none
  range : mg "range" = none
  enumerate : mg "enumerate" = none
  zip : mg "zip" = none
  isinstance : mg "isinstance" = none
  bool : mg "bool" = none
  str : mg "str" = none
  tuple : mg "tuple" = none
  sorted : mg "sorted" = none
theorem hu65 {A : Around} {k : Nat} (hr : Room k A) : A.units + 65 < cLine := by have := hr.un; omega
theorem hu64 {A : Around} {k : Nat} (hr : Room k A) : A.units + 64 < cLine := by have := hr.un; omega
theorem hu1 {A : Around} {k : Nat} (hr : Room k A) : A.units + 1 < cLine := by have := hr.un; omega

/-- a def of the module at its name -/
def DefAt (K : PySem.W.Frag) (mg : Str → Option Value) (x : Str) (st : Stmt) (ps : List Str) : Prop :=
  ∃ (f : Addr) (fd : FuncData), Fun K x x st f fd ∧ mg x = some (.ref f) ∧ PySem.W.keepIn K (.ref f) = true ∧ Binds K fd ps []
theorem defAt_mk {K : PySem.W.Frag} {mg : Str → Option Value} {x : Str} {st : Stmt} {ps : List Str} {f : Addr} {oc : Value} {od an : Option Addr} {osl : Array (Option Value)} {kV doc pm cdv ct : Value} (hm : mg x = some (.ref f))
    (l : K.lookup f = some ⟨oc, od, .func (PySem.W.fnOf x x (defArgs st) (defBody st) (defScope st) .none kV doc pm an cdv ct), osl⟩) (c : PySem.W.codeIn K cdv x = true) (k : PySem.W.keepIn K (.ref f) = true)
    (h : ∀ (kV doc pm : Value) (an : Option Addr) (cdv ct : Value) (us : List Value), us.length = ps.length → bindArgs (PySem.W.fnOf x x (defArgs st) (defBody st) (defScope st) .none kV doc pm an cdv ct) ⟨us, []⟩ = pure (ps.zip us)) : DefAt K mg x st ps := by
  have F := fun_mk (st := st) l c k
  exact ⟨f, _, F, hm, k, F.binds h⟩
theorem DefAt.cal {P : Program} {w : World} {K : PySem.W.Frag} {mg : Str → Option Value} {base : Heap} {cm : Nat → Addr} {x : Str} {st : Stmt} {ps : List Str} {k : Nat} {fn : List D → Option D} (D : DefAt K mg x st ps)
    (h : ∀ {f : Addr} {fd : FuncData}, Fun K x x st f fd → FnOk P w K mg base CX0 k f fd ps (spP K cm fn)) : CalP P w K mg base cm k x fn := by
  obtain ⟨f, fd, F, hm, kp, hb⟩ := D
  exact ⟨f, fd, ps, h F, hm, kp, hb⟩
/-- what the top has written, for the built-ins' names -/
structure FactB (K : PySem.W.Frag) : Prop where
  len : PySem.W.nsIn K mainGlobals "len" = some none
  abs : PySem.W.nsIn K mainGlobals "abs" = some none
  max : PySem.W.nsIn K mainGlobals "max" = some none
  int : PySem.W.nsIn K mainGlobals "int" = some none
  list : PySem.W.nsIn K mainGlobals "list" = some none
  range : PySem.W.nsIn K mainGlobals "range" = some none
  enumerate : PySem.W.nsIn K mainGlobals "enumerate" = some none
  zip : PySem.W.nsIn K mainGlobals "zip" = some none
  isinstance : PySem.W.nsIn K mainGlobals "isinstance" = some none
  bool : PySem.W.nsIn K mainGlobals "bool" = some none
  str : PySem.W.nsIn K mainGlobals "str" = some none
  tuple : PySem.W.nsIn K mainGlobals "tuple" = some none
  sorted : PySem.W.nsIn K mainGlobals "sorted" = some none
theorem FactB.bm {K : PySem.W.Frag} {h : Heap} {mg : Str → Option Value} (z : FactB K) (X : K.In h) (G : h.Ns mainGlobals mg) : Bm mg :=
  ⟨PySem.W.mg_none_of X G z.len, PySem.W.mg_none_of X G z.abs, PySem.W.mg_none_of X G z.max, PySem.W.mg_none_of X G z.int, PySem.W.mg_none_of X G z.list, PySem.W.mg_none_of X G z.range, PySem.W.mg_none_of X G z.enumerate, PySem.W.mg_none_of X G z.zip, PySem.W.mg_none_of X G z.isinstance, PySem.W.mg_none_of X G z.bool, PySem.W.mg_none_of X G z.str, PySem.W.mg_none_of X G z.tuple, PySem.W.mg_none_of X G z.sorted⟩
/-- a def that the top has written -/
def FactD (K : PySem.W.Frag) (x : Str) (st : Stmt) : Prop :=
  ∃ (f : Addr) (oc : Value) (od an : Option Addr) (osl : Array (Option Value)) (kV doc pm cdv ct : Value), PySem.W.nsIn K mainGlobals x = some (some (.ref f)) ∧
    K.lookup f = some ⟨oc, od, .func (PySem.W.fnOf x x (defArgs st) (defBody st) (defScope st) .none kV doc pm an cdv ct), osl⟩ ∧ PySem.W.codeIn K cdv x = true ∧ PySem.W.keepIn K (.ref f) = true
theorem factD_mk {K : PySem.W.Frag} {x : Str} {st : Stmt} {f : Addr} {oc : Value} {od an : Option Addr} {osl : Array (Option Value)} {kV doc pm cdv ct : Value} (a : PySem.W.nsIn K mainGlobals x = some (some (.ref f)))
    (l : K.lookup f = some ⟨oc, od, .func (PySem.W.fnOf x x (defArgs st) (defBody st) (defScope st) .none kV doc pm an cdv ct), osl⟩) (c : PySem.W.codeIn K cdv x = true) (k : PySem.W.keepIn K (.ref f) = true) : FactD K x st :=
  ⟨f, oc, od, an, osl, kV, doc, pm, cdv, ct, a, l, c, k⟩
theorem FactD.at_ {K : PySem.W.Frag} {x : Str} {st : Stmt} {ps : List Str} {h : Heap} {mg : Str → Option Value} (z : FactD K x st) (X : K.In h) (G : h.Ns mainGlobals mg)
    (hb : ∀ (kV doc pm : Value) (an : Option Addr) (cdv ct : Value) (us : List Value), us.length = ps.length → bindArgs (PySem.W.fnOf x x (defArgs st) (defBody st) (defScope st) .none kV doc pm an cdv ct) ⟨us, []⟩ = pure (ps.zip us)) : DefAt K mg x st ps := by
  obtain ⟨f, oc, od, an, osl, kV, doc, pm, cdv, ct, a, l, c, k⟩ := z
  exact defAt_mk (PySem.W.mg_of X G a) l c k hb
/-- whatever numbers the classes have -/
def spAny (K : PySem.W.Frag) (f : List D → Option D) : Sp := fun vs H Q E => ∀ cm, spP K cm f vs H Q E
/-- the law's promise, from its function -/
theorem law_sp {K : PySem.W.Frag} {cm : Nat → Addr} {f : List D → Option D} {H : Hp} {a : Addr} {ns : List Int} (h : f [.scr ns] = some (.bl true)) (hS : SqL K H a (ns.map V.int)) : spP K cm f [.ref a] H (fun v _ => v = .bl true) fun _ _ _ => False :=
  ⟨[.scr ns], .bl true, ⟨_, [], rfl, ⟨a, rfl, hS⟩, rfl⟩, h, fun v H' bn => bn.is⟩
end DL

/-! DL13: how the functions of data are reckoned, step by step. -/
namespace DL
open PySem L2

def Ve (f : EF) (ρ : Ev) (d : D) (m : Md) : Prop := f ρ = some (d, m)
def Te (c : Ev → Option Bool) (ρ : Ev) (b : Bool) : Prop := c ρ = some b
def Ae (f : AF) (ρ : Ev) (as : List (D × Md)) : Prop := f ρ = some as
def Oe (f : OF) (ρ : Ev) (o : Option Int) : Prop := f ρ = some o
def Ne (f : NF) (ρ : Ev) (d : D) : Prop := f ρ = some d
def Se (g : SF) (ρ : Ev) (r : Fl) : Prop := g ρ = some r
def Xe (f : IF) (ρ : Ev) (ds : List D) (m : Md) : Prop := f ρ = some (ds, m)

theorem ve_fz {i : Nat} {ρ : Ev} {d : D} (h : ρ[i]? = some (.fz d)) : Ve (eV i) ρ d .par := by unfold Ve eV; rw [h]
theorem ve_fa {i : Nat} {ρ : Ev} {d : D} (h : ρ[i]? = some (.fa d)) : Ve (eV i) ρ d .par := by unfold Ve eV; rw [h]
theorem ve_fn {i : Nat} {ρ : Ev} {d : D} (h : ρ[i]? = some (.fn d)) : Ve (eV i) ρ d .new := by unfold Ve eV; rw [h]
theorem ve_ow {i : Nat} {ρ : Ev} {d : D} (h : ρ[i]? = some (.ow d)) : Ve (eV i) ρ d .own := by unfold Ve eV; rw [h]
theorem ve_on {i : Nat} {ρ : Ev} {d : D} (h : ρ[i]? = some (.on d)) : Ve (eV i) ρ d .own := by unfold Ve eV; rw [h]
theorem ve_c {d : D} {ρ : Ev} : Ve (eC d) ρ d .new := rfl
theorem ve_e2 {o : D → D → Option D} {f g : EF} {ρ : Ev} {a b c : D} {m n : Md} (h1 : Ve f ρ a m) (h2 : Ve g ρ b n) (h : o a b = some c) : Ve (e2 o f g) ρ c .new := by
  unfold Ve at *; unfold e2; rw [h1, h2]; simp [h]
theorem ve_e1 {o : D → Option D} {f : EF} {ρ : Ev} {a c : D} {m : Md} (h1 : Ve f ρ a m) (h : o a = some c) : Ve (e1 o f) ρ c .new := by
  unfold Ve at *; unfold e1; rw [h1]; simp [h]
theorem ve_ix {o : D → D → Option D} {f g : EF} {ρ : Ev} {a b c : D} {m n : Md} (h1 : Ve f ρ a m) (h2 : Ve g ρ b n) (h : o a b = some c) : Ve (eIx o f g) ρ c (effm m c) := by
  unfold Ve at *; unfold eIx; rw [h1, h2]; simp [h]
theorem ve_fld {n : Nat} {f : Str} {g : EF} {ρ : Ev} {c : D} {fs : List (Str × D)} {m : Md} (h1 : Ve g ρ (.ins n fs) m) (h : getF fs f = some c) : Ve (eFld n f g) ρ c (effm m c) := by
  unfold Ve at *; unfold eFld; rw [h1]; simp [fldD, h]
theorem ve_call {f : List D → Option D} {g : AF} {ρ : Ev} {as : List (D × Md)} {d : D} (h1 : Ae g ρ as) (h : f (as.map (·.1)) = some d) : Ve (eCall f g) ρ d .new := by
  unfold Ve Ae at *; unfold eCall; rw [h1]; simp [h]
theorem ve_disp {mk : List D → D} {g : AF} {ρ : Ev} {as : List (D × Md)} (h1 : Ae g ρ as) (h2 : okNew as = true) (h3 : as.length ≤ 16777216) : Ve (eDisp mk g) ρ (mk (as.map (·.1))) .new := by
  unfold Ve Ae at *; unfold eDisp; rw [h1]; simp [h2, h3]
theorem ve_sl {f : EF} {l h : OF} {ρ : Ev} {a c : D} {m : Md} {lo hi : Option Int} (h1 : Ve f ρ a m) (h2 : Oe l ρ lo) (h3 : Oe h ρ hi) (h4 : slD a lo hi = some c) : Ve (eSl f l h) ρ c .new := by
  unfold Ve Oe at *; unfold eSl; rw [h1]; simp [h2, h3, h4]
theorem oe_none {ρ : Ev} : Oe oNone ρ none := rfl
theorem oe_some {f : EF} {ρ : Ev} {i : Int} {m : Md} (h : Ve f ρ (.int i) m) : Oe (oSome f) ρ (some i) := by
  unfold Ve at h; unfold Oe oSome; rw [h]; rfl
theorem ae_nil {ρ : Ev} : Ae aNil ρ [] := rfl
theorem ae_cons {f : EF} {g : AF} {ρ : Ev} {d : D} {m : Md} {as : List (D × Md)} (h1 : Ve f ρ d m) (h2 : Ae g ρ as) : Ae (aCons f g) ρ ((d, m) :: as) := by
  unfold Ve Ae at *; unfold aCons; rw [h1]; simp [h2]
theorem ve_and_t {f g : EF} {ρ : Ev} {m : Md} {d : D} {n : Md} (h1 : Ve f ρ (.bl true) m) (h2 : Ve g ρ d n) : Ve (eAnd f g) ρ d n := by
  unfold Ve at *; unfold eAnd; rw [h1]; simp [blD, h2]
theorem ve_and_f {f g : EF} {ρ : Ev} {m : Md} (h1 : Ve f ρ (.bl false) m) : Ve (eAnd f g) ρ (.bl false) .new := by
  unfold Ve at *; unfold eAnd; rw [h1]; simp [blD]
theorem ve_or_f {f g : EF} {ρ : Ev} {m : Md} {d : D} {n : Md} (h1 : Ve f ρ (.bl false) m) (h2 : Ve g ρ d n) : Ve (eOr f g) ρ d n := by
  unfold Ve at *; unfold eOr; rw [h1]; simp [blD, h2]
theorem ve_or_t {f g : EF} {ρ : Ev} {m : Md} (h1 : Ve f ρ (.bl true) m) : Ve (eOr f g) ρ (.bl true) .new := by
  unfold Ve at *; unfold eOr; rw [h1]; simp [blD]
theorem ve_if_t {c : Ev → Option Bool} {f g : EF} {ρ : Ev} {d : D} {m : Md} (h : Te c ρ true) (h1 : Ve f ρ d m) : Ve (eIf c f g) ρ d m := by
  unfold Ve Te at *; unfold eIf; rw [h]; simp [h1]
theorem ve_if_f {c : Ev → Option Bool} {f g : EF} {ρ : Ev} {d : D} {m : Md} (h : Te c ρ false) (h1 : Ve g ρ d m) : Ve (eIf c f g) ρ d m := by
  unfold Ve Te at *; unfold eIf; rw [h]; simp [h1]
theorem ve_lc {f : IF} {vs : List Nat} {g : GF} {t : Ev → Option Bool} {e : EF} {ρ : Ev} {ds ys : List D} {m : Md} (h1 : Xe f ρ ds m) (h2 : ds.length ≤ 16777216) (h3 : lcGo g t e m (wipeE ρ vs) ds = some ys) : Ve (eLc f vs g t e) ρ (.lst ys) .new := by
  unfold Ve Xe at *; unfold eLc; rw [h1]; simp [h2, h3]
/-- every item taken -/
theorem lc_map {g : GF} {e : EF} {m : Md} {ρ : Ev} {F : D → D} : ∀ {ds : List D}, (∀ d ∈ ds, ∃ ρ1 n, g d (effm m d) ρ = some ρ1 ∧ Ve e ρ1 (F d) n ∧ (flat (F d) || isNew n) = true) → lcGo g (fun _ => some true) e m ρ ds = some (ds.map F)
  | [], _ => rfl
  | d :: r, h => by
    obtain ⟨ρ1, n, h1, h2, h3⟩ := h d (by simp)
    unfold Ve at h2
    rw [lcGo, h1]
    simp only [Option.bind_some, h2, h3, if_true, lc_map (ds := r) fun d' hd => h d' (by simp [hd]), List.map_cons, Option.map_some]
/-- those that pass a test -/
theorem lc_filter {g : GF} {t : Ev → Option Bool} {e : EF} {m : Md} {ρ : Ev} {F : D → D} {p : D → Bool} : ∀ {ds : List D}, (∀ d ∈ ds, ∃ ρ1, g d (effm m d) ρ = some ρ1 ∧ Te t ρ1 (p d) ∧ (p d = true → ∃ n, Ve e ρ1 (F d) n ∧ (flat (F d) || isNew n) = true)) →
    lcGo g t e m ρ ds = some ((ds.filter p).map F)
  | [], _ => rfl
  | d :: r, h => by
    obtain ⟨ρ1, h1, h2, h3⟩ := h d (by simp)
    unfold Te at h2
    have ih := lc_filter (ds := r) fun d' hd => h d' (by simp [hd])
    rw [lcGo, h1]
    simp only [Option.bind_some, h2]
    by_cases q : p d = true
    · obtain ⟨n, h4, h5⟩ := h3 q
      unfold Ve at h4
      simp only [q, if_true, h4, Option.bind_some, h5, ih, Option.map_some, List.filter_cons, List.map_cons]
    · simp only [Bool.not_eq_true] at q
      simp [q, ih, List.filter_cons]
theorem xe_seq {f : EF} {ρ : Ev} {d : D} {ds : List D} {m : Md} (h : Ve f ρ d m) (h2 : itemsD d = some ds) : Xe (iE f) ρ ds m := by
  unfold Ve Xe at *; unfold iE; rw [h]; simp [h2]
theorem xe_range {f : EF} {ρ : Ev} {n : Int} {m : Md} (h : Ve f ρ (.int n) m) (h1 : -4611686018427387904 ≤ n) (h2 : n < 4611686018427387904) : Xe (iR f) ρ (rangeL n) .new := by
  unfold Ve Xe at *; unfold iR; rw [h]; simp [intD, h1, h2]
theorem xe_enum {f : EF} {ρ : Ev} {ds : List D} {m : Md} (h : Ve f ρ (.lst ds) m) (h2 : flats ds = true) : Xe (iEn f) ρ (enumL 0 ds) m := by
  unfold Ve Xe at *; unfold iEn; rw [h]; simp [h2]

theorem te_v {f : EF} {ρ : Ev} {b : Bool} {m : Md} (h : Ve f ρ (.bl b) m) : Te (tE f) ρ b := by
  unfold Ve at h; unfold Te tE; rw [h]; rfl
theorem te_and_t {f g : Ev → Option Bool} {ρ : Ev} {b : Bool} (h : Te f ρ true) (h2 : Te g ρ b) : Te (tAndD f g) ρ b := by
  unfold Te at *; unfold tAndD; rw [h]; simp [h2]
theorem te_and_f {f g : Ev → Option Bool} {ρ : Ev} (h : Te f ρ false) : Te (tAndD f g) ρ false := by
  unfold Te at *; unfold tAndD; rw [h]; simp
theorem te_and {f g : Ev → Option Bool} {ρ : Ev} {a b : Bool} (h : Te f ρ a) (h2 : a = true → Te g ρ b) : Te (tAndD f g) ρ (a && b) := by
  cases a with
  | true => rw [Bool.true_and]; exact te_and_t h (h2 rfl)
  | false => exact te_and_f h
theorem te_or_f {f g : Ev → Option Bool} {ρ : Ev} {b : Bool} (h : Te f ρ false) (h2 : Te g ρ b) : Te (tOrD f g) ρ b := by
  unfold Te at *; unfold tOrD; rw [h]; simp [h2]
theorem te_or_t {f g : Ev → Option Bool} {ρ : Ev} (h : Te f ρ true) : Te (tOrD f g) ρ true := by
  unfold Te at *; unfold tOrD; rw [h]; simp
theorem te_or {f g : Ev → Option Bool} {ρ : Ev} {a b : Bool} (h : Te f ρ a) (h2 : a = false → Te g ρ b) : Te (tOrD f g) ρ (a || b) := by
  cases a with
  | false => rw [Bool.false_or]; exact te_or_f h (h2 rfl)
  | true => exact te_or_t h
theorem te_not {f : Ev → Option Bool} {ρ : Ev} {b : Bool} (h : Te f ρ b) : Te (tNotD f) ρ (!b) := by
  unfold Te at *; unfold tNotD; rw [h]; rfl

theorem se_nil {ρ : Ev} : Se bNil ρ (.nx ρ) := rfl
theorem se_seq {g h : SF} {ρ ρ' : Ev} {r : Fl} (h1 : Se g ρ (.nx ρ')) (h2 : Se h ρ' r) : Se (bSeq g h) ρ r := by
  unfold Se at *; unfold bSeq; rw [h1]; exact h2
theorem se_seq_rt {g h : SF} {ρ ρ' : Ev} {d : D} (h1 : Se g ρ (.rt d ρ')) : Se (bSeq g h) ρ (.rt d ρ') := by
  unfold Se at *; unfold bSeq; rw [h1]; rfl
theorem se_set {i : Nat} {f : EF} {ρ ρ' : Ev} {d : D} {m : Md} (h : Ve f ρ d m) (h2 : setS i d m ρ = some ρ') : Se (sSet i f) ρ (.nx ρ') := by
  unfold Se Ve at *; unfold sSet; rw [h]; simp [h2]
theorem setS_flat {i : Nat} {d : D} {m : Md} {ρ : Ev} {s : Sl} (h : ρ[i]? = some s) (h2 : freeS s = true) (f : flat d = true) : setS i d m ρ = some (ρ.set i (.fn d)) := by
  unfold setS mkSl; simp [h, h2, f]
theorem setS_new {i : Nat} {d : D} {ρ : Ev} {s : Sl} (h : ρ[i]? = some s) (h2 : freeS s = true) : setS i d .new ρ = some (ρ.set i (.fn d)) := by
  unfold setS mkSl; simp [h, h2]
theorem setS_par {i : Nat} {d : D} {ρ : Ev} {s : Sl} (h : ρ[i]? = some s) (h2 : freeS s = true) (f : flat d = false) : setS i d .par ρ = some (ρ.set i (.fa d)) := by
  unfold setS mkSl; simp [h, h2, f]
theorem se_setN {i : Nat} {f : NF} {ρ : Ev} {d : D} {s : Sl} (h : Ne f ρ d) (h1 : ρ[i]? = some s) (h2 : freeS s = true) : Se (sSetN i f) ρ (.nx (ρ.set i (.on d))) := by
  unfold Se Ne at *; unfold sSetN; rw [h]; simp [h1, h2]
theorem ne_flat {f : EF} {ρ : Ev} {d : D} {m : Md} (h : Ve f ρ d m) (h2 : flat d = true) : Ne (nFlat f) ρ d := by
  unfold Ne Ve at *; unfold nFlat; rw [h]; simp [h2]
theorem ne_dic0 {ρ : Ev} : Ne nDic0 ρ (.dic []) := rfl
theorem ne_lst {g : Ev → Option (List D)} {ρ : Ev} {ds : List D} (h : g ρ = some ds) (h2 : ds.length ≤ 16777216) : Ne (nLst g) ρ (.lst ds) := by
  unfold Ne nLst; rw [h]; simp [h2]
theorem ne_nil {ρ : Ev} : nNil ρ = some [] := rfl
theorem ne_cons {f : NF} {g : Ev → Option (List D)} {ρ : Ev} {d : D} {ds : List D} (h : Ne f ρ d) (h2 : g ρ = some ds) : nCons f g ρ = some (d :: ds) := by
  unfold Ne at h; unfold nCons; rw [h]; simp [h2]
theorem ne_lc {f : EF} {ρ : Ev} {ds : List D} {m : Md} (h : Ve f ρ (.lst ds) m) (h2 : flats ds = true) : Ne (nLc f) ρ (.lst ds) := by
  unfold Ne Ve at *; unfold nLc; rw [h]; simp [h2]
theorem se_if_t {c : Ev → Option Bool} {g h : SF} {ρ : Ev} {r : Fl} {b : Bool} (h1 : Te c ρ b) (hb : b = true) (h2 : Se g ρ r) : Se (sIf c g h) ρ r := by
  subst hb; unfold Se Te at *; unfold sIf; rw [h1]; simp [h2]
theorem se_if_f {c : Ev → Option Bool} {g h : SF} {ρ : Ev} {r : Fl} {b : Bool} (h1 : Te c ρ b) (hb : b = false) (h2 : Se h ρ r) : Se (sIf c g h) ρ r := by
  subst hb; unfold Se Te at *; unfold sIf; rw [h1]; simp [h2]
/-- an if that sets one slot -/
theorem se_if_set {c : Ev → Option Bool} {i : Nat} {f : EF} {ρ : Ev} {b : Bool} {d d0 : D} {m : Md} (h1 : Te c ρ b) (h0 : ρ[i]? = some (.fn d0)) (h2 : b = true → Ve f ρ d m) (fl : flat d = true) : Se (sIf c (sSet i f) bNil) ρ (.nx (ρ.set i (.fn (if b = true then d else d0)))) := by
  cases b with
  | true => exact se_if_t h1 rfl (se_set (h2 rfl) (setS_flat h0 rfl fl))
  | false =>
    refine se_if_f h1 rfl ?_
    have e : ρ.set i (.fn d0) = ρ := by
      apply List.ext_getElem?
      intro j
      by_cases q : i = j
      · subst q
        rw [List.getElem?_set_self (List.getElem?_eq_some_iff.mp h0).1, h0]
      · rw [List.getElem?_set_ne q]
    simp only [Bool.false_eq_true, if_false, e]
    exact se_nil
theorem se_ret {f : EF} {ρ : Ev} {d d' : D} {m : Md} (h : Ve f ρ d m) (h2 : (flat d || isNew m) = true) (e : d = d') : Se (sRet f) ρ (.rt d' ρ) := by
  subst e; unfold Se Ve at *; unfold sRet; rw [h]; simp only [Option.bind_some, h2, if_true]
theorem se_retOn {i : Nat} {ρ : Ev} {d : D} (h : ρ[i]? = some (.on d)) : Se (sRetOn i) ρ (.rt d (ρ.set i (.fn d))) := by
  unfold Se sRetOn; rw [h]
theorem se_unp {f : EF} {g : GF} {ρ ρ' : Ev} {d : D} {m : Md} (h : Ve f ρ d m) (h2 : g d m ρ = some ρ') : Se (sUnp f g) ρ (.nx ρ') := by
  unfold Se Ve at *; unfold sUnp; rw [h]; simp [h2]
theorem se_app {i : Nat} {w : WF} {f : NF} {ρ ρ' : Ev} {p : List Stp} {ds : List D} {y : D} (h1 : w ρ = some p) (h2 : wayD ρ i p = some (.lst ds)) (h3 : Ne f ρ y) (hl : ds.length < 16777216) (h4 : putW ρ i p (.lst (ds ++ [y])) = some ρ') : Se (sApp i w f) ρ (.nx ρ') := by
  unfold Se Ne at *; unfold sApp; rw [h1]; simp [h2, h3, hl, h4]
theorem se_ext {i : Nat} {w : WF} {f : EF} {ρ ρ' : Ev} {p : List Stp} {ds es : List D} {m : Md} (h1 : w ρ = some p) (h2 : wayD ρ i p = some (.lst ds)) (h3 : Ve f ρ (.lst es) m) (hf : flats es = true) (hl : ds.length + es.length ≤ 16777216) (h4 : putW ρ i p (.lst (ds ++ es)) = some ρ') : Se (sExt i w f) ρ (.nx ρ') := by
  unfold Se Ve at *; unfold sExt; rw [h1]; simp [h2, h3, hl, hf, h4]
theorem se_sub {i : Nat} {w : WF} {fk : EF} {f : NF} {ρ ρ' : Ev} {p : List Stp} {d k y z : D} {m : Md} (h3 : Ne f ρ y) (h1 : w ρ = some p) (h2 : wayD ρ i p = some d) (hk : Ve fk ρ k m) (hz : itemD d k y = some z) (h4 : putW ρ i p z = some ρ') : Se (sSub i w fk f) ρ (.nx ρ') := by
  unfold Se Ne Ve at *; unfold sSub; rw [h3]; simp [h1, h2, hk, hz, h4]
theorem way_on0 {i : Nat} {ρ : Ev} {d : D} (h : ρ[i]? = some (.on d)) : wayD ρ i [] = some d := by unfold wayD ownD; rw [h]; rfl
theorem put_on0 {i : Nat} {ρ : Ev} {d y : D} (h : ρ[i]? = some (.on d)) : putW ρ i [] y = some (ρ.set i (.on y)) := by unfold putW ownD setOwn; rw [h]; rfl

/-- a loop by what holds of the slots; every turn goes on -/
theorem for_inv {g : GF} {b : SF} {m : Md} (P : Nat → Ev → Prop) : ∀ {ds : List D} {ρ : Ev} (k : Nat), P k ρ → (∀ i d ρ, ds[i]? = some d → P (k + i) ρ → ∃ ρ1 ρ2, g d (effm m d) ρ = some ρ1 ∧ (Se b ρ1 (.nx ρ2) ∨ Se b ρ1 (.ct ρ2)) ∧ P (k + i + 1) ρ2) →
    ∃ ρ', forGo g b m ds ρ = some (.nx ρ') ∧ P (k + ds.length) ρ'
  | [], ρ, k, h0, _ => ⟨ρ, rfl, h0⟩
  | d :: r, ρ, k, h0, h => by
    obtain ⟨ρ1, ρ2, h1, h2, h3⟩ := h 0 d ρ rfl h0
    obtain ⟨ρ', h4, h5⟩ := for_inv P (ds := r) (ρ := ρ2) (k + 1) (by simpa using h3) fun i d' ρ e p => by
      have q := h (i + 1) d' ρ (by simpa using e) (by rw [show k + (i + 1) = k + 1 + i by omega]; exact p)
      rw [show k + (i + 1) + 1 = k + 1 + i + 1 by omega] at q
      exact q
    refine ⟨ρ', ?_, by rw [List.length_cons, show k + (r.length + 1) = k + 1 + r.length by omega]; exact h5⟩
    rw [forGo, h1]
    unfold Se at h2
    rcases h2 with h2 | h2 <;> simp [h2, h4]
theorem se_for {f : IF} {g : GF} {b : SF} {ρ : Ev} {ds : List D} {m : Md} (P : Nat → Ev → Prop) (hx : Xe f ρ ds m) (hm : notOwn m = true) (h0 : P 0 ρ)
    (h : ∀ i d ρ, ds[i]? = some d → P i ρ → ∃ ρ1 ρ2, g d (effm m d) ρ = some ρ1 ∧ (Se b ρ1 (.nx ρ2) ∨ Se b ρ1 (.ct ρ2)) ∧ P (i + 1) ρ2) : ∃ ρ', Se (sFor f g b) ρ (.nx ρ') ∧ P ds.length ρ' := by
  obtain ⟨ρ', h1, h2⟩ := for_inv P (ds := ds) (ρ := ρ) (g := g) (b := b) (m := m) 0 h0 fun i d ρ e p => by
    rw [Nat.zero_add] at p ⊢
    exact h i d ρ e p
  rw [Nat.zero_add] at h2
  refine ⟨ρ', ?_, h2⟩
  unfold Se sFor Xe at *
  rw [hx]
  simp only [Option.bind_some, hm, if_true]
  exact h1
theorem fn_ev {n k : Nat} {b : SF} {ds : List D} {d : D} {ρ : Ev} (hl : ds.length = k) (h : Se b (ent n ds) (.rt d ρ)) : fnP n k b ds = some d := by
  unfold Se at h; unfold fnP; rw [if_pos hl, h]; rfl
theorem fn_ev_n {n k : Nat} {b : SF} {ds : List D} {ρ : Ev} (hl : ds.length = k) (h : Se b (ent n ds) (.nx ρ)) : fnP n k b ds = some .non := by
  unfold Se at h; unfold fnP; rw [if_pos hl, h]; rfl

/-! ### the operators -/
theorem mod_ok {i j : Int} (h : 0 < j) : modD (.int i) (.int j) = some (.int (i % j)) := by simp [modD, h]
theorem fdiv_ok {i j : Int} (h : 0 < j) (h2 : j < 1073741824) : fdivD (.int i) (.int j) = some (.int (i / j)) := by simp [fdivD, h, h2]
theorem mul_okl {i j : Int} (h : -18446744073709551616 < i) (h2 : i < 18446744073709551616) : mulD (.int i) (.int j) = some (.int (i * j)) := by simp [mulD, h, h2]
theorem mul_okr {i j : Int} (h : -18446744073709551616 < j) (h2 : j < 18446744073709551616) : mulD (.int i) (.int j) = some (.int (i * j)) := by simp [mulD, h, h2]
theorem add_oks {x y : Str} (h : x.length + y.length ≤ 16777216) : addD (.str x) (.str y) = some (.str (x ++ y)) := by simp [addD, h]
theorem add_okl {x y : List D} (h1 : flats x = true) (h2 : flats y = true) (h : x.length + y.length ≤ 16777216) : addD (.lst x) (.lst y) = some (.lst (x ++ y)) := by simp [addD, h1, h2, h]
/-- data no deeper than k, atoms at the bottom -/
def dk : Nat → D → Bool
  | _, .non => true
  | _, .bl _ => true
  | _, .int _ => true
  | _, .str x => PyData.strOk x
  | k + 1, .tup ds => ds.all (dk k)
  | k + 1, .lst ds => ds.all (dk k)
  | _, _ => false
theorem dks_py {k : Nat} (ih : ∀ d, dk k d = true → ∃ p, toPy d = some p ∧ p.canLay0 = true ∧ p.depth ≤ k) : ∀ ds : List D, ds.all (dk k) = true → ∃ ps, toPys ds = some ps ∧ PyData.canLayAll0 ps = true ∧ PyData.depthAll ps ≤ k
  | [], _ => ⟨[], by simp [toPys], by simp [PyData.canLayAll0], by simp [PyData.depthAll]⟩
  | d :: r, h => by
    simp only [List.all_cons, Bool.and_eq_true] at h
    obtain ⟨p, h1, h2, h3⟩ := ih d h.1
    obtain ⟨ps, h4, h5, h6⟩ := dks_py ih r h.2
    refine ⟨p :: ps, by simp [toPys, h1, h4], by simp [PyData.canLayAll0, h2, h5], ?_⟩
    simp only [PyData.depthAll]
    omega
theorem dk_py : ∀ {k : Nat} {d : D}, dk k d = true → ∃ p, toPy d = some p ∧ p.canLay0 = true ∧ p.depth ≤ k
  | _, .non, _ => ⟨.none, by simp [toPy], by simp [PyData.canLay0], by simp [PyData.depth]⟩
  | _, .bl b, _ => ⟨.bool b, by simp [toPy], by simp [PyData.canLay0], by simp [PyData.depth]⟩
  | _, .int b, _ => ⟨.int b, by simp [toPy], by simp [PyData.canLay0], by simp [PyData.depth]⟩
  | k, .str b, h => ⟨.str b, by simp [toPy], by cases k <;> simpa [PyData.canLay0, dk] using h, by simp [PyData.depth]⟩
  | k + 1, .tup ds, h => by
    obtain ⟨ps, h1, h2, h3⟩ := dks_py (fun d => dk_py) ds h
    refine ⟨.tuple ps, by simp [toPy, h1], by simp [PyData.canLay0, h2], ?_⟩
    simp only [PyData.depth]
    omega
  | k + 1, .lst ds, h => by
    obtain ⟨ps, h1, h2, h3⟩ := dks_py (fun d => dk_py) ds h
    refine ⟨.list ps, by simp [toPy, h1], by simp [PyData.canLay0, h2], ?_⟩
    simp only [PyData.depth]
    omega
  | 0, .tup _, h => by simp [dk] at h
  | 0, .lst _, h => by simp [dk] at h
  | k, .dic _, h => by cases k <;> simp [dk] at h
  | k, .ins _ _, h => by cases k <;> simp [dk] at h
  | k, .scr _, h => by cases k <;> simp [dk] at h
theorem shaped_of {p : PyData} {k : Nat} (h : p.canLay0 = true) (h1 : p.depth ≤ k) (h2 : k ≤ 64) : SeqAt.shaped p = true := by
  unfold SeqAt.shaped
  simp only [Bool.and_eq_true, decide_eq_true_eq]
  exact ⟨h, by omega⟩
theorem eqD_refl {d : D} (h : dk 64 d = true) : eqD d d = some true := by
  obtain ⟨p, h1, h2, h3⟩ := dk_py h
  have s := shaped_of h2 h3 (Nat.le_refl _)
  simp only [eqD, h1, Option.bind_some, s, and_self, if_true, SeqAt.eqv_refl p h2]
theorem eq_refl {d : D} (h : dk 64 d = true) : eqDD d d = some (.bl true) := by simp [eqDD, eqD_refl h]
theorem ne_refl {d : D} (h : dk 64 d = true) : neDD d d = some (.bl false) := by simp [neDD, eqD_refl h]
theorem eqD_at {a b : D} {p q : PyData} (h1 : toPy a = some p) (h2 : toPy b = some q) (ha : dk 0 a = true) (hb : dk 0 b = true) : eqD a b = some (PyData.eqv p q) := by
  obtain ⟨p', e1, c1, d1⟩ := dk_py ha
  obtain ⟨q', e2, c2, d2⟩ := dk_py hb
  rw [h1] at e1; rw [h2] at e2
  cases e1; cases e2
  simp only [eqD, h1, h2, Option.bind_some, shaped_of c1 d1 (by omega), shaped_of c2 d2 (by omega), and_self, if_true]
theorem eqD_int {i j : Int} : eqD (.int i) (.int j) = some (i == j) := by
  rw [eqD_at (p := .int i) (q := .int j) (by simp [toPy]) (by simp [toPy]) rfl rfl]; simp [PyData.eqv]
theorem eqD_str {x y : Str} (hx : PyData.strOk x = true) (hy : PyData.strOk y = true) : eqD (.str x) (.str y) = some (x == y) := by
  rw [eqD_at (p := .str x) (q := .str y) (by simp [toPy]) (by simp [toPy]) (by simpa [dk] using hx) (by simpa [dk] using hy)]; simp [PyData.eqv]
theorem eq_int {i j : Int} : eqDD (.int i) (.int j) = some (.bl (i == j)) := by simp [eqDD, eqD_int]
theorem eq_str {x y : Str} (hx : PyData.strOk x = true) (hy : PyData.strOk y = true) : eqDD (.str x) (.str y) = some (.bl (x == y)) := by simp [eqDD, eqD_str hx hy]
theorem ne_int {i j : Int} : neDD (.int i) (.int j) = some (.bl (!(i == j))) := by simp [neDD, eqD_int]
theorem ne_str {x y : Str} (hx : PyData.strOk x = true) (hy : PyData.strOk y = true) : neDD (.str x) (.str y) = some (.bl (!(x == y))) := by simp [neDD, eqD_str hx hy]
theorem len_str {z : Str} (h : z.length ≤ 16777216) : lenD [.str z] = some (.int (z.length : Nat)) := by simp [lenD, h]
theorem ix_lst {ds : List D} {i : Int} {d : D} (h : atI ds i = some d) : ixD (.lst ds) (.int i) = some d := h
theorem ix_tup {ds : List D} {i : Int} {d : D} (h : atI ds i = some d) : ixD (.tup ds) (.int i) = some d := h
theorem atI_at {α : Type} {xs : List α} {i : Int} {v : α} (h0 : 0 ≤ i) (h : xs[i.toNat]? = some v) : atI xs i = some v := by
  have e : i = (i.toNat : Int) := by omega
  rw [e]
  exact atI_nat h
theorem ix_str {z : Str} {i : Int} {c : Nat} (hl : z.length ≤ 16777216) (h : atI z.cps.toList i = some c) : ixD (.str z) (.int i) = some (.str ⟨#[c]⟩) := by simp [ixD, hl, h]
end DL

/-! DL14: text and lists for the reckoning. -/
namespace DL
open PySem L2
def tx (l : List Nat) : Str := ⟨l.toArray⟩
theorem tx_len (l : List Nat) : (tx l).length = l.length := by simp [tx, Str.length]
theorem tx_app (a b : List Nat) : tx a ++ tx b = tx (a ++ b) := by
  show Str.append (tx a) (tx b) = _
  simp [tx, Str.append]
theorem tx_inj {a b : List Nat} (h : tx a = tx b) : a = b := by simpa [tx] using h
theorem tx_cps (l : List Nat) : (tx l).cps.toList = l := by simp [tx]
theorem tx_cut (l : List Nat) (lo hi : Option Int) : cutS (tx l) lo hi = tx (cutL l lo hi) := by
  unfold cutS cutL
  rw [tx_len, tx_cps]; rfl
theorem cut_to {α : Type} (l : List α) (k : Nat) : cutL l none (some (k : Int)) = l.take k := by
  unfold cutL
  rw [HT.sIx_none, HT.sIx_nat, List.drop_zero, Nat.sub_zero]
  by_cases h : k ≤ l.length
  · rw [Nat.min_eq_left h]
  · rw [Nat.min_eq_right (by omega), List.take_length, List.take_of_length_le (by omega)]
theorem cut_from {α : Type} (l : List α) (k : Nat) : cutL l (some (k : Int)) none = l.drop k := by
  unfold cutL
  rw [HT.sIx_none, HT.sIx_nat]
  by_cases h : k ≤ l.length
  · rw [Nat.min_eq_left h, List.take_of_length_le (by simp)]
  · rw [Nat.min_eq_right (by omega)]; simp; omega
theorem sl_str_to {l : List Nat} {k : Nat} {i : Int} (e : i = (k : Nat)) (h : l.length ≤ 16777216) : slD (.str (tx l)) none (some i) = some (.str (tx (l.take k))) := by
  subst e
  simp [slD, tx_len, h, tx_cut, cut_to]
theorem sl_str_from {l : List Nat} {k : Nat} {i : Int} (e : i = (k : Nat)) (h : l.length ≤ 16777216) : slD (.str (tx l)) (some i) none = some (.str (tx (l.drop k))) := by
  subst e
  simp [slD, tx_len, h, tx_cut, cut_from]
theorem sl_lst_to {ds : List D} {k : Nat} {i : Int} (e : i = (k : Nat)) (h : flats ds = true) : slD (.lst ds) none (some i) = some (.lst (ds.take k)) := by
  subst e
  simp [slD, h, cut_to]
theorem strsOf_map {α : Type} (f : α → Str) : ∀ l : List α, strsOf (l.map fun a => D.str (f a)) = some (l.map f)
  | [] => rfl
  | a :: r => by rw [List.map_cons, strsOf, strsOf_map f r]; rfl
theorem join_nil : ∀ l : List Nat, Str.join (tx []) (l.map fun c => tx [c]) = tx l
  | [] => rfl
  | [c] => rfl
  | c :: d :: r => by
    have ih := join_nil (d :: r)
    rw [List.map_cons] at ih ⊢
    rw [List.map_cons, Str.join, ← List.map_cons (f := fun c => tx [c]), List.map_cons, ih, tx_app, tx_app]
    · rfl
    · simp
theorem join_chars {α : Type} (f : α → Nat) {l : List α} (h : l.length ≤ 16777216) : joinD (.str (tx [])) (.lst (l.map fun a => .str (tx [f a]))) = some (.str (tx (l.map f))) := by
  have e : strsOf (l.map fun a => D.str (tx [f a])) = some ((l.map f).map fun c => tx [c]) := by rw [strsOf_map (fun a => tx [f a]), List.map_map]; rfl
  have q : ∀ l : List Nat, ((l.map fun c => tx [c]).map (·.length)).sum = l.length := by
    intro l; induction l with
    | nil => rfl
    | cons a r ih => rw [List.map_cons, List.map_cons, List.sum_cons, ih, tx_len]; simp; omega
  unfold joinD
  simp only [e, Option.bind_some, q, tx_len, List.length_map, List.length_nil, Nat.mul_zero, Nat.add_zero, h, if_true, TL.join_eq, join_nil]
theorem ix_tx {l : List Nat} {i : Int} {c : Nat} (hl : l.length ≤ 16777216) (h0 : 0 ≤ i) (h : l[i.toNat]? = some c) : ixD (.str (tx l)) (.int i) = some (.str (tx [c])) := by
  refine ix_str (by rw [tx_len]; exact hl) ?_
  rw [tx_cps]
  exact atI_at h0 h
theorem ixl_nat {ds : List D} {i : Int} {d : D} (h0 : 0 ≤ i) (h : ds[i.toNat]? = some d) : ixD (.lst ds) (.int i) = some d := ix_lst (atI_at h0 h)
theorem ixt_nat {ds : List D} {i : Int} {d : D} (h0 : 0 ≤ i) (h : ds[i.toNat]? = some d) : ixD (.tup ds) (.int i) = some d := ix_tup (atI_at h0 h)
theorem ix_scr {ns : List Int} {i : Int} {d : Int} (h0 : 0 ≤ i) (h : ns[i.toNat]? = some d) : ixD (.scr ns) (.int i) = some (.int d) := by
  show (atI ns i).map D.int = _
  rw [atI_at h0 h]; rfl
def okC (l : List Nat) : Bool := l.all (· < 0x110000)
theorem tx_ok {l : List Nat} (h : okC l = true) : PyData.strOk (tx l) = true := by
  unfold PyData.strOk; unfold okC at h
  rw [← Array.all_toList, tx_cps]; exact h
theorem add_tx {a b : List Nat} (h : a.length + b.length ≤ 16777216) : addD (.str (tx a)) (.str (tx b)) = some (.str (tx (a ++ b))) := by
  rw [add_oks (by rw [tx_len, tx_len]; exact h), tx_app]
theorem len_tx {l : List Nat} (h : l.length ≤ 16777216) : lenD [.str (tx l)] = some (.int (l.length : Nat)) := by rw [len_str (by rw [tx_len]; exact h), tx_len]
theorem add_int {i j : Int} : addD (.int i) (.int j) = some (.int (i + j)) := rfl
theorem sub_int {i j : Int} : subD (.int i) (.int j) = some (.int (i - j)) := rfl
theorem lt_int {i j : Int} : ltD (.int i) (.int j) = some (.bl (decide (i < j))) := rfl
theorem gt_int {i j : Int} : gtD (.int i) (.int j) = some (.bl (decide (i > j))) := rfl
theorem range_nat (n : Nat) : rangeL (n : Int) = (List.range n).map fun i => .int (i : Nat) := by unfold rangeL; rw [Int.toNat_natCast]
theorem range_get {n : Int} {k : Nat} {d : D} (h : (rangeL n)[k]? = some d) : k < n.toNat ∧ d = .int (k : Nat) := by
  unfold rangeL at h
  rw [List.getElem?_map] at h
  cases q : (List.range n.toNat)[k]? with
  | none => rw [q] at h; cases h
  | some j =>
    rw [q] at h
    have := List.getElem?_eq_some_iff.mp q
    obtain ⟨h1, h2⟩ := this
    simp at h1 h2
    cases h; subst h2
    exact ⟨by omega, rfl⟩
theorem flats_map {α : Type} {f : α → D} (h : ∀ a, flat (f a) = true) : ∀ l : List α, flats (l.map f) = true
  | [] => rfl
  | a :: r => by
    rw [List.map_cons]
    show (flat (f a) && flats (r.map f)) = true
    rw [h, flats_map h r]; rfl
end DL
namespace DL
open PySem L2
theorem fn_go {n k : Nat} {b : SF} {ds : List D} {d : D} (hl : ds.length = k) (h : ∃ ρ, Se b (ent n ds) (.rt d ρ)) : fnP n k b ds = some d := by
  obtain ⟨ρ, h⟩ := h
  exact fn_ev hl h
end DL

/-! DL15: the reckoning where the mode plays no part. -/
namespace DL
open PySem L2
def Vf (f : EF) (ρ : Ev) (d : D) : Prop := ∃ m, Ve f ρ d m
def Af (f : AF) (ρ : Ev) (ds : List D) : Prop := ∃ as, Ae f ρ as ∧ as.map (·.1) = ds
theorem Vf.of {f : EF} {ρ : Ev} {d : D} {m : Md} (h : Ve f ρ d m) : Vf f ρ d := ⟨m, h⟩
theorem vf_fz {i : Nat} {ρ : Ev} {d : D} (h : ρ[i]? = some (.fz d)) : Vf (eV i) ρ d := ⟨_, ve_fz h⟩
theorem vf_fa {i : Nat} {ρ : Ev} {d : D} (h : ρ[i]? = some (.fa d)) : Vf (eV i) ρ d := ⟨_, ve_fa h⟩
theorem vf_fn {i : Nat} {ρ : Ev} {d : D} (h : ρ[i]? = some (.fn d)) : Vf (eV i) ρ d := ⟨_, ve_fn h⟩
theorem vf_ow {i : Nat} {ρ : Ev} {d : D} (h : ρ[i]? = some (.ow d)) : Vf (eV i) ρ d := ⟨_, ve_ow h⟩
theorem vf_on {i : Nat} {ρ : Ev} {d : D} (h : ρ[i]? = some (.on d)) : Vf (eV i) ρ d := ⟨_, ve_on h⟩
theorem vf_c {d : D} {ρ : Ev} : Vf (eC d) ρ d := ⟨_, ve_c⟩
theorem vf_e2 {o : D → D → Option D} {f g : EF} {ρ : Ev} {a b c : D} (h1 : Vf f ρ a) (h2 : Vf g ρ b) (h : o a b = some c) : Vf (e2 o f g) ρ c := by
  obtain ⟨m, h1⟩ := h1; obtain ⟨n, h2⟩ := h2; exact ⟨_, ve_e2 h1 h2 h⟩
theorem vf_e1 {o : D → Option D} {f : EF} {ρ : Ev} {a c : D} (h1 : Vf f ρ a) (h : o a = some c) : Vf (e1 o f) ρ c := by
  obtain ⟨m, h1⟩ := h1; exact ⟨_, ve_e1 h1 h⟩
theorem vf_ix {o : D → D → Option D} {f g : EF} {ρ : Ev} {a b c : D} (h1 : Vf f ρ a) (h2 : Vf g ρ b) (h : o a b = some c) : Vf (eIx o f g) ρ c := by
  obtain ⟨m, h1⟩ := h1; obtain ⟨n, h2⟩ := h2; exact ⟨_, ve_ix h1 h2 h⟩
theorem vf_fld {n : Nat} {f : Str} {g : EF} {ρ : Ev} {c : D} {fs : List (Str × D)} (h1 : Vf g ρ (.ins n fs)) (h : getF fs f = some c) : Vf (eFld n f g) ρ c := by
  obtain ⟨m, h1⟩ := h1; exact ⟨_, ve_fld h1 h⟩
theorem af_nil {ρ : Ev} : Af aNil ρ [] := ⟨[], ae_nil, rfl⟩
theorem af_cons {f : EF} {g : AF} {ρ : Ev} {d : D} {ds : List D} (h1 : Vf f ρ d) (h2 : Af g ρ ds) : Af (aCons f g) ρ (d :: ds) := by
  obtain ⟨m, h1⟩ := h1
  obtain ⟨as, h2, rfl⟩ := h2
  exact ⟨_, ae_cons h1 h2, rfl⟩
theorem okNew_flats : ∀ {as : List (D × Md)}, flats (as.map (·.1)) = true → okNew as = true
  | [], _ => rfl
  | p :: r, h => by
    rw [List.map_cons] at h
    have h' : flat p.1 = true ∧ flats (r.map (·.1)) = true := by simpa [flats] using h
    simp [okNew, h'.1, okNew_flats h'.2]
theorem vn_call {f : List D → Option D} {g : AF} {ρ : Ev} {ds : List D} {d : D} (h1 : Af g ρ ds) (h : f ds = some d) : Ve (eCall f g) ρ d .new := by
  obtain ⟨as, h1, rfl⟩ := h1; exact ve_call h1 h
theorem vf_call {f : List D → Option D} {g : AF} {ρ : Ev} {ds : List D} {d : D} (h1 : Af g ρ ds) (h : f ds = some d) : Vf (eCall f g) ρ d := ⟨_, vn_call h1 h⟩
theorem vn_disp {mk : List D → D} {g : AF} {ρ : Ev} {ds : List D} (h1 : Af g ρ ds) (h2 : flats ds = true) (h3 : ds.length ≤ 16777216) : Ve (eDisp mk g) ρ (mk ds) .new := by
  obtain ⟨as, h1, rfl⟩ := h1; exact ve_disp h1 (okNew_flats h2) (by simpa using h3)
theorem vf_disp {mk : List D → D} {g : AF} {ρ : Ev} {ds : List D} (h1 : Af g ρ ds) (h2 : flats ds = true) (h3 : ds.length ≤ 16777216) : Vf (eDisp mk g) ρ (mk ds) := ⟨_, vn_disp h1 h2 h3⟩
theorem of_some {f : EF} {ρ : Ev} {i : Int} (h : Vf f ρ (.int i)) : Oe (oSome f) ρ (some i) := by
  obtain ⟨m, h⟩ := h; exact oe_some h
theorem vn_sl {f : EF} {l h : OF} {ρ : Ev} {a c : D} {lo hi : Option Int} (h1 : Vf f ρ a) (h2 : Oe l ρ lo) (h3 : Oe h ρ hi) (h4 : slD a lo hi = some c) : Ve (eSl f l h) ρ c .new := by
  obtain ⟨m, h1⟩ := h1; exact ve_sl h1 h2 h3 h4
theorem vf_sl {f : EF} {l h : OF} {ρ : Ev} {a c : D} {lo hi : Option Int} (h1 : Vf f ρ a) (h2 : Oe l ρ lo) (h3 : Oe h ρ hi) (h4 : slD a lo hi = some c) : Vf (eSl f l h) ρ c := ⟨_, vn_sl h1 h2 h3 h4⟩
theorem vf_and_t {f g : EF} {ρ : Ev} {d : D} (h1 : Vf f ρ (.bl true)) (h2 : Vf g ρ d) : Vf (eAnd f g) ρ d := by
  obtain ⟨m, h1⟩ := h1; obtain ⟨n, h2⟩ := h2; exact ⟨_, ve_and_t h1 h2⟩
theorem vf_and_f {f g : EF} {ρ : Ev} (h1 : Vf f ρ (.bl false)) : Vf (eAnd f g) ρ (.bl false) := by
  obtain ⟨m, h1⟩ := h1; exact ⟨_, ve_and_f h1⟩
theorem vf_or_f {f g : EF} {ρ : Ev} {d : D} (h1 : Vf f ρ (.bl false)) (h2 : Vf g ρ d) : Vf (eOr f g) ρ d := by
  obtain ⟨m, h1⟩ := h1; obtain ⟨n, h2⟩ := h2; exact ⟨_, ve_or_f h1 h2⟩
theorem vf_or_t {f g : EF} {ρ : Ev} (h1 : Vf f ρ (.bl true)) : Vf (eOr f g) ρ (.bl true) := by
  obtain ⟨m, h1⟩ := h1; exact ⟨_, ve_or_t h1⟩
theorem vf_if {c : Ev → Option Bool} {f g : EF} {ρ : Ev} {d : D} {b : Bool} (h : Te c ρ b) (h1 : b = true → Vf f ρ d) (h2 : b = false → Vf g ρ d) : Vf (eIf c f g) ρ d := by
  cases b with
  | true => obtain ⟨m, h1⟩ := h1 rfl; exact ⟨_, ve_if_t h h1⟩
  | false => obtain ⟨m, h1⟩ := h2 rfl; exact ⟨_, ve_if_f h h1⟩
theorem tf_v {f : EF} {ρ : Ev} {b : Bool} (h : Vf f ρ (.bl b)) : Te (tE f) ρ b := by
  obtain ⟨m, h⟩ := h; exact te_v h
theorem sf_set {i : Nat} {f : EF} {ρ : Ev} {d : D} {s : Sl} (h : Vf f ρ d) (h1 : ρ[i]? = some s) (h2 : freeS s = true) (fl : flat d = true) : Se (sSet i f) ρ (.nx (ρ.set i (.fn d))) := by
  obtain ⟨m, h⟩ := h; exact se_set h (setS_flat h1 h2 fl)
theorem sn_set {i : Nat} {f : EF} {ρ : Ev} {d : D} {s : Sl} (h : Ve f ρ d .new) (h1 : ρ[i]? = some s) (h2 : freeS s = true) : Se (sSet i f) ρ (.nx (ρ.set i (.fn d))) := se_set h (setS_new h1 h2)
theorem sf_ret {f : EF} {ρ : Ev} {d : D} (h : Vf f ρ d) (h2 : flat d = true) : Se (sRet f) ρ (.rt d ρ) := by
  obtain ⟨m, h⟩ := h; exact se_ret h (by rw [h2]; rfl) rfl
theorem sn_ret {f : EF} {ρ : Ev} {d : D} (h : Ve f ρ d .new) : Se (sRet f) ρ (.rt d ρ) := se_ret h (by simp [isNew]) rfl
theorem nf_flat {f : EF} {ρ : Ev} {d : D} (h : Vf f ρ d) (h2 : flat d = true) : Ne (nFlat f) ρ d := by
  obtain ⟨m, h⟩ := h; exact ne_flat h h2
theorem sf_if_set {c : Ev → Option Bool} {i : Nat} {f : EF} {ρ : Ev} {b : Bool} {d d0 : D} (h1 : Te c ρ b) (h0 : ρ[i]? = some (.fn d0)) (h2 : b = true → Vf f ρ d) (fl : flat d = true) : Se (sIf c (sSet i f) bNil) ρ (.nx (ρ.set i (.fn (if b = true then d else d0)))) := by
  cases b with
  | true => obtain ⟨m, h2⟩ := h2 rfl; exact se_if_set h1 h0 (fun _ => h2) fl
  | false => exact se_if_set (m := .new) h1 h0 (fun h => by cases h) fl
theorem xf_range {f : EF} {ρ : Ev} {n : Int} (h : Vf f ρ (.int n)) (h1 : -4611686018427387904 ≤ n) (h2 : n < 4611686018427387904) : Xe (iR f) ρ (rangeL n) .new := by
  obtain ⟨m, h⟩ := h; exact xe_range h h1 h2
/-- a comprehension over a range, each item flat -/
theorem vn_lcr {f : EF} {ρ : Ev} {i : Nat} {e : EF} {n : Nat} {F : Nat → D} (h : Vf f ρ (.int (n : Nat))) (hn : n ≤ 16777216) (hi : i < ρ.length)
    (hF : ∀ k, k < n → Vf e ((wipeE ρ [i]).set i (.fn (.int (k : Nat)))) (F k)) (hf : ∀ k, flat (F k) = true) :
    Ve (eLc (iR f) [i] (gN i) (fun _ => some true) e) ρ (.lst ((List.range n).map F)) .new := by
  refine ve_lc (xf_range h (by omega) (by omega)) (by simp [rangeL]; omega) ?_
  rw [range_nat]
  have key := @lc_map (gN i) e .new (wipeE ρ [i]) (fun d => match d with | .int k => F k.toNat | d => d) ((List.range n).map fun k => .int (k : Nat)) ?_
  · rw [List.map_map] at key
    rw [key]
    congr 2
  · intro d hd
    simp only [List.mem_map, List.mem_range] at hd
    obtain ⟨k, hk, rfl⟩ := hd
    obtain ⟨m, hv⟩ := hF k hk
    have e0 : (wipeE ρ [i])[i]? = some .emp := by
      show (ρ.set i .emp)[i]? = _
      rw [List.getElem?_set_self hi]
    exact ⟨_, m, setS_flat e0 rfl rfl, by simpa using hv, by simp [hf]⟩
/-- a comprehension over a list, each item flat -/
theorem vn_lcl {f : EF} {ρ : Ev} {i : Nat} {e : EF} {ds : List D} {F : D → D} (h : Vf f ρ (.lst ds)) (hn : ds.length ≤ 16777216) (hi : i < ρ.length) (hd : flats ds = true)
    (hF : ∀ d, d ∈ ds → Vf e ((wipeE ρ [i]).set i (.fn d)) (F d)) (hf : ∀ d, d ∈ ds → flat (F d) = true) :
    Ve (eLc (iE f) [i] (gN i) (fun _ => some true) e) ρ (.lst (ds.map F)) .new := by
  obtain ⟨m, h⟩ := h
  refine ve_lc (xe_seq h rfl) hn ?_
  refine lc_map fun d hm => ?_
  obtain ⟨n, hv⟩ := hF d hm
  have e0 : (wipeE ρ [i])[i]? = some .emp := by
    show (ρ.set i .emp)[i]? = _
    rw [List.getElem?_set_self hi]
  have fd : ∀ (ds : List D), flats ds = true → ∀ d ∈ ds, flat d = true := by
    intro ds
    induction ds with
    | nil => intro _ d h; cases h
    | cons a r ih =>
      intro h d hm
      have h' : flat a = true ∧ flats r = true := by simpa [flats] using h
      rcases List.mem_cons.mp hm with rfl | hm
      · exact h'.1
      · exact ih h'.2 d hm
  exact ⟨_, n, setS_flat e0 rfl (fd ds hd d hm), hv, by simp [hf d hm]⟩
/-- the body gives d back -/
def Sr (g : SF) (ρ : Ev) (d : D) : Prop := ∃ ρ', Se g ρ (.rt d ρ')
theorem fn_sr {n k : Nat} {b : SF} {ds : List D} {d : D} (hl : ds.length = k) (h : Sr b (ent n ds) d) : fnP n k b ds = some d := by
  obtain ⟨ρ, h⟩ := h
  exact fn_ev hl h
theorem sr_seq {g h : SF} {ρ ρ' : Ev} {d : D} (h1 : Se g ρ (.nx ρ')) (h2 : Sr h ρ' d) : Sr (bSeq g h) ρ d := by
  obtain ⟨ρ2, h2⟩ := h2
  exact ⟨_, se_seq h1 h2⟩
theorem sr_now {g h : SF} {ρ : Ev} {d : D} (h1 : Sr g ρ d) : Sr (bSeq g h) ρ d := by
  obtain ⟨ρ2, h1⟩ := h1
  exact ⟨_, se_seq_rt h1⟩
theorem sr_ret {f : EF} {ρ : Ev} {d : D} (h : Vf f ρ d) (h2 : flat d = true) : Sr (sRet f) ρ d := ⟨_, sf_ret h h2⟩
theorem srn_ret {f : EF} {ρ : Ev} {d : D} (h : Ve f ρ d .new) : Sr (sRet f) ρ d := ⟨_, sn_ret h⟩
theorem sr_retOn {i : Nat} {ρ : Ev} {d : D} (h : ρ[i]? = some (.on d)) : Sr (sRetOn i) ρ d := ⟨_, se_retOn h⟩
theorem sr_if_t {c : Ev → Option Bool} {g h : SF} {ρ : Ev} {d : D} {b : Bool} (h1 : Te c ρ b) (hb : b = true) (h2 : Sr g ρ d) : Sr (sIf c g h) ρ d := by
  obtain ⟨ρ2, h2⟩ := h2
  exact ⟨_, se_if_t h1 hb h2⟩
theorem sr_if_f {c : Ev → Option Bool} {g h : SF} {ρ : Ev} {d : D} {b : Bool} (h1 : Te c ρ b) (hb : b = false) (h2 : Sr h ρ d) : Sr (sIf c g h) ρ d := by
  obtain ⟨ρ2, h2⟩ := h2
  exact ⟨_, se_if_f h1 hb h2⟩
/-- a test that gives back now, or goes on -/
theorem sr_guard {c : Ev → Option Bool} {g h : SF} {ρ : Ev} {d : D} {b : Bool} (h1 : Te c ρ b) (ht : b = true → Sr g ρ d) (hf : b = false → Sr h ρ d) : Sr (bSeq (sIf c g bNil) h) ρ d := by
  cases b with
  | true => exact sr_now (sr_if_t h1 rfl (ht rfl))
  | false => exact sr_seq (se_if_f h1 rfl se_nil) (hf rfl)
def Sx (g : SF) (ρ : Ev) (Φ : Ev → Prop) : Prop := ∃ ρ', (Se g ρ (.nx ρ') ∨ Se g ρ (.ct ρ')) ∧ Φ ρ'
def Sg (g : GF) (d : D) (m : Md) (ρ : Ev) (Φ : Ev → Prop) : Prop := ∃ ρ1, g d m ρ = some ρ1 ∧ Φ ρ1
theorem sx_seq {g h : SF} {ρ ρ' : Ev} {Φ : Ev → Prop} (h1 : Se g ρ (.nx ρ')) (h2 : Sx h ρ' Φ) : Sx (bSeq g h) ρ Φ := by
  obtain ⟨ρ2, h2 | h2, h3⟩ := h2
  · exact ⟨_, .inl (se_seq h1 h2), h3⟩
  · exact ⟨_, .inr (se_seq h1 h2), h3⟩
theorem sx_end {g : SF} {ρ ρ' : Ev} {Φ : Ev → Prop} (h1 : Se g ρ (.nx ρ')) (h2 : Φ ρ') : Sx g ρ Φ := ⟨_, .inl h1, h2⟩
theorem sx_if {c : Ev → Option Bool} {g h : SF} {ρ : Ev} {Φ : Ev → Prop} {b : Bool} (h1 : Te c ρ b) (ht : b = true → Sx g ρ Φ) (hf : b = false → Sx h ρ Φ) : Sx (sIf c g h) ρ Φ := by
  cases b with
  | true => obtain ⟨ρ2, h2 | h2, h3⟩ := ht rfl; exact ⟨_, .inl (se_if_t h1 rfl h2), h3⟩; exact ⟨_, .inr (se_if_t h1 rfl h2), h3⟩
  | false => obtain ⟨ρ2, h2 | h2, h3⟩ := hf rfl; exact ⟨_, .inl (se_if_f h1 rfl h2), h3⟩; exact ⟨_, .inr (se_if_f h1 rfl h2), h3⟩
theorem sx_nil {ρ : Ev} {Φ : Ev → Prop} (h : Φ ρ) : Sx bNil ρ Φ := ⟨_, .inl se_nil, h⟩
theorem sg_flat {i : Nat} {d : D} {m : Md} {ρ : Ev} {Φ : Ev → Prop} {s : Sl} (h : ρ[i]? = some s) (h2 : freeS s = true) (f : flat d = true) (hΦ : Φ (ρ.set i (.fn d))) : Sg (gN i) d m ρ Φ := ⟨_, setS_flat h h2 f, hΦ⟩
theorem sg_two {i j : Nat} {a b : D} {m : Md} {ρ : Ev} {Φ : Ev → Prop} {s t : Sl} (h : ρ[i]? = some s) (h2 : freeS s = true) (f : flat a = true) (h' : (ρ.set i (.fn a))[j]? = some t) (h2' : freeS t = true) (f' : flat b = true)
    (hΦ : Φ ((ρ.set i (.fn a)).set j (.fn b))) : Sg (gT 2 (gsCons i (gsCons j gsNil))) (.tup [a, b]) m ρ Φ := by
  refine ⟨_, ?_, hΦ⟩
  show (setS i a (effm m a) ρ).bind (fun ρ' => (setS j b (effm m b) ρ').bind fun ρ'' => some ρ'') = _
  rw [setS_flat h h2 f, Option.bind_some, setS_flat h' h2' f']; rfl
theorem sr_for {f : IF} {g : GF} {b h : SF} {ρ : Ev} {ds : List D} {m : Md} {r : D} (P : Nat → Ev → Prop) (hx : Xe f ρ ds m) (hm : notOwn m = true) (h0 : P 0 ρ)
    (hs : ∀ i d ρ, ds[i]? = some d → P i ρ → Sg g d (effm m d) ρ fun ρ1 => Sx b ρ1 (P (i + 1))) (he : ∀ ρ', P ds.length ρ' → Sr h ρ' r) : Sr (bSeq (sFor f g b) h) ρ r := by
  obtain ⟨ρ', h1, h2⟩ := se_for P hx hm h0 fun i d ρ e p => by
    obtain ⟨ρ1, q1, ρ2, q2, q3⟩ := hs i d ρ e p
    exact ⟨ρ1, ρ2, q1, q2, q3⟩
  exact sr_seq h1 (he ρ' h2)
/-- the body gives something back of which Φ holds -/
def Sp (g : SF) (ρ : Ev) (Φ : D → Prop) : Prop := ∃ d, Sr g ρ d ∧ Φ d
theorem fn_sp {n k : Nat} {b : SF} {ds : List D} {Φ : D → Prop} (hl : ds.length = k) (h : Sp b (ent n ds) Φ) : ∃ d, fnP n k b ds = some d ∧ Φ d := by
  obtain ⟨d, h, h2⟩ := h
  exact ⟨d, fn_sr hl h, h2⟩
theorem Sp.of {g : SF} {ρ : Ev} {d : D} {Φ : D → Prop} (h : Sr g ρ d) (h2 : Φ d) : Sp g ρ Φ := ⟨d, h, h2⟩
theorem sp_seq {g h : SF} {ρ ρ' : Ev} {Φ : D → Prop} (h1 : Se g ρ (.nx ρ')) (h2 : Sp h ρ' Φ) : Sp (bSeq g h) ρ Φ := by
  obtain ⟨d, h2, h3⟩ := h2
  exact ⟨_, sr_seq h1 h2, h3⟩
theorem sp_guard {c : Ev → Option Bool} {g h : SF} {ρ : Ev} {Φ : D → Prop} {b : Bool} (h1 : Te c ρ b) (ht : b = true → Sp g ρ Φ) (hf : b = false → Sp h ρ Φ) : Sp (bSeq (sIf c g bNil) h) ρ Φ := by
  cases b with
  | true => obtain ⟨d, q, r⟩ := ht rfl; exact ⟨_, sr_now (sr_if_t h1 rfl q), r⟩
  | false => obtain ⟨d, q, r⟩ := hf rfl; exact ⟨_, sr_seq (se_if_f h1 rfl se_nil) q, r⟩
theorem sp_ret {f : EF} {ρ : Ev} {d : D} {Φ : D → Prop} (h : Vf f ρ d) (h2 : flat d = true) (h3 : Φ d) : Sp (sRet f) ρ Φ := ⟨_, sr_ret h h2, h3⟩
theorem spn_ret {f : EF} {ρ : Ev} {d : D} {Φ : D → Prop} (h : Ve f ρ d .new) (h3 : Φ d) : Sp (sRet f) ρ Φ := ⟨_, srn_ret h, h3⟩
theorem ix_mem {ds : List D} {i : Int} (h0 : 0 ≤ i) (h : i < ds.length) : ∃ d, d ∈ ds ∧ ixD (.lst ds) (.int i) = some d := by
  have hl : i.toNat < ds.length := by omega
  exact ⟨ds[i.toNat], List.getElem_mem hl, ixl_nat h0 (List.getElem?_eq_getElem hl)⟩
theorem lc_mapS {g : GF} {e : EF} {m : Md} {ρ : Ev} {ds : List D} (F : D → D) (h : ∀ d ∈ ds, Sg g d (effm m d) ρ fun ρ1 => Vf e ρ1 (F d)) (hf : ∀ d ∈ ds, flat (F d) = true) : lcGo g (fun _ => some true) e m ρ ds = some (ds.map F) :=
  lc_map fun d hd => by
    obtain ⟨ρ1, h1, n, h2⟩ := h d hd
    exact ⟨ρ1, n, h1, h2, by simp [hf d hd]⟩
theorem lc_filterS {g : GF} {t : Ev → Option Bool} {e : EF} {m : Md} {ρ : Ev} {ds : List D} (F : D → D) (p : D → Bool) (h : ∀ d ∈ ds, Sg g d (effm m d) ρ fun ρ1 => Te t ρ1 (p d) ∧ (p d = true → Vf e ρ1 (F d))) (hf : ∀ d ∈ ds, flat (F d) = true) : lcGo g t e m ρ ds = some ((ds.filter p).map F) :=
  lc_filter fun d hd => by
    obtain ⟨ρ1, h1, h2, h3⟩ := h d hd
    exact ⟨ρ1, h1, h2, fun q => by
      obtain ⟨n, h4⟩ := h3 q
      exact ⟨n, h4, by simp [hf d hd]⟩⟩
theorem sn_if_set {c : Ev → Option Bool} {i : Nat} {f : EF} {ρ : Ev} {b : Bool} {d d0 : D} (h1 : Te c ρ b) (h0 : ρ[i]? = some (.fn d0)) (h2 : b = true → Ve f ρ d .new) : Se (sIf c (sSet i f) bNil) ρ (.nx (ρ.set i (.fn (if b = true then d else d0)))) := by
  cases b with
  | true => exact se_if_t h1 rfl (sn_set (h2 rfl) h0 rfl)
  | false =>
    refine se_if_f h1 rfl ?_
    have e : ρ.set i (.fn d0) = ρ := by
      apply List.ext_getElem?
      intro j
      by_cases q : i = j
      · subst q
        rw [List.getElem?_set_self (List.getElem?_eq_some_iff.mp h0).1, h0]
      · rw [List.getElem?_set_ne q]
    simp only [Bool.false_eq_true, if_false, e]
    exact se_nil
def Wh (c : Ev → Option Bool) (b : SF) (ρ ρ' : Ev) : Prop := ∃ n, whGo c b n ρ = some (.nx ρ')
theorem wh_stop {c : Ev → Option Bool} {b : SF} {ρ : Ev} (h : Te c ρ false) : Wh c b ρ ρ := ⟨1, by unfold Te at h; rw [whGo, h]; rfl⟩
theorem wh_step {c : Ev → Option Bool} {b : SF} {ρ ρ1 ρ' : Ev} (h : Te c ρ true) (h1 : Se b ρ (.nx ρ1)) (h2 : Wh c b ρ1 ρ') : Wh c b ρ ρ' := by
  obtain ⟨n, h2⟩ := h2
  exact ⟨n + 1, by unfold Te at h; unfold Se at h1; rw [whGo, h]; simp [h1, h2]⟩
theorem se_wh {c : Ev → Option Bool} {b : SF} {ρ ρ' : Ev} (h : Wh c b ρ ρ') : Se (sWhile c b) ρ (.nx ρ') := by
  obtain ⟨n, h⟩ := h
  exact sWhile_of h
theorem getK_map {α : Type} {f : α → Key} {g : α → D} (inj : ∀ i j, f i = f j → i = j) {i : α} : ∀ {l : List α}, i ∈ l → getK (l.map fun i => (f i, g i)) (f i) = some (g i)
  | [], h => by cases h
  | a :: r, h => by
    rw [List.map_cons, getK]
    by_cases q : f a = f i
    · rw [if_pos q, inj _ _ q]
    · rw [if_neg q]
      rcases List.mem_cons.mp h with e | h
      · exact absurd (by rw [e]) q
      · exact getK_map inj h
theorem putG_new {β : Type} {kvs : List (Key × β)} {k : Key} {y : β} (h : (kvs.any fun kv => decide (kv.1 = k)) = false) : putG kvs k y = kvs ++ [(k, y)] := by
  unfold putG
  rw [h]; rfl
theorem ix_last {ds : List D} {d : D} (h : ds.getLast? = some d) : ixD (.lst ds) (.int (-1)) = some d := by
  refine ix_lst ?_
  have hl : ds.length ≠ 0 := by
    intro q
    rw [List.length_eq_zero_iff.mp q] at h
    cases h
  unfold atI ixN
  rw [if_neg (by omega), if_pos (by omega), Option.bind_some]
  rw [List.getLast?_eq_getElem?] at h
  rw [← h]
  congr 1
  omega
end DL

/-! DL16: displays of dicts. -/
namespace DL
open PySem L2
section
variable {Γ : Ga} {x : Fx} {B : Hp} {F : Nat → List Addr} {ρ : Ev} {σ : St} {H : Hp}
/-- a thing that no one knows of is written, and known from then on -/
theorem Ok.turn (o : Ok Γ x B F ρ σ H) {a : Addr} {u w : HO} (hu : H a = some u) (hnt : ∀ xs, u ≠ .tup xs) (hw : ∀ xs, w ≠ .tup xs) (l : Loose x B F a) : Ok Γ x (upd B a w) F ρ σ (upd H a w) where
  kp := fun b v e => by rw [upd_ne (fun q => by rw [q, l.2.1] at e; cases e)]; exact o.kp b v e
  bh := upd_upd_same o.bh
  tup := fun b xs e => by
    by_cases q : b = a
    · subst q; rw [upd_same] at e; cases e; exact absurd rfl (hw xs)
    · rw [upd_ne q] at e ⊢; exact o.tup b xs e
  born := fun b v e => by
    by_cases q : b = a
    · subst q; exact .inr l.2.2.1
    · rw [upd_ne q] at e; exact o.born b v e
  bk := fun b v e => by
    by_cases q : b = a
    · subst q; exact .inr l.2.1
    · rw [upd_ne q] at e; exact o.bk b v e
  dom := fun b e => by
    by_cases q : b = a
    · subst q; exact l.2.2.1
    · rw [upd_ne q] at e; exact o.dom b e
  fk := fun i b hb => by
    obtain ⟨h1, h2, h3⟩ := o.fk i b hb
    have hne : b ≠ a := fun q => l.2.2.2 i (q ▸ hb)
    exact ⟨h1, by rw [upd_ne hne]; exact h2, h3⟩
  dj := o.dj
  nd := o.nd
  out := o.out
  len := o.len
  at_ := fun i s hs => by
    have q := o.at_ i s hs
    have hk : ∀ b ∈ F i, upd H a w b = H b := fun b hb => by
      have hne : b ≠ a := fun q => l.2.2.2 i (q ▸ hb)
      exact upd_ne hne
    have tk : TupK H (upd H a w) := TupK.upd (by intro xs z; rw [hu] at z; cases z; exact absurd rfl (hnt xs))
    cases s with
    | emp => exact q
    | fz => exact q
    | fa => exact q
    | fn => obtain ⟨q1, v, q2, q3⟩ := q; exact ⟨q1, v, q2, q3.mono (same_upd l.1)⟩
    | ow => obtain ⟨v, q1, q2, q3⟩ := q; exact ⟨v, q1, q2.keep tk hk, q3⟩
    | on => obtain ⟨v, q1, q2, q3⟩ := q; exact ⟨v, q1, q2.keep tk hk, q3⟩
end
def keyD : Key → D
  | .inl i => .int i
  | .inr z => .str z
theorem keyD_is {Γ : Ga} {H : Hp} {k : Key} {v : V} (h : Is Γ H (keyD k) v) : v = kV k := by cases k <;> exact h
/-- the pairs of a display: the keys are written, f tells the values -/
def PuP (cm : Nat → Addr) (X : Cx) (pos : Pos) (keys : List (Option Expr)) (values : List Expr) (ks : List Key) (f : AF) : Prop :=
  ∃ trs, PPs X pos keys values trs ∧ ∀ (x : Fx) (B : Hp) (F : Nat → List Addr) (ρ : Ev) (σ : St) (H : Hp) (ds : List (D × Md)) (Q : List (V × V) → Hp → Prop), Ok (gx X cm) x B F ρ σ H → f ρ = some ds →
    (∀ vs B' H', Gr B H B' H' → Ok (gx X cm) x B' F ρ σ H' → ks.length = ds.length → Paired (fun (p : D × Md) v => Val (gx X cm) x p.2 B' H' p.1 v) ds vs → Q ((List.zip ks vs).map fun kv => (kV kv.1, kv.2)) H') → tPairs trs σ H Q
section
variable {cm : Nat → Addr} {X : Cx} {pos : Pos}
theorem pup_nil : PuP cm X pos [] [] [] aNil := ⟨_, pps_nil, fun x B F ρ σ H ds Q ok hf hQ => by
  cases hf
  exact hQ [] B H (Gr.refl B H) ok rfl .nil⟩
theorem aCons_some' {f : EF} {g : AF} {ρ : Ev} {ds : List (D × Md)} (h : aCons f g ρ = some ds) : ∃ d r, f ρ = some d ∧ g ρ = some r ∧ ds = d :: r := by
  unfold aCons at h
  cases e : f ρ with
  | none => rw [e] at h; cases h
  | some d =>
    rw [e] at h
    simp only [Option.bind_some] at h
    cases e2 : g ρ with
    | none => rw [e2] at h; cases h
    | some r => rw [e2] at h; cases h; exact ⟨d, r, rfl, rfl, rfl⟩
theorem pup_cons {k : Key} {ke ve : Expr} {keys : List (Option Expr)} {values : List Expr} {ks : List Key} {fv : EF} {f : AF} (hk : PuE cm X ke (eC (keyD k))) (hv : PuE cm X ve fv) (hr : PuP cm X pos keys values ks f) : PuP cm X pos (some ke :: keys) (ve :: values) (k :: ks) (aCons fv f) := by
  obtain ⟨tk, pk, qk⟩ := hk
  obtain ⟨tv, pv, qv⟩ := hv
  obtain ⟨tr, pr, qr⟩ := hr
  refine ⟨_, pps_cons pk pv pr, fun x B F ρ σ H ds Q ok hf hQ => ?_⟩
  obtain ⟨d, r, e1, e2, rfl⟩ := aCons_some' hf
  refine qk x B F ρ σ H (keyD k) .new _ ok rfl fun v B1 H1 g1 ok1 v1 => ?_
  have ev := keyD_is v1
  subst ev
  refine qv x B1 F ρ σ H1 d.1 d.2 _ ok1 e1 fun w B2 H2 g2 ok2 v2 => ?_
  refine qr x B2 F ρ σ H2 r _ ok2 e2 fun vs B3 H3 g3 ok3 hl hp => ?_
  exact hQ (w :: vs) B3 H3 (g1.trans (g2.trans g3)) ok3 (by rw [List.length_cons, List.length_cons, hl]) (.cons (v2.mono g3) hp)
theorem zip_keys {α : Type} : ∀ {ks : List Key} {vs : List α}, ks.length = vs.length → (List.zip ks vs).map (·.1) = ks
  | [], [], _ => rfl
  | k :: ks, v :: vs, h => by rw [List.zip_cons_cons, List.map_cons, zip_keys (by simpa using h)]
theorem mergeK_new : ∀ (more acc : List (Key × V)), (acc.map (·.1) ++ more.map (·.1)).Nodup → mergeK acc more = acc ++ more
  | [], acc, _ => by rw [List.append_nil]; rfl
  | p :: r, acc, h => by
    have e : putK acc p.1 p.2 = acc ++ [p] := by
      unfold putK
      have : (acc.any fun kv => decide (kv.1 = p.1)) = false := by
        rw [List.any_eq_false]
        intro kv hkv
        simp only [decide_eq_true_eq]
        intro e
        rw [List.map_cons] at h
        have := (List.nodup_append.mp h).2.2 kv.1 (List.mem_map_of_mem hkv) p.1 (by simp)
        exact this e
      rw [this]; rfl
    show mergeK (putK acc p.1 p.2) r = _
    rw [e, mergeK_new r]
    · simp
    · rw [List.map_append]
      simpa using h
def mkDic (ks : List Key) (ds : List D) : D := .dic (List.zip ks ds)
theorem isK_zip {Γ : Ga} {H : Hp} : ∀ {ks : List Key} {ds : List D} {vs : List V}, Iss Γ H ds vs → IsK Γ H (List.zip ks ds) (List.zip ks vs)
  | [], _, _, _ => by simp [IsK]
  | k :: ks, [], _, h => by rw [show _ = [] from h]; simp [IsK]
  | k :: ks, d :: ds, _, ⟨v, s, e, h1, h2⟩ => by
    subst e
    exact ⟨v, _, rfl, h1, isK_zip h2⟩
theorem pu_dict {keys : List (Option Expr)} {values : List Expr} {ks : List Key} {f : AF} (hp : PuP cm X pos keys values ks f) (hn : ks.Nodup) (hall : keys.all (·.isSome) = true := by rfl) (hl : keys.length = values.length := by rfl) (h0 : keys ≠ [] := by simp)
    (h15 : keys.length ≤ 15 := by decide) (hkl : ks.length = keys.length := by rfl) : PuE cm X (.Dict keys values pos) (eDisp (mkDic ks) f) := by
  obtain ⟨t, p, q⟩ := hp
  refine ⟨_, pe_disp p hall hl h0 h15, fun x B F ρ σ H d m Q ok hf hQ => ?_⟩
  unfold eDisp at hf
  cases ea : f ρ with
  | none => rw [ea] at hf; cases hf
  | some as =>
    rw [ea] at hf
    simp only [Option.bind_some] at hf
    split at hf
    · rename_i h
      cases hf
      intro l hlz
      obtain ⟨g1, ok1⟩ := ok.laidH (o := .dK []) hlz (fun xs z => nomatch z)
      refine q x B F ρ σ _ as _ ok1 ea fun vs B' H' g ok' hl2 hvs => ?_
      have hp : H' l = some (.dK []) := g.hh _ _ upd_same
      have hb : B' l = none := by
        cases e : B' l with
        | none => rfl
        | some u =>
          rcases g.new l u e with ⟨xs, rfl⟩ | h4 | h4
          · have := ok'.bh l _ e; rw [hp] at this; cases this
          · rw [Same.free ok.bh hlz] at h4; cases h4
          · rw [upd_same] at h4; cases h4
      have hlen : ks.length = vs.length := by rw [hl2]; exact paired_len hvs
      have lo : Loose x B' F l := ok'.loose ok hlz hb
      refine ⟨hp, List.zip ks vs, rfl, ?_, ?_⟩
      · rw [List.length_zip, ← hlen, Nat.min_self, hkl]; exact h15
      · have em : mergeK [] (List.zip ks vs) = List.zip ks vs := by
          rw [mergeK_new _ [] (by rw [zip_keys hlen]; simpa using hn)]; rfl
        rw [em]
        have ok2 := ok'.turn (w := .dK (List.zip ks vs)) hp (fun xs z => nomatch z) (fun xs z => nomatch z) lo
        refine hQ (.ref l) (upd B' l (.dK (List.zip ks vs))) _ ⟨fun b u e => ?_, (g1.trans g).bb.trans (same_upd hb), fun b u e => ?_⟩ ok2 ⟨l, List.zip ks vs, rfl, upd_same, ?_⟩
        · rw [upd_ne (fun q => by rw [q, hlz] at e; cases e)]
          exact (g1.trans g).hh b u e
        · by_cases q : b = l
          · subst q; exact .inr (.inr hlz)
          · rw [upd_ne q] at e; exact (g1.trans g).new b u e
        · exact isK_zip ((paired_issNew ok' h.1 hvs).mono (same_upd hb))
    · cases hf
end
end DL

/-! DL17: a text in lists and tuples of texts and nones. -/
namespace DL
open PySem L2
def oD : Option (List Nat) → D
  | none => .non
  | some c => .str (tx c)
def oP : Option (List Nat) → PyData
  | none => .none
  | some c => .str (tx c)
def oV : Option (List Nat) → V
  | none => .non
  | some c => .str (tx c)
theorem oD_flat (o : Option (List Nat)) : flat (oD o) = true := by cases o <;> rfl
theorem toPys_o : ∀ os : List (Option (List Nat)), toPys (os.map oD) = some (os.map oP)
  | [] => by simp [toPys]
  | none :: r => by rw [List.map_cons, toPys, toPys_o r]; simp [oD, toPy, oP]
  | some c :: r => by rw [List.map_cons, toPys, toPys_o r]; simp [oD, toPy, oP]
theorem atomsV_o : ∀ os : List (Option (List Nat)), atomsV (os.map oD) = some (os.map oV)
  | [] => rfl
  | none :: r => by rw [List.map_cons, atomsV, atomsV_o r]; rfl
  | some c :: r => by rw [List.map_cons, atomsV, atomsV_o r]; rfl
theorem tx_eq (a b : List Nat) : (tx a == tx b) = (a == b) := by
  by_cases h : a = b
  · subst h; simp
  · rw [beq_eq_false_iff_ne.mpr (fun e => h (tx_inj e)), beq_eq_false_iff_ne.mpr h]
theorem some_beq (a b : List Nat) : (some a == some b) = (a == b) := rfl
theorem eqv_o (o : Option (List Nat)) (c : List Nat) : PyData.eqv (oP o) (.str (tx c)) = (o == some c) := by
  cases o with
  | none => simp [oP, PyData.eqv]
  | some a => rw [some_beq, ← tx_eq]; simp [oP, PyData.eqv]
theorem eqV_o (o : Option (List Nat)) (c : List Nat) : eqV (oV o) (.str (tx c)) = (o == some c) := by
  cases o with
  | none => rfl
  | some a => rw [some_beq, ← tx_eq]; rfl
def okO (o : Option (List Nat)) : Bool := match o with
  | none => true
  | some c => okC c
theorem in_lst {c : List Nat} {os : List (Option (List Nat))} (hc : okC c = true) (ho : ∀ o ∈ os, okO o = true) : inB (.str (tx c)) (.lst (os.map oD)) = some (os.any (· == some c)) := by
  have hd : dk 64 (.lst (os.map oD)) = true := by
    show ((os.map oD).all (dk 63)) = true
    rw [List.all_eq_true]
    intro d hd
    simp only [List.mem_map] at hd
    obtain ⟨o, h1, rfl⟩ := hd
    cases o with
    | none => rfl
    | some a => exact tx_ok (ho _ h1)
  obtain ⟨p, h1, h2, h3⟩ := dk_py hd
  have e : toPy (.lst (os.map oD)) = some (.list (os.map oP)) := by rw [toPy, toPys_o]; rfl
  rw [e] at h1
  cases h1
  have s1 := shaped_of h2 h3 (Nat.le_refl _)
  have s2 : SeqAt.shaped (.str (tx c)) = true := shaped_of (k := 0) (by simpa [PyData.canLay0] using tx_ok hc) (by simp [PyData.depth]) (by omega)
  unfold inB
  simp only [toPys_o, show toPy (.str (tx c)) = some (.str (tx c)) by simp [toPy], Option.bind_some, s1, s2, and_self, if_true, List.any_map]
  congr 2
  funext o
  exact eqv_o o c
theorem in_tup {c : List Nat} {os : List (Option (List Nat))} : inB (.str (tx c)) (.tup (os.map oD)) = some (os.any (· == some c)) := by
  show ((atomV (.str (tx c))).bind fun v => (atomsV (os.map oD)).bind fun vs => some (inV v vs)) = _
  rw [atomsV_o, show atomV (.str (tx c)) = some (.str (tx c)) from rfl]
  simp only [Option.bind_some, inV, List.any_map]
  congr 2
  funext o
  exact eqV_o o c
theorem in_of {x c : D} {b : Bool} (h : inB x c = some b) : inD x c = some (.bl b) := by unfold inD; rw [h]; rfl
theorem nin_of {x c : D} {b : Bool} (h : inB x c = some b) : ninD x c = some (.bl (!b)) := by unfold ninD; rw [h]; rfl
theorem in_dic {x : Str} {kvs : List (Key × D)} {b : Bool} (h : (getK kvs (.inr x)).isSome = b) : inB (.str x) (.dic kvs) = some b := by
  show (some (getK kvs (.inr x)).isSome) = _
  rw [h]
theorem ix_dic {x : Str} {kvs : List (Key × D)} {d : D} (h : getK kvs (.inr x) = some d) : ixD (.dic kvs) (.str x) = some d := h
theorem sl_lst_lh {ds : List D} {a b : Nat} {i j : Int} (ei : i = (a : Nat)) (ej : j = (b : Nat)) (h : flats ds = true) : slD (.lst ds) (some i) (some j) = some (.lst ((ds.drop a).take (b - a))) := by
  subst ei; subst ej
  simp only [slD, h, if_true]
  congr 2
  unfold cutL
  rw [HT.sIx_nat, HT.sIx_nat]
  by_cases q : a ≤ ds.length
  · rw [Nat.min_eq_left q]
    by_cases q2 : b ≤ ds.length
    · rw [Nat.min_eq_left q2]
    · rw [Nat.min_eq_right (by omega), List.take_of_length_le (by simp), List.take_of_length_le (by simp; omega)]
  · rw [Nat.min_eq_right (show ds.length ≤ a by omega), List.drop_of_length_le (Nat.le_refl _), List.drop_of_length_le (by omega)]; simp
theorem sl_tup_lh {ds : List D} {a b : Nat} {i j : Int} (ei : i = (a : Nat)) (ej : j = (b : Nat)) (h : flats ds = true) : slD (.tup ds) (some i) (some j) = some (.tup ((ds.drop a).take (b - a))) := by
  have := sl_lst_lh ei ej h
  simp only [slD, h, if_true, Option.some.injEq, D.lst.injEq] at this ⊢
  rw [this]
end DL

/-! DL18: three at once. -/
namespace DL
open PySem L2
theorem sg_three {i j k : Nat} {a b c : D} {m : Md} {ρ : Ev} {Φ : Ev → Prop} {s t u : Sl} (h : ρ[i]? = some s) (h2 : freeS s = true) (f : flat a = true) (h' : (ρ.set i (.fn a))[j]? = some t) (h2' : freeS t = true) (f' : flat b = true)
    (h'' : ((ρ.set i (.fn a)).set j (.fn b))[k]? = some u) (h2'' : freeS u = true) (f'' : flat c = true)
    (hΦ : Φ (((ρ.set i (.fn a)).set j (.fn b)).set k (.fn c))) : Sg (gT 3 (gsCons i (gsCons j (gsCons k gsNil)))) (.tup [a, b, c]) m ρ Φ := by
  refine ⟨_, ?_, hΦ⟩
  show (setS i a (effm m a) ρ).bind (fun ρ' => (setS j b (effm m b) ρ').bind fun ρ'' => (setS k c (effm m c) ρ'').bind fun ρ3 => some ρ3) = _
  rw [setS_flat h h2 f, Option.bind_some, setS_flat h' h2' f', Option.bind_some, setS_flat h'' h2'' f'']; rfl
theorem se_unpS {f : EF} {g : GF} {ρ ρ' : Ev} {d : D} (h : Vf f ρ d) (hg : ∀ m, Sg g d m ρ fun ρ1 => ρ1 = ρ') : Se (sUnp f g) ρ (.nx ρ') := by
  obtain ⟨m, h⟩ := h
  obtain ⟨ρ1, h1, rfl⟩ := hg m
  exact se_unp h h1
theorem se_unp3 {i j k : Nat} {f : EF} {a b c : D} {ρ : Ev} {s t u : Sl} (hv : Vf f ρ (.tup [a, b, c])) (h : ρ[i]? = some s) (h2 : freeS s = true) (f1 : flat a = true) (h' : (ρ.set i (.fn a))[j]? = some t) (h2' : freeS t = true) (f' : flat b = true)
    (h'' : ((ρ.set i (.fn a)).set j (.fn b))[k]? = some u) (h2'' : freeS u = true) (f'' : flat c = true) : Se (sUnp f (gT 3 (gsCons i (gsCons j (gsCons k gsNil))))) ρ (.nx (((ρ.set i (.fn a)).set j (.fn b)).set k (.fn c))) :=
  se_unpS hv fun m => sg_three h h2 f1 h' h2' f' h'' h2'' f'' rfl
end DL
namespace DL
open PySem L2
/-- goes on, to a state of which Φ holds -/
def Sy (g : SF) (ρ : Ev) (Φ : Ev → Prop) : Prop := ∃ ρ', Se g ρ (.nx ρ') ∧ Φ ρ'
theorem sx_bind {g h : SF} {ρ : Ev} {Φ Ψ : Ev → Prop} (h1 : Sy g ρ Φ) (h2 : ∀ ρ', Φ ρ' → Sx h ρ' Ψ) : Sx (bSeq g h) ρ Ψ := by
  obtain ⟨ρ', a, b⟩ := h1
  exact sx_seq a (h2 ρ' b)
theorem sr_bind {g h : SF} {ρ : Ev} {d : D} {Φ : Ev → Prop} (h1 : Sy g ρ Φ) (h2 : ∀ ρ', Φ ρ' → Sr h ρ' d) : Sr (bSeq g h) ρ d := by
  obtain ⟨ρ', a, b⟩ := h1
  exact sr_seq a (h2 ρ' b)
theorem sp_bind {g h : SF} {ρ : Ev} {Φ : Ev → Prop} {Ψ : D → Prop} (h1 : Sy g ρ Φ) (h2 : ∀ ρ', Φ ρ' → Sp h ρ' Ψ) : Sp (bSeq g h) ρ Ψ := by
  obtain ⟨ρ', a, b⟩ := h1
  exact sp_seq a (h2 ρ' b)
theorem sy_bind {g h : SF} {ρ : Ev} {Φ Ψ : Ev → Prop} (h1 : Sy g ρ Φ) (h2 : ∀ ρ', Φ ρ' → Sy h ρ' Ψ) : Sy (bSeq g h) ρ Ψ := by
  obtain ⟨ρ', a, b⟩ := h1
  obtain ⟨ρ2, c, d⟩ := h2 ρ' b
  exact ⟨ρ2, se_seq a c, d⟩
theorem sy_seq {g h : SF} {ρ ρ' : Ev} {Ψ : Ev → Prop} (h1 : Se g ρ (.nx ρ')) (h2 : Sy h ρ' Ψ) : Sy (bSeq g h) ρ Ψ := by
  obtain ⟨ρ2, c, d⟩ := h2
  exact ⟨ρ2, se_seq h1 c, d⟩
theorem sy_end {g : SF} {ρ ρ' : Ev} {Ψ : Ev → Prop} (h1 : Se g ρ (.nx ρ')) (h2 : Ψ ρ') : Sy g ρ Ψ := ⟨_, h1, h2⟩
theorem sy_if {c : Ev → Option Bool} {g h : SF} {ρ : Ev} {Φ : Ev → Prop} {b : Bool} (h1 : Te c ρ b) (ht : b = true → Sy g ρ Φ) (hf : b = false → Sy h ρ Φ) : Sy (sIf c g h) ρ Φ := by
  cases b with
  | true => obtain ⟨ρ2, h2, h3⟩ := ht rfl; exact ⟨_, se_if_t h1 rfl h2, h3⟩
  | false => obtain ⟨ρ2, h2, h3⟩ := hf rfl; exact ⟨_, se_if_f h1 rfl h2, h3⟩
theorem sy_nil {ρ : Ev} {Φ : Ev → Prop} (h : Φ ρ) : Sy bNil ρ Φ := ⟨_, se_nil, h⟩
theorem sy_for {f : IF} {g : GF} {b : SF} {ρ : Ev} {ds : List D} {m : Md} (P : Nat → Ev → Prop) (hx : Xe f ρ ds m) (hm : notOwn m = true) (h0 : P 0 ρ)
    (hs : ∀ i d ρ, ds[i]? = some d → P i ρ → Sg g d (effm m d) ρ fun ρ1 => Sx b ρ1 (P (i + 1))) : Sy (sFor f g b) ρ (P ds.length) := by
  obtain ⟨ρ', h1, h2⟩ := se_for P hx hm h0 fun i d ρ e p => by
    obtain ⟨ρ1, q1, ρ2, q2, q3⟩ := hs i d ρ e p
    exact ⟨ρ1, ρ2, q1, q2, q3⟩
  exact ⟨ρ', h1, h2⟩
theorem Sy.imp {g : SF} {ρ : Ev} {Φ Ψ : Ev → Prop} (h : Sy g ρ Φ) (hi : ∀ ρ', Φ ρ' → Ψ ρ') : Sy g ρ Ψ := by
  obtain ⟨ρ', a, b⟩ := h
  exact ⟨ρ', a, hi _ b⟩
end DL

/-! DL19: d.get(k, x) of a dict that the module has written, at texts told ahead. -/
namespace DL
open PySem L2 PySem.Spec PyProof.Rows
def KEnt (K : PySem.W.Frag) (d : Addr) (p : Str × Option Int) : Prop := match p.2 with
  | some i => ∃ t, PySem.W.nsIn K d p.1 = some (some (.int i t))
  | none => PySem.W.nsIn K d p.1 = some none
def KTab (K : PySem.W.Frag) (w : World) (mg : Str → Option Value) (x : Str) (tab : List (Str × Option Int)) : Prop :=
  ∃ d es n, mg x = some (.ref d) ∧ KDict K w d es n ∧ ∀ p ∈ tab, KEnt K d p
def kgetD (tab : List (Str × Option Int)) (a b : D) : Option D := match a, b with
  | .str z, .int e => (tab.find? fun p => p.1 == z).map fun p => .int (p.2.getD e)
  | _, _ => none
def tKget (K : PySem.W.Frag) (d : Addr) (ta tb : TE) : TE := fun σ H Q => ta σ H fun y H1 => tb σ H1 fun z H2 => ∃ (p : Str × Option Int) (e : Int), y = .str p.1 ∧ z = .int e ∧ KEnt K d p ∧ Q (.int (p.2.getD e)) H2
section
variable {X : Cx} {o e f : Expr} {apos cpos : Pos} {ty tx : TE} {d : Addr} {es : Array DictEntry} {n : Nat}
theorem pe_kget2 (D : KDict X.K X.w d es n) (ho : PE X o (tC (.ref d))) (he : PE X e ty) (hf : PE X f tx) (m : M2 X o "get" apos e f cpos) : PE X (.Call (.Attribute o "get" apos) [e, f] [] cpos) (tKget X.K d ty tx) := by
  refine ⟨fun pins s σ H Q I h => ?_⟩
  refine wpAny_Call_method m.base m.few m.line PySem.F.plainAttrs_dict PySem.F.slot_dict_get PySem.F.type_dict_get (thn (ho.run pins s σ H (fun x H1 => x = .ref d ∧ tKget X.K d ty tx σ H1 Q) I ⟨rfl, h⟩) fun u s1 ⟨x, H1, I1, rx, ex, q1⟩ => ?_)
  subst ex
  obtain rfl : u = Value.ref d := rx
  have mo := PySem.W.mapOf_K (prog := X.prog) (w := X.w) I1.kIn D.at_ D.lit
  refine ⟨mo.typeIs, mo.noDict, ?_⟩
  rw [m.trees]
  refine Calls.callWith_builtin rfl (Calls.evalArgs_plain (Calls.spliced_cons (thn (he.run pins s1 σ H1 _ I1 q1) fun iv s2 ⟨y, H2, I2, ry, q2⟩ =>
    Calls.spliced_cons (thn (hf.run pins s2 σ H2 _ I2 q2) fun fv s3 ⟨z, H3, I3, rz, p, i, ey, ez, hp, q3⟩ => Calls.spliced_nil ?_))))
  subst ey
  subst ez
  obtain ⟨t, rfl⟩ := (show ∃ t, iv = Value.str p.1 t from ry)
  have mo3 := PySem.W.mapOf_K (prog := X.prog) (w := X.w) I3.kIn D.at_ D.lit
  obtain ⟨z, oi⟩ := p
  cases oi with
  | none =>
    refine call_meetsIn PySem.F.slot_dict_get mo3.typeIs PySem.F.entry_dict_get (PySem.F.args_dict_get_3 _ _ _) (meets_dict_get_default (strKind X.prog X.w) d (strKind_is X.prog X.w z t) D.low fv) ⟨_, mo3, ?_⟩
    rw [PySem.W.find_K D.at_ hp]
    exact ⟨.int i, H3, I3.tok _, rz, q3⟩
  | some j =>
    obtain ⟨t2, hp⟩ := hp
    refine call_meetsIn PySem.F.slot_dict_get mo3.typeIs PySem.F.entry_dict_get (PySem.F.args_dict_get_3 _ _ _) (meets_dict_get_default (strKind X.prog X.w) d (strKind_is X.prog X.w z t) D.low fv) ⟨_, mo3, ?_⟩
    rw [PySem.W.find_K D.at_ hp]
    exact ⟨.int j, H3, I3.tok _, ⟨t2, rfl⟩, q3⟩
end
section
variable {cm : Nat → Addr} {X : Cx} {e f : Expr} {fe ff : EF} {x : Str} {npos apos cpos : Pos} {tab : List (Str × Option Int)}
theorem pu_kget (T : KTab X.K X.w X.mg x tab) (he : PuE cm X e fe) (hf : PuE cm X f ff) (hg : Gl X x := by rfl) (hd : (x == ("__debug__" : Str)) = false := by decide) (m : M2 X (.Name x npos) "get" apos e f cpos := by exact ⟨rfl, rfl, rfl, rfl⟩) :
    PuE cm X (.Call (.Attribute (.Name x npos) "get" apos) [e, f] [] cpos) (e2 (kgetD tab) fe ff) := by
  obtain ⟨d, es, n, hm, D, ht⟩ := T
  obtain ⟨te, pe, qe⟩ := he
  obtain ⟨tf, pf, qf⟩ := hf
  refine ⟨_, pe_kget2 D (pe_glob hg hm rfl hd) pe pf m, fun x B F ρ σ H c m Q ok hv hQ => ?_⟩
  obtain ⟨a, m1, b, m2, ea, eb, ec, rfl⟩ := e2_some hv
  refine qe x B F ρ σ H a m1 _ ok ea fun v B1 H1 g1 ok1 v1 => ?_
  refine qf x B1 F ρ σ H1 b m2 _ ok1 eb fun w B2 H2 g2 ok2 v2 => ?_
  unfold kgetD at ec
  split at ec
  · rename_i z i
    cases q : tab.find? (fun p => p.1 == z) with
    | none => rw [q] at ec; cases ec
    | some p =>
      rw [q] at ec
      cases ec
      have hz : p.1 = z := by
        have := List.find?_some q
        simpa using this
      refine ⟨p, i, ?_, v2.is ok2, ht p (List.mem_of_find?_eq_some q), hQ _ B2 H2 (g1.trans g2) ok2 rfl⟩
      rw [hz]
      exact (v1.mono g2).is ok2
  · cases ec
end
end DL
namespace DL
open PySem L2 PySem.Spec PyProof.Rows
def KTab0 (K : PySem.W.Frag) (w : World) (x : Str) (tab : List (Str × Option Int)) : Prop :=
  ∃ d es n, PySem.W.nsIn K mainGlobals x = some (some (.ref d)) ∧ KDict K w d es n ∧ ∀ p ∈ tab, KEnt K d p
theorem KTab0.at_ {K : PySem.W.Frag} {w : World} {x : Str} {tab : List (Str × Option Int)} {h : Heap} {mg : Str → Option Value} (T : KTab0 K w x tab) (X : K.In h) (G : h.Ns mainGlobals mg) : KTab K w mg x tab := by
  obtain ⟨d, es, n, h1, h2, h3⟩ := T
  exact ⟨d, es, n, PySem.W.mg_of X G h1, h2, h3⟩
theorem kents_nil {K : PySem.W.Frag} {d : Addr} : ∀ p ∈ ([] : List (Str × Option Int)), KEnt K d p := fun _ h => by cases h
theorem kents_cons {K : PySem.W.Frag} {d : Addr} {p : Str × Option Int} {r : List (Str × Option Int)} (h : KEnt K d p) (h2 : ∀ p ∈ r, KEnt K d p) : ∀ q ∈ p :: r, KEnt K d q := fun q hq => by
  rcases List.mem_cons.mp hq with rfl | hq
  · exact h
  · exact h2 q hq
theorem kent_some {K : PySem.W.Frag} {d : Addr} {x : Str} {i : Int} {t : Nat} (h : PySem.W.nsIn K d x = some (some (.int i t))) : KEnt K d (x, some i) := ⟨t, h⟩
theorem kent_none {K : PySem.W.Frag} {d : Addr} {x : Str} (h : PySem.W.nsIn K d x = some none) : KEnt K d (x, none) := h
theorem ktab_mk {K : PySem.W.Frag} {w : World} {x : Str} {tab : List (Str × Option Int)} {d : Addr} {es : Array DictEntry} {n : Nat} (h1 : PySem.W.nsIn K mainGlobals x = some (some (.ref d))) (h2 : K.lookup d = some ⟨.type "dict", none, .dict es n, #[]⟩) (hk : PySem.W.KeysLit w.params es.toList) (lo : (d == sysModules) = false) (h3 : ∀ p ∈ tab, KEnt K d p) : KTab0 K w x tab :=
  ⟨d, es, n, h1, ⟨h2, hk, lo⟩, h3⟩
end DL

/-! DL20: a param's own thing is locked while a statement runs. -/
namespace DL
open PySem L2
def lkK (K H : Hp) (fp : List Addr) : Hp := fun a => match K a with
  | some o => some o
  | none => if a ∈ fp then H a else tupOf H a
section
variable {Γ : Ga} {x : Fx} {B : Hp} {F : Nat → List Addr} {ρ : Ev} {σ : St} {H : Hp}
theorem lkK_same {K : Hp} {fp : List Addr} (k : Same K H) : Same (lkK K H fp) H := fun a u e => by
  unfold lkK at e
  split at e
  · rename_i o q; cases e; exact k a _ q
  · split at e
    · exact e
    · exact tupOf_same a u e
theorem lkK_old {K : Hp} {fp : List Addr} : Same K (lkK K H fp) := fun a u e => by unfold lkK; rw [e]
theorem lkK_at {K : Hp} {fp : List Addr} (k : Same K H) {a : Addr} (ha : a ∈ fp) : lkK K H fp a = H a := by
  unfold lkK
  split
  · rename_i o q; rw [k a _ q]
  · rw [if_pos ha]
theorem lkK_tup {K : Hp} {fp : List Addr} (k : Same K H) : Same (tupOf H) (lkK K H fp) := fun a u e => by
  unfold lkK
  split
  · rename_i o q
    rw [← tupOf_same a u e, k a _ q]
  · split
    · exact tupOf_same a u e
    · exact e
theorem lkK_none {K : Hp} {fp : List Addr} {a : Addr} (h : K a = none) (hf : a ∉ fp) (hb : ∃ u, H a = some u ∧ Box u) : lkK K H fp a = none := by
  unfold lkK
  rw [h]
  simp only [if_neg hf]
  obtain ⟨u, hu, bx⟩ := hb
  cases q : tupOf H a with
  | none => rfl
  | some w =>
    obtain ⟨e1, xs, rfl⟩ := tupOf_some q
    rw [hu] at e1
    cases e1
    exact bx.elim
theorem Ok.lock (o : Ok Γ x B F ρ σ H) {i : Nat} {d : D} (h : ρ[i]? = some (.ow d)) : Ok Γ { x with Kp := lkK x.Kp H (F i) } B (offF F i) (ρ.set i (.fz d)) σ H where
  kp := lkK_same o.kp
  bh := o.bh
  tup := o.tup
  born := o.born
  bk := fun a u e => by
    rcases o.bk a u e with q | q
    · exact .inl q
    · by_cases ha : a ∈ F i
      · rw [(o.fk i a ha).2.1] at e; cases e
      · show _ ∨ lkK x.Kp H (F i) a = none
        unfold lkK
        rw [q]
        simp only [if_neg ha]
        cases z : tupOf H a with
        | none => exact .inr rfl
        | some w =>
          obtain ⟨e1, xs, rfl⟩ := tupOf_some z
          rw [o.bh a u e] at e1
          cases e1
          exact .inl ⟨xs, rfl⟩
  dom := o.dom
  fk := fun j a ha => by
    obtain ⟨ha, hj⟩ := offF_sub ha
    obtain ⟨h1, h2, h3⟩ := o.fk j a ha
    exact ⟨lkK_none h1 (fun z => hj (o.dj j i a ha z)) (o.box ha), h2, h3⟩
  dj := fun j k a h1 h2 => o.dj j k a (offF_sub h1).1 (offF_sub h2).1
  nd := fun j => by unfold offF; split; exact List.nodup_nil; exact o.nd j
  out := fun j hj => by
    rw [List.length_set] at hj
    unfold offF
    split
    · rfl
    · exact o.out j hj
  len := by rw [List.length_set, o.len]
  at_ := fun j s hs => by
    have hlt := (List.getElem?_eq_some_iff.mp h).1
    by_cases q : j = i
    · subst q
      rw [List.getElem?_set_self hlt] at hs
      cases hs
      rw [show offF F j j = [] from if_pos rfl]
      obtain ⟨v, hv, ho, h0⟩ := o.at_ j _ h
      exact ⟨rfl, v, hv, ho.isIn (lkK_tup o.kp) (fun a ha => lkK_at o.kp ha), h0⟩
    · rw [List.getElem?_set_ne (Ne.symm q)] at hs
      rw [show offF F i j = F j from if_neg q]
      have r := o.at_ j s hs
      cases s with
      | fz => obtain ⟨q1, v', q2, q3, q4⟩ := r; exact ⟨q1, v', q2, q3.mono lkK_old, q4⟩
      | fa => obtain ⟨q1, v', q2, q3⟩ := r; exact ⟨q1, v', q2, q3.mono lkK_old⟩
      | _ => exact r
/-- slots that only read: as they were; none that stands in the locked part -/
def relL : Ev → Ev → Prop
  | [], [] => True
  | s :: r, s1 :: r1 => (match s1 with
    | .fz d1 => s = .fz d1
    | .fa _ => False
    | _ => True) ∧ relL r r1
  | _, _ => False
theorem relL_at : ∀ {a b : Ev}, relL a b → ∀ {j : Nat} {s : Sl}, b[j]? = some s → (∀ d1, s = .fz d1 → a[j]? = some (.fz d1)) ∧ ∀ d1, s ≠ .fa d1
  | [], [], _, _, _, h => by simp at h
  | s :: r, s1 :: r1, h, 0, t, e => by
    simp at e
    subst e
    have h1 := h.1
    refine ⟨fun d1 q => ?_, fun d1 q => ?_⟩
    · subst q; rw [show s = .fz d1 from h1]; rfl
    · subst q; exact h1
  | s :: r, s1 :: r1, h, j + 1, t, e => by
    simpa using relL_at h.2 (j := j) (s := t) (by simpa using e)
  | [], _ :: _, h, _, _, _ => h.elim
  | _ :: _, [], h, _, _, _ => h.elim
theorem Ok.unlock (o : Ok Γ x B F ρ σ H) {i : Nat} {d : D} (h : ρ[i]? = some (.ow d)) {B1 : Hp} {F1 : Nat → List Addr} {ρ1 : Ev} {σ1 : St} {H1 : Hp} (o1 : Ok Γ { x with Kp := lkK x.Kp H (F i) } B1 F1 ρ1 σ1 H1)
    (hr : relL (ρ.set i (.fz d)) ρ1) (hi : ρ1[i]? = some (.fz d)) : Ok Γ x B1 (onF F1 i (F i)) (ρ1.set i (.ow d)) σ1 H1 := by
  obtain ⟨v, hv, ho, h0⟩ := o.at_ i _ h
  have hkeep : ∀ a ∈ F i, H1 a = H a := fun a ha => by
    obtain ⟨u, hu, _⟩ := o.box ha
    rw [hu]
    exact o1.kp a u (by show lkK x.Kp H (F i) a = some u; rw [lkK_at o.kp ha, hu])
  have hkp : ∀ a ∈ F i, lkK x.Kp H (F i) a ≠ none := fun a ha z => by
    obtain ⟨u, hu, _⟩ := o.box ha
    rw [lkK_at o.kp ha, hu] at z
    cases z
  have tk : TupK H H1 := fun a xs e => o1.kp a _ (by
    show lkK x.Kp H (F i) a = _
    exact lkK_tup o.kp a _ (tupOf_tup e))
  have hlt := (List.getElem?_eq_some_iff.mp hi).1
  have dis : ∀ j a, a ∈ F1 j → a ∉ F i := fun j a ha z => hkp a z (o1.fk j a ha).1
  exact {
    kp := (lkK_old).trans o1.kp
    bh := o1.bh
    tup := o1.tup
    born := o1.born
    bk := fun a u e => by
      rcases o1.bk a u e with q | q
      · exact .inl q
      · exact .inr (Same.free lkK_old q)
    dom := o1.dom
    fk := fun j a ha => by
      unfold onF at ha
      split at ha
      · obtain ⟨h1, h2, h3⟩ := o.fk i a ha
        refine ⟨h1, ?_, h3⟩
        cases z : B1 a with
        | none => rfl
        | some u =>
          rcases o1.bk a u z with ⟨xs, rfl⟩ | q
          · obtain ⟨w, hw, bx⟩ := o.box ha
            have := o1.bh a _ z
            rw [hkeep a ha, hw] at this
            cases this
            exact bx.elim
          · exact absurd q (hkp a ha)
      · obtain ⟨h1, h2, h3⟩ := o1.fk j a ha
        exact ⟨Same.free lkK_old h1, h2, h3⟩
    dj := fun j k a h1 h2 => by
      unfold onF at h1 h2
      split at h1
      · split at h2
        · rename_i q1 q2; rw [q1, q2]
        · exact absurd h1 (dis k a h2)
      · split at h2
        · exact absurd h2 (dis j a h1)
        · exact o1.dj j k a h1 h2
    nd := fun j => by
      unfold onF
      split
      · exact o.nd i
      · exact o1.nd j
    out := fun j hj => by
      rw [List.length_set] at hj
      unfold onF
      split
      · omega
      · exact o1.out j hj
    len := by rw [List.length_set, o1.len]
    at_ := fun j s hs => by
      by_cases q : j = i
      · subst q
        rw [List.getElem?_set_self hlt] at hs
        cases hs
        rw [show onF F1 j (F j) j = F j from if_pos rfl]
        obtain ⟨_, v1, hv1, _, h01⟩ := o1.at_ j _ hi
        have ev : v1 = v := by
          have h01' : x.s0[j]? = some (some v1) := h01
          rw [h0] at h01'
          cases h01'; rfl
        subst ev
        exact ⟨v1, hv1, ho.keep tk hkeep, h0⟩
      · rw [List.getElem?_set_ne (Ne.symm q)] at hs
        rw [show onF F1 i (F i) j = F1 j from if_neg q]
        have r := o1.at_ j s hs
        obtain ⟨r1, r2⟩ := relL_at hr hs
        cases s with
        | fz d1 =>
          have e := r1 d1 rfl
          rw [List.getElem?_set_ne (Ne.symm q)] at e
          obtain ⟨_, v0, e1, e2, e3⟩ := o.at_ j _ e
          obtain ⟨q1, v', q2, q3, q4⟩ := r
          have ev : v' = v0 := by
            have q4' : x.s0[j]? = some (some v') := q4
            rw [e3] at q4'
            cases q4'; rfl
          subst ev
          exact ⟨q1, v', q2, e2, q4⟩
        | fa d1 => exact absurd rfl (r2 d1)
        | _ => exact r }
end
end DL
namespace DL
open PySem L2
def Fl.st : Fl → Ev
  | .nx ρ => ρ
  | .rt _ ρ => ρ
  | .bk ρ => ρ
  | .ct ρ => ρ
def Fl.put : Fl → Ev → Fl
  | .nx _, ρ => .nx ρ
  | .rt d _, ρ => .rt d ρ
  | .bk _, ρ => .bk ρ
  | .ct _, ρ => .ct ρ
open Classical in
noncomputable def unl (ρ0 : Ev) (i : Nat) (d : D) (r : Fl) : Option Fl := if relL ρ0 r.st ∧ r.st[i]? = some (.fz d) then some (r.put (r.st.set i (.ow d))) else none
/-- the statement runs while slot i's thing is only read -/
noncomputable def sLock (i : Nat) (g : SF) : SF := fun ρ => match ρ[i]? with
  | some (.ow d) => (g (ρ.set i (.fz d))).bind fun r => unl (ρ.set i (.fz d)) i d r
  | _ => none
theorem pus_lock (i : Nat) {cm : Nat → Addr} {X : Cx} {st : Stmt} {g : SF} (h : PuS cm X st g) : PuS cm X st (sLock i g) := by
  obtain ⟨t, p, q⟩ := h
  refine ⟨t, p, fun x B F ρ σ H r E ok hf hE => ?_⟩
  unfold sLock at hf
  split at hf
  · rename_i d hd
    cases e : g (ρ.set i (.fz d)) with
    | none => rw [e] at hf; cases hf
    | some r0 =>
      rw [e] at hf
      simp only [Option.bind_some] at hf
      unfold unl at hf
      split at hf
      · rename_i hc
        obtain ⟨hr, hi⟩ := hc
        cases hf
        refine q _ B _ _ σ H r0 E (ok.lock hd) e ?_
        cases r0 with
        | nx ρ1 => exact fun B1 F1 σ1 H1 s o1 => hE B1 _ σ1 H1 s (ok.unlock hd o1 hr hi)
        | bk ρ1 => exact fun B1 F1 σ1 H1 s o1 => hE B1 _ σ1 H1 s (ok.unlock hd o1 hr hi)
        | ct ρ1 => exact fun B1 F1 σ1 H1 s o1 => hE B1 _ σ1 H1 s (ok.unlock hd o1 hr hi)
        | rt c ρ1 => exact fun v B1 F1 σ1 H1 s o1 hv => hE v B1 _ σ1 H1 s (ok.unlock hd o1 hr hi) hv
      · cases hf
  · cases hf
theorem se_lock {i : Nat} {g : SF} {ρ : Ev} {d : D} {r : Fl} (h : ρ[i]? = some (.ow d)) (hg : Se g (ρ.set i (.fz d)) r) (hr : relL (ρ.set i (.fz d)) r.st) (hi : r.st[i]? = some (.fz d)) : Se (sLock i g) ρ (r.put (r.st.set i (.ow d))) := by
  unfold Se at *
  unfold sLock
  rw [h]
  simp only [hg, Option.bind_some]
  unfold unl
  rw [if_pos ⟨hr, hi⟩]
end DL

/-! DL21: defs that change some of their arguments. -/
namespace DL
open PySem L2
section
open Classical in
noncomputable def outF (H : Hp) (F : Nat → List Addr) : Hp := fun a => if ∃ i, a ∈ F i then none else H a
variable {H : Hp} {F : Nat → List Addr} {a : Addr}
theorem outF_in {i : Nat} (h : a ∈ F i) : outF H F a = none := if_pos ⟨i, h⟩
theorem outF_at (h : ∀ i, a ∉ F i) : outF H F a = H a := if_neg fun ⟨i, z⟩ => h i z
theorem outF_same : Same (outF H F) H := fun a u e => by
  unfold outF at e
  split at e
  · cases e
  · exact e
end
theorem get_ex {α : Type} {l : List α} {i : Nat} (h : i < l.length) : ∃ v, l[i]? = some v := ⟨l[i], List.getElem?_eq_getElem h⟩
/-- the arguments ahead of the call: those of the mask are one's own -/
structure InC (Γ : Ga) (ms : List Bool) (H : Hp) (F : Nat → List Addr) (ds : List D) (vs : List V) : Prop where
  len : vs.length = ds.length
  lm : ms.length = ds.length
  own : ∀ {i : Nat} {d : D} {v : V}, ms[i]? = some true → ds[i]? = some d → vs[i]? = some v → Own Γ H d v (F i)
  rd : ∀ {i : Nat} {d : D} {v : V}, ms[i]? = some false → ds[i]? = some d → vs[i]? = some v → Is Γ (outF H F) d v
  off : ∀ i : Nat, ms[i]? ≠ some true → F i = []
  nd : ∀ i, (F i).Nodup
  dj : ∀ i j a, a ∈ F i → a ∈ F j → i = j
/-- what is known behind the call -/
structure Left (Γ : Ga) (ms : List Bool) (H H' : Hp) (F F' : Nat → List Addr) (ds' : List D) (vs : List V) (B' : Hp) (r : D) (w : V) : Prop where
  out : Same (outF H F) H'
  len : ds'.length = ms.length
  own : ∀ {i : Nat} {d : D} {v : V}, ms[i]? = some true → ds'[i]? = some d → vs[i]? = some v → Own Γ H' d v (F' i)
  off : ∀ i : Nat, ms[i]? ≠ some true → F' i = []
  nd : ∀ i, (F' i).Nodup
  dj : ∀ i j a, a ∈ F' i → a ∈ F' j → i = j
  new : ∀ i a, a ∈ F' i → (∃ j, a ∈ F j) ∨ H a = none
  bh : Same B' H'
  bn : ∀ a u, B' a = some u → (∃ xs, u = .tup xs) ∨ H a = none
  bf : ∀ i a, a ∈ F' i → B' a = none
  dom : ∀ a, H' a = none → H a = none
  tup : ∀ a xs, H' a = some (.tup xs) → B' a = some (.tup xs)
  ret : Is Γ B' r w
def spC (K : PySem.W.Frag) (cm : Nat → Addr) (ms : List Bool) (f : List D → Option (D × List D)) : L2.Sp := fun vs H Q _ => ∃ ds F r ds', InC ⟨K, cm⟩ ms H F ds vs ∧ f ds = some (r, ds') ∧
  ∀ w H' F' B', Left ⟨K, cm⟩ ms H H' F F' ds' vs B' r w → Q w H'
def mslots (ms : List Bool) (ds : List D) : Ev := List.zipWith (fun (m : Bool) (d : D) => if m = true then Sl.ow d else Sl.fz d) ms ds
def entC (ms : List Bool) (n : Nat) (ds : List D) : Ev := mslots ms ds ++ List.replicate (n - ds.length) .emp
def outs : List Bool → Ev → Option (List D)
  | [], _ => some []
  | true :: ms, .ow d :: ρ => (outs ms ρ).map fun r => d :: r
  | false :: ms, _ :: ρ => (outs ms ρ).map fun r => .non :: r
  | _, _ => none
theorem outs_some : ∀ {ms : List Bool} {ρ : Ev} {ds : List D}, outs ms ρ = some ds → ds.length = ms.length ∧ ∀ {i : Nat} {d : D}, ms[i]? = some true → ds[i]? = some d → ρ[i]? = some (.ow d)
  | [], _, _, h => by cases h; exact ⟨rfl, fun h _ => by simp at h⟩
  | true :: ms, .ow c :: ρ, ds, h => by
    rw [outs] at h
    cases e : outs ms ρ with
    | none => rw [e] at h; cases h
    | some r =>
      rw [e] at h
      cases h
      obtain ⟨h1, h2⟩ := outs_some e
      refine ⟨by simp [h1], fun {i d} hm hd => ?_⟩
      cases i with
      | zero => cases hd; rfl
      | succ i => exact h2 (by simpa using hm) (by simpa using hd)
  | false :: ms, s :: ρ, ds, h => by
    rw [outs] at h
    cases e : outs ms ρ with
    | none => rw [e] at h; cases h
    | some r =>
      rw [e] at h
      cases h
      obtain ⟨h1, h2⟩ := outs_some e
      refine ⟨by simp [h1], fun {i d} hm hd => ?_⟩
      cases i with
      | zero => cases hm
      | succ i => exact h2 (by simpa using hm) (by simpa using hd)
  | true :: _, [], _, h => by simp [outs] at h
  | false :: _, [], _, h => by simp [outs] at h
  | true :: _, .emp :: _, _, h => by simp [outs] at h
  | true :: _, .fz _ :: _, _, h => by simp [outs] at h
  | true :: _, .fa _ :: _, _, h => by simp [outs] at h
  | true :: _, .fn _ :: _, _, h => by simp [outs] at h
  | true :: _, .on _ :: _, _, h => by simp [outs] at h
/-- what the body b says of the arguments: what is given back, the changed ones behind -/
def fnC (n : Nat) (ms : List Bool) (b : SF) : List D → Option (D × List D) := fun ds => if ds.length = ms.length then (b (entC ms n ds)).bind fun r => match r with
    | .rt c ρ => (outs ms ρ).map fun d' => (c, d')
    | .nx ρ => (outs ms ρ).map fun d' => (.non, d')
    | _ => none else none
theorem mslots_length {ms : List Bool} {ds : List D} (h : ms.length = ds.length) : (mslots ms ds).length = ds.length := by simp [mslots, h]
theorem mslots_get {ms : List Bool} {ds : List D} {i : Nat} {s : Sl} (h : (mslots ms ds)[i]? = some s) : ∃ m d, ms[i]? = some m ∧ ds[i]? = some d ∧ s = if m = true then Sl.ow d else .fz d := by
  unfold mslots at h
  rw [List.getElem?_zipWith] at h
  cases e1 : ms[i]? with
  | none => rw [e1] at h; cases h
  | some m =>
    cases e2 : ds[i]? with
    | none => rw [e1, e2] at h; cases h
    | some d => rw [e1, e2] at h; cases h; exact ⟨m, d, rfl, rfl, rfl⟩
theorem ok_startC {K : PySem.W.Frag} {cm : Nat → Addr} {H : Hp} {F : Nat → List Addr} {ms : List Bool} {ds : List D} {vs : List V} {N : List Str} (h : InC ⟨K, cm⟩ ms H F ds vs) (hl : ds.length ≤ N.length) :
    Ok ⟨K, cm⟩ ⟨H, outF H F, fun a => ∃ i, a ∈ F i, L2.start N vs⟩ (tupOf H) F (entC ms N.length ds) (L2.start N vs) H where
  kp := outF_same
  bh := tupOf_same
  tup := fun a xs e => tupOf_tup e
  born := fun a o e => .inl (tupOf_some e).2
  bk := fun a o e => .inl (tupOf_some e).2
  dom := fun a e => e
  fk := fun i a ha => by
    refine ⟨outF_in ha, ?_, .inl ⟨i, ha⟩⟩
    have hm : ms[i]? = some true := Classical.byContradiction fun z => by rw [h.off i z] at ha; cases ha
    have hi := (List.getElem?_eq_some_iff.mp hm).1
    obtain ⟨di, e1⟩ := get_ex (l := ds) (i := i) (by rw [← h.lm]; exact hi)
    obtain ⟨vi, e2⟩ := get_ex (l := vs) (i := i) (by rw [h.len, ← h.lm]; exact hi)
    obtain ⟨u, hu, bx⟩ := (h.own hm e1 e2).box a ha
    cases q : tupOf H a with
    | none => rfl
    | some w =>
      obtain ⟨e1, xs, rfl⟩ := tupOf_some q
      rw [hu] at e1
      cases e1
      exact bx.elim
  dj := h.dj
  nd := h.nd
  out := fun i hi => h.off i fun z => by
    have := (List.getElem?_eq_some_iff.mp z).1
    unfold entC at hi
    rw [List.length_append, mslots_length h.lm] at hi
    have := h.lm
    omega
  len := by
    unfold entC L2.start
    rw [List.length_append, mslots_length h.lm]
    simp [h.len]
  at_ := fun i s e => by
    unfold entC at e
    by_cases q : i < ds.length
    · rw [List.getElem?_append_left (by rw [mslots_length h.lm]; exact q)] at e
      obtain ⟨m, d, hm, hd, rfl⟩ := mslots_get e
      obtain ⟨vi, ev⟩ := get_ex (l := vs) (i := i) (by rw [h.len]; exact q)
      have e0 : (L2.start N vs)[i]? = some (some vi) := by
        unfold L2.start
        rw [List.getElem?_append_left (by simpa [h.len] using q), List.getElem?_map, ev]; rfl
      cases m with
      | true => exact ⟨_, e0, h.own hm hd ev, e0⟩
      | false => exact ⟨h.off i (by rw [hm]; simp), _, e0, h.rd hm hd ev, e0⟩
    · rw [List.getElem?_append_right (by rw [mslots_length h.lm]; omega)] at e
      have := List.mem_of_getElem? e
      rw [List.eq_of_mem_replicate this]
      refine h.off i fun z => ?_
      have := (List.getElem?_eq_some_iff.mp z).1
      have := h.lm
      omega
open Classical in
noncomputable def maskF (ms : List Bool) (F : Nat → List Addr) : Nat → List Addr := fun i => if (ms[i]? : Option Bool) = some true then F i else []
theorem maskF_mem {ms : List Bool} {F : Nat → List Addr} {i : Nat} {a : Addr} (h : a ∈ maskF ms F i) : a ∈ F i ∧ ms[i]? = some true := by
  unfold maskF at h
  split at h
  · rename_i q; exact ⟨h, q⟩
  · cases h
theorem ok_leftC {K : PySem.W.Frag} {cm : Nat → Addr} {H H' B : Hp} {ms : List Bool} {ds : List D} {vs : List V} {F0 : Nat → List Addr} {N : List Str} {F : Nat → List Addr} {ρ : Ev} {σ : St} {ds' : List D} {r : D} {w : V} (hi : InC ⟨K, cm⟩ ms H F0 ds vs) (hl : ds.length ≤ N.length)
    (o : Ok ⟨K, cm⟩ ⟨H, outF H F0, fun a => ∃ i, a ∈ F0 i, L2.start N vs⟩ B F ρ σ H') (hd : outs ms ρ = some ds') (hr : Is ⟨K, cm⟩ B r w) : Left ⟨K, cm⟩ ms H H' F0 (maskF ms F) ds' vs B r w := by
  obtain ⟨h1, h2⟩ := outs_some hd
  refine ⟨o.kp, h1, fun {i d v} hm hd hv => ?_, fun i z => if_neg z, fun i => ?_, fun i j a ha hb => o.dj i j a (maskF_mem ha).1 (maskF_mem hb).1, fun i a ha => (o.fk i a (maskF_mem ha).1).2.2, o.bh, o.born, fun i a ha => (o.fk i a (maskF_mem ha).1).2.1, o.dom, o.tup, hr⟩
  · obtain ⟨v', q1, q2, q3⟩ := o.at_ i _ (h2 hm hd)
    have q3' : (L2.start N vs)[i]? = some (some v') := q3
    have e0 : (L2.start N vs)[i]? = some (some v) := by
      have := (List.getElem?_eq_some_iff.mp hv).1
      unfold L2.start
      rw [List.getElem?_append_left (by simpa using this), List.getElem?_map, hv]; rfl
    rw [e0] at q3'
    cases q3'
    rw [show maskF ms F i = F i from if_pos hm]
    exact q2
  · unfold maskF
    split
    · exact o.nd i
    · exact List.nodup_nil
theorem fn_chg {P : Program} {w : World} {K : PySem.W.Frag} {mg : Str → Option Value} {base : Heap} {cm : Nat → Addr} {x qual : Str} {st : Stmt} {f : Addr} {fd : FuncData} {N ps : List Str} {k : Nat} {ms : List Bool} {b : SF} (F : Fun K x qual st f fd) (S : FnScope N ps (defScope st)) (hN : ps.length ≤ N.length) (hm : ms.length = ps.length)
    (hb : ∀ (cdv : Value) (A : Around) (outer : List Env) (s : Shared) (H : Hp) (E : XK), Room k (A.deeper (PyProof.Rows.envOfC qual (defScope st) s.heap.objs.size f cdv)) → PuB cm (cxOf CX0 P w K mg base N qual (defScope st) f cdv A outer s H E).nox (defBody st) b) :
    FnOk P w K mg base CX0 (k + 1) f fd ps (spC K cm ms (fnC N.length ms b)) := by
  refine F.ok S (fun vs H Q E h => ?_) (fun cdv A outer s H vs Q E hr h => ?_)
  · obtain ⟨ds, F0, r, ds', h1, _⟩ := h
    rw [h1.len, ← h1.lm, hm]
  · obtain ⟨ds, F0, r, ds', h1, h4, h5⟩ := h
    have hl : ds.length ≤ N.length := by rw [← h1.lm, hm]; exact hN
    unfold fnC at h4
    split at h4
    · obtain ⟨t, p, q⟩ := hb cdv A outer s H E hr
      cases e1 : b (entC ms N.length ds) with
      | none => rw [e1] at h4; cases h4
      | some rr =>
        rw [e1] at h4
        simp only [Option.bind_some] at h4
        refine ⟨t, p, q _ _ _ _ _ _ rr _ (ok_startC (N := N) h1 hl) e1 ?_⟩
        cases rr with
        | nx ρ =>
          simp only at h4
          cases z : outs ms ρ with
          | none => rw [z] at h4; cases h4
          | some c => rw [z] at h4; cases h4; exact fun B F σ H' s ok => h5 _ _ _ _ (ok_leftC h1 hl ok z (w := .non) rfl)
        | rt c ρ =>
          simp only at h4
          cases z : outs ms ρ with
          | none => rw [z] at h4; cases h4
          | some c2 => rw [z] at h4; cases h4; exact fun v B F σ H' s ok hi => h5 _ _ _ _ (ok_leftC h1 hl ok z hi)
        | bk => cases h4
        | ct => cases h4
    · cases h4
end DL

/-! DL22: calls that change things of one's own. -/
namespace DL
open PySem L2
/-- an argument: the whole own thing of a slot, or something read -/
inductive Ag where
  | own (i : Nat) | rd (d : D) (m : Md)
def Ag.isOwn : Ag → Bool
  | .own _ => true
  | .rd _ _ => false
def AgV (Γ : Ga) (x : Fx) (σ : St) (B H : Hp) : Ag → V → Prop
  | .own i, v => σ[i]? = some (some v)
  | .rd d m, v => Val Γ x m B H d v
abbrev CF := Ev → Option (List Ag)
def PuC (cm : Nat → Addr) (X : Cx) (es : List Expr) (f : CF) : Prop :=
  ∃ t, PA X es t ∧ ∀ (x : Fx) (B : Hp) (F : Nat → List Addr) (ρ : Ev) (σ : St) (H : Hp) (as : List Ag) (Q : List V → Hp → Prop), Ok (gx X cm) x B F ρ σ H → f ρ = some as →
    (∀ vs B' H', Gr B H B' H' → Ok (gx X cm) x B' F ρ σ H' → Paired (AgV (gx X cm) x σ B' H') as vs → Q vs H') → t σ H Q
def cNil : CF := fun _ => some []
def cOwn (i : Nat) (g : CF) : CF := fun ρ => (ownD ρ i).bind fun _ => (g ρ).map fun r => .own i :: r
def cRd (f : EF) (g : CF) : CF := fun ρ => (f ρ).bind fun a => (g ρ).map fun r => .rd a.1 a.2 :: r
section
variable {cm : Nat → Addr} {X : Cx} {pos : Pos} {e : Expr} {es : List Expr}
theorem puc_nil : PuC cm X [] cNil := ⟨_, pa_nil, fun x B F ρ σ H ds Q ok hf hQ => by cases hf; exact hQ [] B H (Gr.refl B H) ok .nil⟩
theorem AgV.mono {Γ : Ga} {x : Fx} {σ : St} {B H B' H' : Hp} (g : Gr B H B' H') {a : Ag} {v : V} (h : AgV Γ x σ B H a v) : AgV Γ x σ B' H' a v := by
  cases a with
  | own i => exact h
  | rd d m => exact Val.mono g h
theorem puc_own (i : Nat) {x : Str} {p1 : Pos} {g : CF} (hr : PuC cm X es g) (hN : X.N[i]? = some x := by rfl) (hv : Vis X.env.scope x := by first | exact Or.inl rfl | exact Or.inr (Or.inl rfl) | exact Or.inr (Or.inr rfl))
    (hd : (x == ("__debug__" : Str)) = false := by decide) (hcd : (x == ("__classdict__" : Str)) = false := by decide) (hs : starEach (.Name x p1 :: es) X.env = (false, eval (.Name x p1) X.env) :: starEach es X.env := by rfl) : PuC cm X (.Name x p1 :: es) (cOwn i g) := by
  obtain ⟨u, p2, q2⟩ := hr
  refine ⟨_, pa_cons (pe_var hN hv hd hcd) p2 hs, fun z B F ρ σ H as Q ok hf hQ => ?_⟩
  unfold cOwn at hf
  cases e1 : ownD ρ i with
  | none => rw [e1] at hf; cases hf
  | some d =>
    rw [e1] at hf
    simp only [Option.bind_some] at hf
    cases e2 : g ρ with
    | none => rw [e2] at hf; cases hf
    | some r =>
      rw [e2] at hf
      cases hf
      obtain ⟨v, hσ, _⟩ := ok.own e1
      refine ⟨v, hσ, ?_⟩
      exact q2 z B F ρ σ H r _ ok e2 fun vs B' H' g1 ok1 hvs => hQ (v :: vs) B' H' g1 ok1 (.cons hσ hvs)
theorem puc_rd {f : EF} {g : CF} (ha : PuE cm X e f) (hr : PuC cm X es g) (hs : starEach (e :: es) X.env = (false, eval e X.env) :: starEach es X.env := by rfl) : PuC cm X (e :: es) (cRd f g) := by
  obtain ⟨t, p, q⟩ := ha
  obtain ⟨u, p2, q2⟩ := hr
  refine ⟨_, pa_cons p p2 hs, fun z B F ρ σ H as Q ok hf hQ => ?_⟩
  unfold cRd at hf
  cases e1 : f ρ with
  | none => rw [e1] at hf; cases hf
  | some a =>
    rw [e1] at hf
    simp only [Option.bind_some] at hf
    cases e2 : g ρ with
    | none => rw [e2] at hf; cases hf
    | some r =>
      rw [e2] at hf
      cases hf
      refine q z B F ρ σ H a.1 a.2 _ ok e1 fun v B1 H1 g1 ok1 hv => ?_
      exact q2 z B1 F ρ σ H1 r _ ok1 e2 fun vs B' H' g2 ok2 hvs => hQ (v :: vs) B' H' (g1.trans g2) ok2 (.cons (Val.mono g2 hv) hvs)
end
/-- the place of the argument that is slot k -/
def ixOf : List Ag → Nat → Option Nat
  | [], _ => none
  | .own i :: r, k => if i = k then some 0 else (ixOf r k).map (· + 1)
  | .rd _ _ :: r, k => (ixOf r k).map (· + 1)
def osl : List Ag → List Nat
  | [] => []
  | .own i :: r => i :: osl r
  | .rd _ _ :: r => osl r
theorem ixOf_some : ∀ {as : List Ag} {k j : Nat}, ixOf as k = some j → as[j]? = some (.own k)
  | [], _, _, h => by simp [ixOf] at h
  | .own i :: r, k, j, h => by
    rw [ixOf] at h
    split at h
    · rename_i q; cases h; subst q; rfl
    · cases e : ixOf r k with
      | none => rw [e] at h; cases h
      | some j' => rw [e] at h; cases h; simpa using ixOf_some e
  | .rd _ _ :: r, k, j, h => by
    rw [ixOf] at h
    cases e : ixOf r k with
    | none => rw [e] at h; cases h
    | some j' => rw [e] at h; cases h; simpa using ixOf_some e
theorem ixOf_none : ∀ {as : List Ag} {k : Nat}, ixOf as k = none → ∀ j : Nat, as[j]? ≠ some (Ag.own k)
  | [], _, _, j => by simp
  | .own i :: r, k, h, j => by
    rw [ixOf] at h
    split at h
    · cases h
    · rename_i q
      cases e : ixOf r k with
      | some j' => rw [e] at h; cases h
      | none =>
        cases j with
        | zero => intro z; cases z; exact q rfl
        | succ j => exact ixOf_none e j
  | .rd _ _ :: r, k, h, j => by
    rw [ixOf] at h
    cases e : ixOf r k with
    | some j' => rw [e] at h; cases h
    | none =>
      cases j with
      | zero => intro z; cases z
      | succ j => exact ixOf_none e j
theorem osl_mem : ∀ {as : List Ag} {j i : Nat}, as[j]? = some (.own i) → i ∈ osl as
  | [], _, _, h => by simp at h
  | .own i :: r, 0, k, h => by cases h; simp [osl]
  | .own i :: r, j + 1, k, h => by simp only [osl, List.mem_cons]; exact .inr (osl_mem (by simpa using h))
  | .rd _ _ :: r, 0, k, h => by cases h
  | .rd _ _ :: r, j + 1, k, h => osl_mem (as := r) (j := j) (by simpa using h)
theorem ixOf_of : ∀ {as : List Ag} {j k : Nat}, (osl as).Nodup → as[j]? = some (.own k) → ixOf as k = some j
  | [], _, _, _, h => by simp at h
  | .own i :: r, 0, k, _, h => by cases h; simp [ixOf]
  | .own i :: r, j + 1, k, n, h => by
    simp only [osl, List.nodup_cons] at n
    have h' : r[j]? = some (.own k) := by simpa using h
    have hk := osl_mem h'
    rw [ixOf, if_neg (fun z => n.1 (by rw [z]; exact hk)), ixOf_of n.2 h']; rfl
  | .rd _ _ :: r, 0, k, _, h => by cases h
  | .rd _ _ :: r, j + 1, k, n, h => by
    rw [ixOf, ixOf_of (as := r) (j := j) n (by simpa using h)]; rfl
/-- what the arguments are -/
def dsOf (ρ : Ev) : List Ag → Option (List D)
  | [] => some []
  | .own i :: r => (ownD ρ i).bind fun d => (dsOf ρ r).map fun ds => d :: ds
  | .rd d m :: r => if (flat d || notOwn m) = true then (dsOf ρ r).map fun ds => d :: ds else none
def putS (s : Sl) (d : D) : Sl := match s with
  | .ow _ => .ow d
  | .on _ => .on d
  | s => s
/-- the slots behind the call -/
def backC (ρ : Ev) (as : List Ag) (ds' : List D) : Ev := ρ.mapIdx fun k s => match ixOf as k with
  | some j => match ds'[j]? with
    | some d => putS s d
    | none => s
  | none => s
theorem dsOf_own {ρ : Ev} : ∀ {as : List Ag} {ds : List D} {j i : Nat} {d : D}, dsOf ρ as = some ds → as[j]? = some (.own i) → ds[j]? = some d → ownD ρ i = some d
  | [], _, _, _, _, _, h, _ => by simp at h
  | .own i0 :: r, ds, j, i, d, h, h1, h2 => by
    rw [dsOf] at h
    cases e1 : ownD ρ i0 with
    | none => rw [e1] at h; cases h
    | some c =>
      cases e2 : dsOf ρ r with
      | none => rw [e1, e2] at h; cases h
      | some cs =>
        rw [e1, e2] at h
        cases h
        cases j with
        | zero => cases h1; cases h2; exact e1
        | succ j => exact dsOf_own e2 (by simpa using h1) (by simpa using h2)
  | .rd c m :: r, ds, j, i, d, h, h1, h2 => by
    rw [dsOf] at h
    split at h
    · cases e2 : dsOf ρ r with
      | none => rw [e2] at h; cases h
      | some cs =>
        rw [e2] at h
        cases h
        cases j with
        | zero => cases h1
        | succ j => exact dsOf_own e2 (by simpa using h1) (by simpa using h2)
    · cases h
theorem dsOf_rd {ρ : Ev} : ∀ {as : List Ag} {ds : List D} {j : Nat} {d c : D} {m : Md}, dsOf ρ as = some ds → as[j]? = some (.rd c m) → ds[j]? = some d → d = c ∧ (flat d || notOwn m) = true
  | [], _, _, _, _, _, _, h, _ => by simp at h
  | .own i0 :: r, ds, j, d, c, m, h, h1, h2 => by
    rw [dsOf] at h
    cases e1 : ownD ρ i0 with
    | none => rw [e1] at h; cases h
    | some c =>
      cases e2 : dsOf ρ r with
      | none => rw [e1, e2] at h; cases h
      | some cs =>
        rw [e1, e2] at h
        cases h
        cases j with
        | zero => cases h1
        | succ j => exact dsOf_rd e2 (by simpa using h1) (by simpa using h2)
  | .rd c0 m0 :: r, ds, j, d, c, m, h, h1, h2 => by
    rw [dsOf] at h
    split at h
    · rename_i q
      cases e2 : dsOf ρ r with
      | none => rw [e2] at h; cases h
      | some cs =>
        rw [e2] at h
        cases h
        cases j with
        | zero => cases h1; cases h2; exact ⟨rfl, q⟩
        | succ j => exact dsOf_rd e2 (by simpa using h1) (by simpa using h2)
    · cases h
theorem dsOf_len {ρ : Ev} : ∀ {as : List Ag} {ds : List D}, dsOf ρ as = some ds → ds.length = as.length
  | [], _, h => by cases h; rfl
  | .own i0 :: r, ds, h => by
    rw [dsOf] at h
    cases e1 : ownD ρ i0 with
    | none => rw [e1] at h; cases h
    | some c =>
      cases e2 : dsOf ρ r with
      | none => rw [e1, e2] at h; cases h
      | some cs => rw [e1, e2] at h; cases h; simp [dsOf_len e2]
  | .rd c m :: r, ds, h => by
    rw [dsOf] at h
    split at h
    · cases e2 : dsOf ρ r with
      | none => rw [e2] at h; cases h
      | some cs => rw [e2] at h; cases h; simp [dsOf_len e2]
    · cases h
theorem backC_len {ρ : Ev} {as : List Ag} {ds' : List D} : (backC ρ as ds').length = ρ.length := by simp [backC]
theorem backC_other {ρ : Ev} {as : List Ag} {ds' : List D} {k : Nat} (h : ixOf as k = none) : (backC ρ as ds')[k]? = ρ[k]? := by
  unfold backC
  rw [List.getElem?_mapIdx]
  simp only [h]
  cases ρ[k]? <;> rfl
theorem backC_at {ρ : Ev} {as : List Ag} {ds' : List D} {k j : Nat} {d : D} {s : Sl} (h : ixOf as k = some j) (hd : ds'[j]? = some d) (hs : ρ[k]? = some s) : (backC ρ as ds')[k]? = some (putS s d) := by
  unfold backC
  rw [List.getElem?_mapIdx]
  simp only [h, hd, hs]
  rfl
/-- one own argument: its slot is set -/
theorem backC_one {ρ : Ev} {as : List Ag} {ds' : List D} {i j : Nat} {d : D} {s : Sl} (hs : ρ[i]? = some s) (ha : ixOf as i = some j) (ho : osl as = [i]) (hd : ds'[j]? = some d) : backC ρ as ds' = ρ.set i (putS s d) := by
  apply List.ext_getElem?
  intro k
  by_cases q : i = k
  · subst q
    rw [backC_at ha hd hs, List.getElem?_set_self (List.getElem?_eq_some_iff.mp hs).1]
  · rw [List.getElem?_set_ne q, backC_other]
    cases e : ixOf as k with
    | none => rfl
    | some j' =>
      have := osl_mem (ixOf_some e)
      rw [ho] at this
      simp only [List.mem_cons, List.not_mem_nil, or_false] at this
      exact absurd this.symm q
section
variable {Γ : Ga} {x : Fx} {B : Hp} {F : Nat → List Addr} {ρ : Ev} {σ : St} {H H' : Hp}
def agF (F : Nat → List Addr) (as : List Ag) : Nat → List Addr := fun j => match as[j]? with
  | some (.own i) => F i
  | _ => []
theorem agF_own {as : List Ag} {j i : Nat} (h : as[j]? = some (.own i)) : agF F as j = F i := by unfold agF; rw [h]
theorem agF_mem {as : List Ag} {j : Nat} {a : Addr} (h : a ∈ agF F as j) : ∃ i, as[j]? = some (.own i) ∧ a ∈ F i := by
  unfold agF at h
  split at h
  · rename_i i e; exact ⟨i, e, h⟩
  · cases h
theorem paired_at {α β : Type} {G : α → β → Prop} : ∀ {l : List α} {m : List β} {i : Nat} {a : α} {b : β}, Paired G l m → l[i]? = some a → m[i]? = some b → G a b
  | _, _, _, _, _, .nil, h, _ => by simp at h
  | _, _, 0, _, _, .cons r t, h, h2 => by cases h; cases h2; exact r
  | _, _, i + 1, _, _, .cons r t, h, h2 => paired_at t (by simpa using h) (by simpa using h2)
theorem Ok.inC (o : Ok Γ x B F ρ σ H) {as : List Ag} {ds : List D} {vs : List V} (hd : dsOf ρ as = some ds) (hv : Paired (AgV Γ x σ B H) as vs) (hn : (osl as).Nodup) : InC Γ (as.map Ag.isOwn) H (agF F as) ds vs := by
  have hb : ∀ {a i}, a ∈ F i → ∃ u, H a = some u ∧ Box u := fun h => o.box h
  have am : ∀ {i : Nat} {b : Bool}, (as.map Ag.isOwn)[i]? = some b → ∃ g, as[i]? = some g ∧ Ag.isOwn g = b := fun {i b} h => by
    rw [List.getElem?_map] at h
    cases e : as[i]? with
    | none => rw [e] at h; cases h
    | some g => rw [e] at h; cases h; exact ⟨g, rfl, rfl⟩
  refine ⟨by rw [← paired_len hv, dsOf_len hd], by rw [List.length_map, dsOf_len hd], fun {i d v} hm hdi hvi => ?_, fun {i d v} hm hdi hvi => ?_, fun i hm => ?_, fun i => ?_, fun i j a ha hb => ?_⟩
  · obtain ⟨g, eg, hg⟩ := am hm
    cases g with
    | rd => cases hg
    | own k =>
      have e1 := dsOf_own hd eg hdi
      obtain ⟨v', q1, q2⟩ := o.own e1
      have : σ[k]? = some (some v) := paired_at (G := AgV Γ x σ B H) hv eg hvi
      rw [q1] at this
      cases this
      rw [agF_own eg]
      exact q2
  · obtain ⟨g, eg, hg⟩ := am hm
    cases g with
    | own => cases hg
    | rd c m =>
      obtain ⟨rfl, hf⟩ := dsOf_rd hd eg hdi
      have hval : Val Γ x m B H d v := paired_at (G := AgV Γ x σ B H) hv eg hvi
      have keep : ∀ {R : Hp}, Same R H → (∀ a u j, R a = some u → a ∈ agF F as j → False) → Same R (outF H (agF F as)) := fun {R} hR hn a u e => by
        rw [outF_at (fun j z => hn a u j e z)]
        exact hR a u e
      have sT : Same (tupOf H) (outF H (agF F as)) := keep tupOf_same fun a u j e z => by
        obtain ⟨i', _, z⟩ := agF_mem z
        obtain ⟨e1, xs, rfl⟩ := tupOf_some e
        obtain ⟨w, hw, bx⟩ := hb z
        rw [e1] at hw; cases hw; exact bx.elim
      have sB : Same B (outF H (agF F as)) := keep o.bh fun a u j e z => by
        obtain ⟨i', _, z⟩ := agF_mem z
        rw [(o.fk i' a z).2.1] at e; cases e
      have sK : Same x.Kp (outF H (agF F as)) := keep o.kp fun a u j e z => by
        obtain ⟨i', _, z⟩ := agF_mem z
        rw [(o.fk i' a z).1] at e; cases e
      by_cases q : flat d = true
      · exact (Is.ofFlat q (Val.is o hval)).mono sT
      · rw [Bool.not_eq_true] at q
        simp only [q, Bool.false_or] at hf
        cases m with
        | own => cases hf
        | par => exact Is.mono sK hval
        | new => exact Is.mono sB hval
  · cases e : as[i]? with
    | none => unfold agF; rw [e]
    | some g =>
      cases g with
      | rd => unfold agF; rw [e]
      | own k => exact absurd (by rw [List.getElem?_map, e]; rfl) hm
  · unfold agF
    split
    · exact o.nd _
    · exact List.nodup_nil
  · obtain ⟨i', e1, z1⟩ := agF_mem ha
    obtain ⟨j', e2, z2⟩ := agF_mem hb
    have := o.dj i' j' a z1 z2
    subst this
    have q1 := ixOf_of hn e1
    have q2 := ixOf_of hn e2
    rw [q1] at q2
    exact Option.some.inj q2
def newF (F F' : Nat → List Addr) (as : List Ag) : Nat → List Addr := fun k => match ixOf as k with
  | some j => F' j
  | none => F k
theorem Ok.left (o : Ok Γ x B F ρ σ H) {as : List Ag} {ds ds' : List D} {vs : List V} {r : D} {w : V} {F' : Nat → List Addr} {B' : Hp} (hd : dsOf ρ as = some ds) (hv : Paired (AgV Γ x σ B H) as vs) (hn : (osl as).Nodup) (hkd : ∀ i ∈ osl as, ∀ k ∈ osl as, i = k ∨ ∃ d, ρ[i]? = some (.on d))
    (L : Left Γ (as.map Ag.isOwn) H H' (agF F as) F' ds' vs B' r w) : ∃ B2, Same B B2 ∧ Ok Γ x B2 (newF F F' as) (backC ρ as ds') σ H' ∧ Is Γ B2 r w := by
  have isin : ∀ {a k j}, a ∈ agF F as j → a ∈ F k → ixOf as k = some j := fun {a k j} h1 h2 => by
    obtain ⟨i', e1, z1⟩ := agF_mem h1
    have := o.dj i' k a z1 h2
    subst this
    exact ixOf_of hn e1
  have hk : ∀ a u, (∀ j, a ∉ agF F as j) → H a = some u → H' a = some u := fun a u ha e => L.out a u (by rw [outF_at ha]; exact e)
  have nbox : ∀ {j a}, a ∈ agF F as j → ∀ xs, H a ≠ some (.tup xs) := fun {j a} ha xs e => by
    obtain ⟨i', _, z⟩ := agF_mem ha
    obtain ⟨u, hu, bx⟩ := o.box z
    rw [hu] at e; cases e; exact bx.elim
  have tk : TupK H H' := fun a xs e => hk a _ (fun j z => nbox z xs e) e
  have bB : Same B H' := fun a u e => hk a u (fun j z => by
    obtain ⟨i', _, z⟩ := agF_mem z
    rw [(o.fk i' a z).2.1] at e; cases e) (o.bh a u e)
  have t : Same (tupOf H') H' := tupOf_same
  have sB : Same B (jn (tupOf H') B B') := fun a u z => jn_at t bB L.bh (.inr (.inl z))
  have notp : ∀ {a}, (∃ u, H' a = some u ∧ Box u) → tupOf H' a = none := fun {a} hb => by
    obtain ⟨u, hu, bx⟩ := hb
    cases q : tupOf H' a with
    | none => rfl
    | some z =>
      obtain ⟨e1, xs, rfl⟩ := tupOf_some q
      rw [hu] at e1; cases e1; exact bx.elim
  have jnone : ∀ {a}, tupOf H' a = none → B a = none → B' a = none → jn (tupOf H') B B' a = none := fun {a} h1 h2 h3 => by
    cases z : jn (tupOf H') B B' a with
    | none => rfl
    | some u =>
      rcases jn_cases z with z | z | z
      · rw [h1] at z; cases z
      · rw [h2] at z; cases z
      · rw [h3] at z; cases z
  have hkk : ∀ k, ixOf as k = none → ∀ a ∈ F k, H' a = H a := fun k hk' a ha => by
    obtain ⟨u, hu, _⟩ := o.box ha
    rw [hu, hk a u (fun j q => by rw [isin q ha] at hk'; cases hk') hu]
  have lm : ∀ {k j}, ixOf as k = some j → (as.map Ag.isOwn)[j]? = some true := fun {k j} h => by rw [List.getElem?_map, ixOf_some h]; rfl
  -- the own things behind
  have ownL : ∀ {k j d v}, ixOf as k = some j → ds'[j]? = some d → σ[k]? = some (some v) → Own Γ H' d v (F' j) := fun {k j d v} h h1 h2 => by
    have ea := ixOf_some h
    obtain ⟨vj, ev⟩ := get_ex (l := vs) (i := j) (by rw [← paired_len hv]; exact (List.getElem?_eq_some_iff.mp ea).1)
    have : σ[k]? = some (some vj) := paired_at (G := AgV Γ x σ B H) hv ea ev
    rw [h2] at this
    have e3 : v = vj := by injection this with z; injection z
    subst e3
    exact L.own (lm h) h1 ev
  have fbox : ∀ {k j a}, ixOf as k = some j → a ∈ F' j → ∃ u, H' a = some u ∧ Box u := fun {k j a} h ha => by
    have ea := ixOf_some h
    obtain ⟨dj, e1⟩ := get_ex (l := ds') (i := j) (by rw [L.len, List.length_map]; exact (List.getElem?_eq_some_iff.mp ea).1)
    obtain ⟨vj, e2⟩ := get_ex (l := vs) (i := j) (by rw [← paired_len hv]; exact (List.getElem?_eq_some_iff.mp ea).1)
    exact (L.own (lm h) e1 e2).box a ha
  have from_ : ∀ {j a}, a ∈ F' j → (∃ k j', ixOf as k = some j' ∧ a ∈ F k) ∨ H a = none := fun {j a} ha => by
    rcases L.new j a ha with ⟨j', z⟩ | z
    · obtain ⟨i', e1, z1⟩ := agF_mem z
      exact .inl ⟨i', j', ixOf_of hn e1, z1⟩
    · exact .inr z
  refine ⟨jn (tupOf H') B B', sB, ?_, L.ret.mono fun a u z => jn_at t bB L.bh (.inr (.inr z))⟩
  exact {
    kp := fun a u e => hk a u (fun j z => by
      obtain ⟨i', _, z⟩ := agF_mem z
      rw [(o.fk i' a z).1] at e; cases e) (o.kp a u e)
    bh := fun a u z => by
      rcases jn_cases z with z | z | z
      · exact t a u z
      · exact bB a u z
      · exact L.bh a u z
    tup := fun a xs e => jn_at t bB L.bh (.inl (tupOf_tup e))
    born := fun a u z => by
      rcases jn_cases z with z | z | z
      · exact .inl (tupOf_some z).2
      · exact o.born a u z
      · rcases L.bn a u z with q | q
        · exact .inl q
        · exact .inr (o.dom a q)
    bk := fun a u z => by
      rcases jn_cases z with z | z | z
      · exact .inl (tupOf_some z).2
      · exact o.bk a u z
      · rcases L.bn a u z with q | q
        · exact .inl q
        · exact .inr (o.kp.free q)
    dom := fun a e => o.dom a (L.dom a e)
    fk := fun k a ha => by
      unfold newF at ha
      cases e : ixOf as k with
      | some j =>
        rw [e] at ha
        have hb := notp (fbox e ha)
        rcases from_ ha with ⟨k', j', e', q⟩ | q
        · obtain ⟨h1, h2, h3⟩ := o.fk k' a q
          exact ⟨h1, jnone hb h2 (L.bf j a ha), h3⟩
        · exact ⟨o.kp.free q, jnone hb (Same.free o.bh q) (L.bf j a ha), .inr (o.dom a q)⟩
      | none =>
        rw [e] at ha
        obtain ⟨h1, h2, h3⟩ := o.fk k a ha
        obtain ⟨u, hu, bx⟩ := o.box ha
        have hu' : H' a = some u := by rw [hkk k e a ha, hu]
        refine ⟨h1, jnone (notp ⟨u, hu', bx⟩) h2 ?_, h3⟩
        cases z : B' a with
        | none => rfl
        | some c =>
          rcases L.bn a c z with ⟨xs, rfl⟩ | q
          · have := L.bh a _ z; rw [hu'] at this; cases this; exact bx.elim
          · rw [hu] at q; cases q
    dj := fun k l a h1 h2 => by
      unfold newF at h1 h2
      have cross : ∀ {k l j}, ixOf as k = some j → ixOf as l = none → a ∈ F' j → a ∈ F l → False := fun {k l j} e1 e2 z1 z2 => by
        rcases from_ z1 with ⟨k', j', e', q⟩ | q
        · have := o.dj k' l a q z2
          subst this
          rw [e2] at e'; cases e'
        · obtain ⟨u, hu, _⟩ := o.box z2; rw [hu] at q; cases q
      cases e1 : ixOf as k with
      | some j =>
        rw [e1] at h1
        cases e2 : ixOf as l with
        | some j' =>
          rw [e2] at h2
          have := L.dj j j' a h1 h2
          subst this
          have z1 := ixOf_some e1
          have z2 := ixOf_some e2
          rw [z1] at z2
          injection z2 with z2
          injection z2
        | none => rw [e2] at h2; exact (cross e1 e2 h1 h2).elim
      | none =>
        rw [e1] at h1
        cases e2 : ixOf as l with
        | some j' => rw [e2] at h2; exact (cross e2 e1 h2 h1).elim
        | none => rw [e2] at h2; exact o.dj k l a h1 h2
    nd := fun k => by
      unfold newF
      split
      · exact L.nd _
      · exact o.nd k
    out := fun k hk' => by
      rw [backC_len] at hk'
      unfold newF
      split
      · rename_i j e
        have e1 := ixOf_some e
        obtain ⟨dj, ed⟩ := get_ex (l := ds) (i := j) (by rw [dsOf_len hd]; exact (List.getElem?_eq_some_iff.mp e1).1)
        have := dsOf_own hd e1 ed
        exact absurd (ownD_get this) (by omega)
      · exact o.out k hk'
    len := by rw [backC_len, o.len]
    at_ := fun k s hs => by
      cases e : ixOf as k with
      | none =>
        rw [backC_other e] at hs
        have ef : newF F F' as k = F k := by unfold newF; rw [e]
        rw [ef]
        have r := o.at_ k s hs
        cases s with
        | fn => obtain ⟨q1, v', q2, q3⟩ := r; exact ⟨q1, v', q2, q3.mono sB⟩
        | ow => obtain ⟨v', q1, q2, q3⟩ := r; exact ⟨v', q1, q2.keep tk (hkk k e), q3⟩
        | on => obtain ⟨v', q1, q2, q3⟩ := r; exact ⟨v', q1, q2.keep tk (hkk k e), q3⟩
        | _ => exact r
      | some j =>
        have ef : newF F F' as k = F' j := by unfold newF; rw [e]
        rw [ef]
        have e1 := ixOf_some e
        obtain ⟨dj, ed⟩ := get_ex (l := ds) (i := j) (by rw [dsOf_len hd]; exact (List.getElem?_eq_some_iff.mp e1).1)
        obtain ⟨dj', ed'⟩ := get_ex (l := ds') (i := j) (by rw [L.len, List.length_map]; exact (List.getElem?_eq_some_iff.mp e1).1)
        have hown := dsOf_own hd e1 ed
        obtain ⟨v, hσ, _⟩ := o.own hown
        have ho := ownL e ed' hσ
        unfold ownD at hown
        split at hown
        · rename_i z
          rw [backC_at e ed' z] at hs
          cases hs
          obtain ⟨v', h1, h2, h3⟩ := o.at_ k _ z
          rw [hσ] at h1
          cases h1
          exact ⟨v, hσ, ho, h3⟩
        · rename_i z
          rw [backC_at e ed' z] at hs
          cases hs
          obtain ⟨v', h1, h2, h3⟩ := o.at_ k _ z
          rw [hσ] at h1
          cases h1
          refine ⟨v, hσ, ho, fun a ha => ?_⟩
          rcases L.new j a ha with ⟨j2, z2⟩ | z2
          · obtain ⟨i2, e2, q2⟩ := agF_mem z2
            rcases hkd i2 (osl_mem e2) k (osl_mem e1) with rfl | ⟨c, ec⟩
            · exact h3 a q2
            · obtain ⟨_, _, _, h4⟩ := o.at_ i2 _ ec
              exact h4 a q2
          · exact o.dom a z2
        · cases hown }
/-- several own arguments: all made here -/
def kindC (ρ : Ev) (as : List Ag) : Bool := (osl as).length ≤ 1 || (osl as).all fun i => match ρ[i]? with
  | some (.on _) => true
  | _ => false
theorem kindC_of {ρ : Ev} {as : List Ag} (h : kindC ρ as = true) : ∀ i ∈ osl as, ∀ k ∈ osl as, i = k ∨ ∃ d, ρ[i]? = some (.on d) := by
  intro i hi k hk
  unfold kindC at h
  rw [Bool.or_eq_true] at h
  rcases h with h | h
  · left
    have h : (osl as).length ≤ 1 := by simpa using h
    match e : osl as, h with
    | [], _ => rw [e] at hi; cases hi
    | [z], _ =>
      rw [e] at hi hk
      simp only [List.mem_cons, List.not_mem_nil, or_false] at hi hk
      rw [hi, hk]
    | _ :: _ :: _, h => simp at h
  · right
    rw [List.all_eq_true] at h
    have := h i hi
    split at this
    · rename_i d e; exact ⟨d, e⟩
    · cases this
def callC (ms : List Bool) (f : List D → Option (D × List D)) (g : CF) : Ev → Option (D × Ev) := fun ρ => (g ρ).bind fun as => if (decide (osl as).Nodup && kindC ρ as && decide (as.map Ag.isOwn = ms)) = true then (dsOf ρ as).bind fun ds => (f ds).bind fun p => some (p.1, backC ρ as p.2) else none
theorem callC_some {ms : List Bool} {f : List D → Option (D × List D)} {g : CF} {ρ ρ' : Ev} {r : D} (h : callC ms f g ρ = some (r, ρ')) :
    ∃ as ds ds', g ρ = some as ∧ (osl as).Nodup ∧ kindC ρ as = true ∧ as.map Ag.isOwn = ms ∧ dsOf ρ as = some ds ∧ f ds = some (r, ds') ∧ ρ' = backC ρ as ds' := by
  unfold callC at h
  cases e1 : g ρ with
  | none => rw [e1] at h; cases h
  | some as =>
    rw [e1] at h
    simp only [Option.bind_some] at h
    split at h
    · rename_i q
      simp only [Bool.and_eq_true, decide_eq_true_eq] at q
      cases e2 : dsOf ρ as with
      | none => rw [e2] at h; cases h
      | some ds =>
        rw [e2] at h
        simp only [Option.bind_some] at h
        cases e3 : f ds with
        | none => rw [e3] at h; cases h
        | some p =>
          rw [e3] at h
          cases h
          exact ⟨as, ds, p.2, rfl, q.1.1, q.1.2, q.2, e2, e3, rfl⟩
    · cases h
end
/-- e is worth what g says, and g's slots stand behind it -/
def PuM (cm : Nat → Addr) (X : Cx) (e : Expr) (g : Ev → Option (D × Ev)) : Prop :=
  ∃ t, PE X e t ∧ ∀ (x : Fx) (B : Hp) (F : Nat → List Addr) (ρ : Ev) (σ : St) (H : Hp) (r : D) (ρ' : Ev) (Q : VK), Ok (gx X cm) x B F ρ σ H → g ρ = some (r, ρ') →
    (∀ v B' F' H', Same B B' → Ok (gx X cm) x B' F' ρ' σ H' → Is (gx X cm) B' r v → Q v H') → t σ H Q
def CalC (P : Program) (w : World) (K : PySem.W.Frag) (mg : Str → Option Value) (base : Heap) (cm : Nat → Addr) (k : Nat) (x : Str) (ms : List Bool) (f : List D → Option (D × List D)) : Prop :=
  ∃ (fa : Addr) (fd : FuncData) (ps : List Str), FnOk P w K mg base CX0 k fa fd ps (spC K cm ms f) ∧ mg x = some (.ref fa) ∧ PySem.W.keepIn K (.ref fa) = true ∧ Binds K fd ps []
def MetC (P : Program) (w : World) (K : PySem.W.Frag) (mg : Str → Option Value) (base : Heap) (cm : Nat → Addr) (k : Nat) (n : Nat) (m : Str) (ms : List Bool) (f : List D → Option (D × List D)) : Prop :=
  ∃ (fa : Addr) (fd : FuncData) (ps : List Str), FnOk P w K mg base CX0 k fa fd ps (spC K cm ms f) ∧ Cls K (cm n) ∧ Meth K (cm n) m fa ∧ Binds K fd ps []
section
variable {cm : Nat → Addr} {X : Cx} {pos : Pos} {e : Expr} {es : List Expr} {ms : List Bool} {f : List D → Option (D × List D)} {g : CF}
theorem pum_call {k j : Nat} {x : Str} {p : Pos} (C : CalC X.prog X.w X.K X.mg X.base cm k x ms f) (hr : Room j X.A) (hk : k ≤ j) (ha : PuC cm X (e :: es) g) (hg : Gl X x := by rfl)
    (hdb : (x == ("__debug__" : Str)) = false := by decide) (he : starEach (e :: es) X.env = (false, eval e X.env) :: starEach es X.env := by rfl) (hpl : (backTo pos (starEach es X.env)).any (·.1) = false := by rfl) :
    PuM cm X (.Call (.Name x p) (e :: es) [] pos) (callC ms f g) := by
  obtain ⟨fa, fd, ps, F, hm, kp, hb⟩ := C
  obtain ⟨t, pa, qa⟩ := ha
  refine ⟨_, pe_call F (hr.mono hk) hg hm kp hb .nil pass0 pa hdb he hpl, fun x B Fp ρ σ H r ρ' Q ok hf hQ => ?_⟩
  obtain ⟨as, ds, ds', e1, hn, hkd, rfl, e2, e3, rfl⟩ := callC_some hf
  refine qa x B Fp ρ σ H as _ ok e1 fun vs B' H' g1 ok' hvs => ?_
  rw [List.append_nil]
  refine ⟨ds, agF Fp as, r, ds', ok'.inC e2 hvs hn, e3, fun w H2 F2 B2 L => ?_⟩
  obtain ⟨B3, s3, ok3, hw⟩ := ok'.left e2 hvs hn (kindC_of hkd) L
  exact hQ w B3 _ H2 (g1.bb.trans s3) ok3 hw
/-- x.m(..), x an own instance of the class number n that has no attribute m -/
def insC (n : Nat) (m : Str) (i : Nat) (g : CF) : CF := fun ρ => match ownD ρ i with
  | some (.ins c fs) => if c = n ∧ getF fs m = none then (g ρ).map fun as => .own i :: as else none
  | _ => none
theorem insC_some {n i : Nat} {m : Str} {ρ : Ev} {as : List Ag} (h : insC n m i g ρ = some as) : ∃ fs r, ownD ρ i = some (.ins n fs) ∧ getF fs m = none ∧ g ρ = some r ∧ as = .own i :: r := by
  unfold insC at h
  split at h
  · rename_i c fs e
    split at h
    · rename_i q
      obtain ⟨rfl, q⟩ := q
      cases e1 : g ρ with
      | none => rw [e1] at h; cases h
      | some r => rw [e1] at h; cases h; exact ⟨fs, r, e, q, rfl, rfl⟩
    · cases h
  · cases h
theorem pum_meth (i : Nat) {k j n : Nat} {x m : Str} {npos apos : Pos} (pl : Sem Bool) (C : MetC X.prog X.w X.K X.mg X.base cm k n m ms f) (hr : Room j X.A) (hk : k ≤ j) (ha : PuC cm X (e :: es) g) (hN : X.N[i]? = some x := by rfl) (hv : Vis X.env.scope x := by first | exact Or.inl rfl | exact Or.inr (Or.inl rfl) | exact Or.inr (Or.inr rfl))
    (hd : (x == ("__debug__" : Str)) = false := by decide) (hcd : (x == ("__classdict__" : Str)) = false := by decide)
    (hst : starEach (e :: es) X.env = (false, eval e X.env) :: starEach es X.env := by rfl) (hpl : (backTo pos (starEach es X.env)).any (·.1) = false := by rfl)
    (ht : eval (.Call (.Attribute (.Name x npos) m apos) (e :: es) [] pos) X.env = (do
      let ov ← eval (.Name x npos) X.env
      standAt apos.atName
      let (f, first) ← holding [ov] (getMethod ov m pl)
      callWith pos f first (backTo pos (starEach (e :: es) X.env)) (backToKw pos (keywordEach [] X.env))) := by rfl) :
    PuM cm X (.Call (.Attribute (.Name x npos) m apos) (e :: es) [] pos) (callC ms f (insC n m i g)) := by
  obtain ⟨fa, fd, ps, F, hc, hm, hb⟩ := C
  obtain ⟨t, pa, qa⟩ := ha
  refine ⟨_, pe_meth (pe_var hN hv hd hcd) hc hm F (hr.mono hk) hb .nil pass0 pa hst hpl ht, fun z B Fp ρ σ H r ρ' Q ok hf hQ => ?_⟩
  obtain ⟨as, ds, ds', e1, hn, hkd, rfl, e2, e3, rfl⟩ := callC_some hf
  obtain ⟨fs, as, e4, e5, e6, rfl⟩ := insC_some e1
  obtain ⟨v, hσ, ho⟩ := ok.own e4
  refine ⟨v, hσ, ?_⟩
  obtain ⟨p, dx, vs, rfl, h1, h2⟩ := ho.is
  refine ⟨p, dx, vs, rfl, h1, h2.none e5, ?_⟩
  refine qa z B Fp ρ σ H as _ ok e6 fun us B2 H2 g2 ok2 hus => ?_
  rw [List.append_nil]
  have hvs : Paired (AgV (gx X cm) z σ B2 H2) (.own i :: as) (.ref p :: us) := .cons hσ hus
  refine ⟨ds, agF Fp (.own i :: as), r, ds', ok2.inC e2 hvs hn, e3, fun w H' F' B' L => ?_⟩
  obtain ⟨B3, s3, ok3, hw⟩ := ok2.left e2 hvs hn (kindC_of hkd) L
  exact hQ w B3 _ H' (g2.bb.trans s3) ok3 hw
end
end DL

/-! DL23: statements of changing calls. -/
namespace DL
open PySem L2
section
variable {cm : Nat → Addr} {X : Cx} {pos : Pos} {e : Expr} {g : Ev → Option (D × Ev)}
def sSetM (i : Nat) (g : Ev → Option (D × Ev)) : SF := fun ρ => (g ρ).bind fun p => (setS i p.1 .new p.2).map .nx
theorem pus_setM (i : Nat) {x : Str} {pos' : Pos} (hN : X.N.Nodup) (he : PuM cm X e g) (hi : X.N[i]? = some x := by rfl) (hx : Loc X.env.scope x := by first | exact .inl rfl | exact .inr rfl)
    (hs : swapsWith e (some (.Name x pos')) pos.line X.env = pure false := by rfl) (hf : X.fn x = true ∨ X.env.scope.names.lookup x = some .local := by first | exact .inl rfl | exact .inr rfl) : PuS cm X (.Assign [.Name x pos'] e pos) (sSetM i g) := by
  obtain ⟨t, p, q⟩ := he
  refine ⟨_, ps_set hN hi hx p hs hf, fun x B F ρ σ H r E ok hf hE => ?_⟩
  unfold sSetM at hf
  cases e1 : g ρ with
  | none => rw [e1] at hf; cases hf
  | some a =>
    rw [e1] at hf
    simp only [Option.bind_some] at hf
    cases e2 : setS i a.1 .new a.2 with
    | none => rw [e2] at hf; cases hf
    | some ρ' =>
      rw [e2] at hf
      cases hf
      exact q x B F ρ σ H a.1 a.2 _ ok e1 fun v B' F' H' s ok' hv => hE B' _ _ H' s (ok'.setS e2 hv)
def sRetM (g : Ev → Option (D × Ev)) : SF := fun ρ => (g ρ).map fun p => .rt p.1 p.2
theorem pus_retM (he : PuM cm X e g) : PuS cm X (.Return (some e) pos) (sRetM g) := by
  obtain ⟨t, p, q⟩ := he
  refine ⟨_, ps_ret p, fun x B F ρ σ H r E ok hf hE => ?_⟩
  unfold sRetM at hf
  cases e1 : g ρ with
  | none => rw [e1] at hf; cases hf
  | some a =>
    rw [e1] at hf
    cases hf
    exact q x B F ρ σ H a.1 a.2 _ ok e1 fun v B' F' H' s ok' hv => hE v B' F' σ H' s ok' hv
def sExM (g : Ev → Option (D × Ev)) : SF := fun ρ => (g ρ).map fun p => .nx p.2
theorem pus_exM {pos2 : Pos} (he : PuM cm X e g) (hs : swapsWith e none pos2.line X.env = pure false := by rfl) : PuS cm X (.Expr e pos2) (sExM g) := by
  obtain ⟨t, p, q⟩ := he
  refine ⟨_, ps_expr p hs, fun x B F ρ σ H r E ok hf hE => ?_⟩
  unfold sExM at hf
  cases e1 : g ρ with
  | none => rw [e1] at hf; cases hf
  | some a =>
    rw [e1] at hf
    cases hf
    exact q x B F ρ σ H a.1 a.2 _ ok e1 fun v B' F' H' s ok' hv => hE B' F' σ H' s ok'
end
end DL

/-! DL24: dicts of fresh things, defs that hand out a fresh thing, list(..) as a fresh thing. -/
namespace DL
open PySem L2
section
variable {Γ : Ga} {x : Fx} {B : Hp} {F : Nat → List Addr} {ρ : Ev} {σ : St} {H : Hp}
theorem Ok.hidO (o : Ok Γ x B F ρ σ H) {p : Addr} {u w : HO} (hp : H p = some u) (hnt : ∀ xs, u ≠ .tup xs) (hw : ∀ xs, w ≠ .tup xs) (hb : B p = none) (hk : x.Kp p = none) (hf : ∀ i, p ∉ F i) : Ok Γ x B F ρ σ (upd H p w) where
  kp := fun a u e => by rw [upd_ne (fun q => by rw [q, hk] at e; cases e)]; exact o.kp a u e
  bh := fun a u e => by rw [upd_ne (fun q => by rw [q, hb] at e; cases e)]; exact o.bh a u e
  tup := fun a xs e => by
    by_cases q : a = p
    · subst q; rw [upd_same] at e; cases e; exact absurd rfl (hw xs)
    · rw [upd_ne q] at e; exact o.tup a xs e
  born := o.born
  bk := o.bk
  dom := fun a e => by
    by_cases q : a = p
    · subst q; rw [upd_same] at e; cases e
    · rw [upd_ne q] at e; exact o.dom a e
  fk := o.fk
  dj := o.dj
  nd := o.nd
  out := o.out
  len := o.len
  at_ := fun i s h => by
    have q := o.at_ i s h
    have ht : TupK H (upd H p w) := TupK.upd (by intro xs; rw [hp]; intro z; cases z; exact absurd rfl (hnt xs))
    have hkk : ∀ a ∈ F i, (upd H p w) a = H a := fun a ha => upd_ne fun z => hf i (z ▸ ha)
    cases s with
    | ow => obtain ⟨v, q1, q2, q3⟩ := q; exact ⟨v, q1, q2.keep ht hkk, q3⟩
    | on => obtain ⟨v, q1, q2, q3⟩ := q; exact ⟨v, q1, q2.keep ht hkk, q3⟩
    | _ => exact q
end
/-- the pairs of a display of fresh things -/
def PuNP (cm : Nat → Addr) (X : Cx) (pos : Pos) (keys : List (Option Expr)) (values : List Expr) (ks : List Key) (f : Ev → Option (List D)) : Prop :=
  ∃ trs, PPs X pos keys values trs ∧ ∀ (x : Fx) (B : Hp) (F : Nat → List Addr) (ρ : Ev) (σ : St) (H : Hp) (ds : List D) (Q : List (V × V) → Hp → Prop), Ok (gx X cm) x B F ρ σ H → f ρ = some ds →
    (∀ vs B' H' fp, Gr B H B' H' → Ok (gx X cm) x B' F ρ σ H' → ks.length = ds.length → Owns (gx X cm) H' ds vs fp → fp.Nodup → (∀ a ∈ fp, H a = none ∧ B' a = none) → Q ((List.zip ks vs).map fun kv => (kV kv.1, kv.2)) H') → tPairs trs σ H Q
section
variable {cm : Nat → Addr} {X : Cx} {pos : Pos}
theorem punp_nil : PuNP cm X pos [] [] [] nNil := ⟨_, pps_nil, fun x B F ρ σ H ds Q ok hf hQ => by
  cases hf
  exact hQ [] B H [] (Gr.refl B H) ok rfl ⟨rfl, rfl⟩ List.nodup_nil (fun _ h => nomatch h)⟩
theorem punp_cons {k : Key} {ke ve : Expr} {keys : List (Option Expr)} {values : List Expr} {ks : List Key} {fv : NF} {f : Ev → Option (List D)} (hk : PuE cm X ke (eC (keyD k))) (hv : PuN cm X ve fv) (hr : PuNP cm X pos keys values ks f) : PuNP cm X pos (some ke :: keys) (ve :: values) (k :: ks) (nCons fv f) := by
  obtain ⟨tk, pk, qk⟩ := hk
  obtain ⟨tv, pv, qv⟩ := hv
  obtain ⟨tr, pr, qr⟩ := hr
  refine ⟨_, pps_cons pk pv pr, fun x B F ρ σ H ds Q ok hf hQ => ?_⟩
  unfold nCons at hf
  cases e1 : fv ρ with
  | none => rw [e1] at hf; cases hf
  | some a =>
    rw [e1] at hf
    simp only [Option.bind_some] at hf
    cases e2 : f ρ with
    | none => rw [e2] at hf; cases hf
    | some r =>
      rw [e2] at hf
      cases hf
      refine qk x B F ρ σ H (keyD k) .new _ ok rfl fun v B1 H1 g1 ok1 v1 => ?_
      have ev := keyD_is v1
      subst ev
      refine qv x B1 F ρ σ H1 a _ ok1 e1 fun w B2 H2 f1 g2 ok2 o1 n1 l1 => ?_
      refine qr x B2 F ρ σ H2 r _ ok2 e2 fun vs B3 H3 f2 g3 ok3 hl o2 n2 l2 => ?_
      refine hQ (w :: vs) B3 H3 (f1 ++ f2) (g1.trans (g2.trans g3)) ok3 (by rw [List.length_cons, List.length_cons, hl]) ⟨w, vs, f1, f2, rfl, own_gr g3 o1, o2, rfl⟩ (List.nodup_append.mpr ⟨n1, n2, ?_⟩) fun b hb => ?_
      · rintro b hb c hc rfl
        obtain ⟨u, hu, _⟩ := o1.box b hb
        rw [(l2 b hc).1] at hu
        cases hu
      · rcases List.mem_append.mp hb with hb | hb
        · obtain ⟨u, hu, bx⟩ := o1.box b hb
          exact ⟨g1.hh.free (l1 b hb).1, box_gr ok3.bh g3 (l1 b hb).2 hu bx⟩
        · exact ⟨(g1.trans g2).hh.free (l2 b hb).1, (l2 b hb).2⟩
theorem ownK_zip {Γ : Ga} {H : Hp} : ∀ {ks : List Key} {ds : List D} {vs : List V} {fp : List Addr}, ks.length = ds.length → Owns Γ H ds vs fp → OwnK Γ H (List.zip ks ds) (List.zip ks vs) fp
  | [], [], _, _, _, h => by obtain ⟨rfl, rfl⟩ := h; exact ⟨rfl, rfl⟩
  | k :: ks, d :: ds, _, _, hl, ⟨v, r, f1, f2, e, h1, h2, ef⟩ => by
    subst e ef
    exact ⟨v, _, f1, f2, rfl, h1, ownK_zip (by simpa using hl) h2, rfl⟩
  | [], _ :: _, _, _, h, _ => by simp at h
  | _ :: _, [], _, _, h, _ => by simp at h
def nDict (ks : List Key) (f : Ev → Option (List D)) : NF := fun ρ => (f ρ).map fun ds => .dic (List.zip ks ds)
theorem pn_dict {keys : List (Option Expr)} {values : List Expr} {ks : List Key} {f : Ev → Option (List D)} (hp : PuNP cm X pos keys values ks f) (hn : ks.Nodup) (hall : keys.all (·.isSome) = true := by rfl) (hl : keys.length = values.length := by rfl) (h0 : keys ≠ [] := by simp)
    (h15 : keys.length ≤ 15 := by decide) (hkl : ks.length = keys.length := by rfl) : PuN cm X (.Dict keys values pos) (nDict ks f) := by
  obtain ⟨t, p, q⟩ := hp
  refine ⟨_, pe_disp p hall hl h0 h15, fun x B F ρ σ H d Q ok hf hQ => ?_⟩
  unfold nDict at hf
  cases ea : f ρ with
  | none => rw [ea] at hf; cases hf
  | some ds =>
    rw [ea] at hf
    cases hf
    intro l hlz
    obtain ⟨g1, ok1⟩ := ok.laidH (o := .dK []) hlz (fun xs z => nomatch z)
    refine q x B F ρ σ _ ds _ ok1 ea fun vs B' H' fp g ok' hl2 hvs hnd hlo => ?_
    have hp : H' l = some (.dK []) := g.hh _ _ upd_same
    have hb : B' l = none := by
      cases e : B' l with
      | none => rfl
      | some u =>
        rcases g.new l u e with ⟨xs, rfl⟩ | h4 | h4
        · have := ok'.bh l _ e; rw [hp] at this; cases this
        · rw [Same.free ok.bh hlz] at h4; cases h4
        · rw [upd_same] at h4; cases h4
    have hlen : ks.length = vs.length := by rw [hl2]; exact hvs.length.symm
    have lo : Loose x B' F l := ok'.loose ok hlz hb
    have hnl : l ∉ fp := fun z => by have := (hlo l z).1; rw [upd_same] at this; cases this
    refine ⟨hp, List.zip ks vs, rfl, ?_, ?_⟩
    · rw [List.length_zip, ← hlen, Nat.min_self, hkl]; exact h15
    · have em : mergeK [] (List.zip ks vs) = List.zip ks vs := by
        rw [mergeK_new _ [] (by rw [zip_keys hlen]; simpa using hn)]; rfl
      rw [em]
      have ok2 := ok'.hidO (w := .dK (List.zip ks vs)) hp (fun xs z => nomatch z) (fun xs z => nomatch z) hb lo.2.1 lo.2.2.2
      have tk : TupK H' (upd H' l (.dK (List.zip ks vs))) := TupK.upd (by intro xs z; rw [hp] at z; cases z)
      have hkeep : ∀ a ∈ fp, (upd H' l (.dK (List.zip ks vs))) a = H' a := fun a ha => upd_ne fun z => hnl (z ▸ ha)
      refine hQ (.ref l) B' _ (l :: fp) ⟨fun b u e => ?_, (g1.trans g).bb, fun b u e => (g1.trans g).new b u e⟩ ok2 ⟨l, List.zip ks vs, fp, rfl, upd_same, ownK_zip hl2 (hvs.keep tk hkeep), rfl⟩ (List.nodup_cons.mpr ⟨hnl, hnd⟩) fun a ha => ?_
      · rw [upd_ne (fun q => by rw [q, hlz] at e; cases e)]
        exact (g1.trans g).hh b u e
      · rcases List.mem_cons.mp ha with rfl | ha
        · exact ⟨hlz, hb⟩
        · exact ⟨g1.hh.free (hlo a ha).1, (hlo a ha).2⟩
/-! ### a def that hands out a fresh thing -/
def spN (K : PySem.W.Frag) (cm : Nat → Addr) (f : List D → Option D) : L2.Sp := fun vs H Q _ => ∃ ds d, Iss ⟨K, cm⟩ H ds vs ∧ f ds = some d ∧
  ∀ v H' fp, Same H H' → Own ⟨K, cm⟩ H' d v fp → fp.Nodup → (∀ a ∈ fp, H a = none) → Q v H'
def fnN (n k : Nat) (b : NF) (ds : List D) : Option D := if ds.length = k then b (ent n ds) else none
theorem fn_fresh {P : Program} {w : World} {K : PySem.W.Frag} {mg : Str → Option Value} {base : Heap} {cm : Nat → Addr} {x qual : Str} {st : Stmt} {f : Addr} {fd : FuncData} {N ps : List Str} {k : Nat} {b : NF} {e : Expr} {rpos : Pos} (F : Fun K x qual st f fd) (S : FnScope N ps (defScope st)) (hN : ps.length ≤ N.length)
    (hd : defBody st = [.Return (some e) rpos])
    (hb : ∀ (cdv : Value) (A : Around) (outer : List Env) (s : Shared) (H : Hp) (E : XK), Room k (A.deeper (PyProof.Rows.envOfC qual (defScope st) s.heap.objs.size f cdv)) → PuN cm (cxOf CX0 P w K mg base N qual (defScope st) f cdv A outer s H E).nox e b) :
    FnOk P w K mg base CX0 (k + 1) f fd ps (spN K cm (fnN N.length ps.length b)) := by
  refine F.ok S (fun vs H Q E h => ?_) (fun cdv A outer s H vs Q E hr h => ?_)
  · obtain ⟨ds, d, h1, h2, _⟩ := h
    unfold fnN at h2
    split at h2
    · rename_i e
      rw [h1.length, e]
    · cases h2
  · obtain ⟨ds, d, h1, h2, h3⟩ := h
    unfold fnN at h2
    split at h2
    · rename_i el
      obtain ⟨t, p, q⟩ := hb cdv A outer s H E hr
      rw [hd]
      refine ⟨_, pss_one (ps_ret p), ?_⟩
      refine q _ _ _ _ _ _ d _ (ok_start (N := N) h1 (by omega)) h2 fun v B' H' fp g ok' ho hn hl => ?_
      exact h3 v H' fp g.hh ho hn fun a ha => (hl a ha).1
    · cases h2
def CalN (P : Program) (w : World) (K : PySem.W.Frag) (mg : Str → Option Value) (base : Heap) (cm : Nat → Addr) (k : Nat) (x : Str) (f : List D → Option D) : Prop :=
  ∃ (fa : Addr) (fd : FuncData) (ps : List Str), FnOk P w K mg base CX0 k fa fd ps (spN K cm f) ∧ mg x = some (.ref fa) ∧ PySem.W.keepIn K (.ref fa) = true ∧ Binds K fd ps []
theorem own_new {Γ : Ga} {x : Fx} {B : Hp} {F : Nat → List Addr} {ρ : Ev} {σ : St} {H H' : Hp} (ok : Ok Γ x B F ρ σ H) (e : Same H H') {d : D} {v : V} {fp : List Addr} (ho : Own Γ H' d v fp) (hl : ∀ a ∈ fp, H a = none) :
    ∃ B', Gr B H B' H' ∧ Ok Γ x B' F ρ σ H' ∧ ∀ a ∈ fp, H a = none ∧ B' a = none := by
  have bn : Born Γ H H' .non .non := ⟨e, tupOf H', tupOf_same, fun a u z => .inl (tupOf_some z).2, rfl⟩
  obtain ⟨e1, R, er, hn, q⟩ := bn
  have t : Same (tupOf H') H' := tupOf_same
  have b : Same B H' := ok.bh.trans e
  refine ⟨jn (tupOf H') B B, ⟨e, fun a u z => jn_at t b b (.inr (.inl z)), fun a u z => ?_⟩, ?_, fun a ha => ⟨hl a ha, ?_⟩⟩
  · rcases jn_cases z with z | z | z
    · exact .inl (tupOf_some z).2
    · exact .inr (.inl z)
    · exact .inr (.inl z)
  · refine ok.grow e (fun a u z => jn_at t b b (.inr (.inl z))) (fun a u z => ?_) (fun a xs z => jn_at t b b (.inl (tupOf_tup z))) fun a u z => ?_
    · rcases jn_cases z with z | z | z
      · exact t a u z
      · exact b a u z
      · exact b a u z
    · rcases jn_cases z with z | z | z
      · exact .inl (tupOf_some z).2
      · exact .inr (.inl z)
      · exact .inr (.inl z)
  · obtain ⟨u, hu, bx⟩ := ho.box a ha
    cases z : jn (tupOf H') B B a with
    | none => rfl
    | some w =>
      have hB : B a = none := Same.free ok.bh (hl a ha)
      rcases jn_cases z with z | z | z
      · obtain ⟨q1, xs, rfl⟩ := tupOf_some z
        rw [hu] at q1; cases q1; exact bx.elim
      · rw [hB] at z; cases z
      · rw [hB] at z; cases z
def nCall (f : List D → Option D) (g : AF) : NF := fun ρ => (g ρ).bind fun as => f (as.map (·.1))
theorem pn_call0 {k j : Nat} {x : Str} {f : List D → Option D} {p : Pos} (C : CalN X.prog X.w X.K X.mg X.base cm k x f) (hr : Room j X.A) (hk : k ≤ j) (hg : Gl X x := by rfl)
    (hdb : (x == ("__debug__" : Str)) = false := by decide) : PuN cm X (.Call (.Name x p) [] [] pos) (nCall f aNil) := by
  obtain ⟨fa, fd, ps, F, hm, kp, hb⟩ := C
  refine ⟨_, pe_call0 F (hr.mono hk) hg hm kp hb .nil pass0 hdb, fun x B F ρ σ H d Q ok hf hQ => ?_⟩
  have hf : f [] = some d := hf
  refine ⟨[], d, rfl, hf, fun v H2 fp e ho hn hl => ?_⟩
  obtain ⟨B', g, ok', h'⟩ := own_new ok e ho hl
  exact hQ v B' H2 fp g ok' ho hn h'
/-! ### a class that is made -/
structure MakC (P : Program) (w : World) (K : PySem.W.Frag) (mg : Str → Option Value) (base : Heap) (cm : Nat → Addr) (k : Nat) (n : Nat) (x : Str) (ms : List Bool) (f : List D → Option (D × List D)) : Prop where
  at_ : ∃ (fa : Addr) (fd : FuncData) (ps : List Str), FnOk P w K mg base CX0 k fa fd ps (spC K cm ms f) ∧ Mk K (cm n) fa ∧ Binds K fd ps []
  mg : mg x = some (.ref (cm n))
def nMake (n m : Nat) (f : List D → Option (D × List D)) (g : AF) : NF := fun ρ => (g ρ).bind fun as => if okNew as = true ∧ as.length = m then (f (.ins n [] :: as.map (·.1))).bind fun p => match p with
  | (.non, d :: _) => some d
  | _ => none else none
theorem pn_make {k j n : Nat} {x : Str} {e : Expr} {es : List Expr} {f : List D → Option (D × List D)} {g : AF} {p : Pos} {m : Nat} (C : MakC X.prog X.w X.K X.mg X.base cm k n x (true :: List.replicate m false) f) (hr : Room j X.A) (hk : k + 1 ≤ j) (ha : PuA cm X (e :: es) g) (hg : Gl X x := by rfl)
    (hdb : (x == ("__debug__" : Str)) = false := by decide) (he : starEach (e :: es) X.env = (false, eval e X.env) :: starEach es X.env := by rfl) (hpl : (backTo pos (starEach es X.env)).any (·.1) = false := by rfl) :
    PuN cm X (.Call (.Name x p) (e :: es) [] pos) (nMake n m f g) := by
  obtain ⟨⟨fa, fd, ps, F, M, hb⟩, hmg⟩ := C
  obtain ⟨t, pa, qa⟩ := ha
  refine ⟨_, pe_make M F (hr.mono hk) hg hmg hb .nil pass0 pa hdb he hpl, fun z B Fp ρ σ H d Q ok hf hQ => ?_⟩
  unfold nMake at hf
  cases e1 : g ρ with
  | none => rw [e1] at hf; cases hf
  | some as =>
    rw [e1] at hf
    simp only [Option.bind_some] at hf
    split at hf
    · rename_i hnl
      obtain ⟨hnew, hlen⟩ := hnl
      cases e2 : f (.ins n [] :: as.map (·.1)) with
      | none => rw [e2] at hf; cases hf
      | some pr =>
        rw [e2] at hf
        simp only [Option.bind_some] at hf
        split at hf
        · rename_i d rest
          cases hf
          refine qa z B Fp ρ σ H as _ ok e1 fun vs B1 H1 g1 ok1 hvs => ?_
          intro a dx ha hdx hne
          rw [List.append_nil]
          -- the heap with the bare instance
          have hdx1 : upd H1 dx (.own a) a = none := by rw [upd_ne (Ne.symm hne)]; exact ha
          have s1 : Same H1 (upd H1 dx (.own a)) := same_upd hdx
          have s2 : Same (upd H1 dx (.own a)) (upd (upd H1 dx (.own a)) a (.ins (cm n) dx [])) := same_upd hdx1
          have s12 := s1.trans s2
          let F0 : Nat → List Addr := fun i => if i = 0 then [a] else []
          have hF0 : ∀ {i b}, b ∈ F0 i → i = 0 ∧ b = a := fun {i b} h => by
            have h : b ∈ (if i = 0 then [a] else []) := h
            split at h
            · rename_i q; exact ⟨q, by simpa using h⟩
            · cases h
          have hB1 : Iss (gx X cm) B1 (as.map (·.1)) vs := paired_issNew ok1 hnew hvs
          have hout : Same H1 (outF (upd (upd H1 dx (.own a)) a (.ins (cm n) dx [])) F0) := fun b u hu => by
            rw [outF_at (fun i z => by obtain ⟨_, rfl⟩ := hF0 z; rw [ha] at hu; cases hu)]
            exact s12 b u hu
          have mi : ∀ {i : Nat} {b : Bool}, (true :: List.replicate m false)[i]? = some b → (b = true ↔ i = 0) := fun {i b} h => by
            cases i with
            | zero => cases h; simp
            | succ i =>
              have h : (List.replicate m false)[i]? = some b := by simpa using h
              have := List.eq_of_mem_replicate (List.mem_of_getElem? h)
              simp [this]
          have inC : InC (gx X cm) (true :: List.replicate m false) (upd (upd H1 dx (.own a)) a (.ins (cm n) dx [])) F0 (.ins n [] :: as.map (·.1)) (.ref a :: vs) := by
            refine ⟨by simp [hB1.length], by simp [hlen], fun {i d v} h1 h2 h3 => ?_, fun {i d v} h1 h2 h3 => ?_, fun i h => ?_, fun i => ?_, fun i j b h1 h2 => ?_⟩
            · have := (mi h1).mp rfl
              subst this
              cases h2; cases h3
              exact ⟨a, dx, [], [], rfl, upd_same, ⟨rfl, rfl⟩, rfl⟩
            · cases i with
              | zero => cases h1
              | succ i =>
                obtain ⟨v', e3, hv'⟩ := hB1.get (i := i) (by simpa using h2)
                have h3 : vs[i]? = some v := by simpa using h3
                rw [e3] at h3
                cases h3
                exact (hv'.mono ok1.bh).mono hout
            · show (if i = 0 then [a] else []) = []
              rw [if_neg]
              rintro rfl
              exact h rfl
            · show (if i = 0 then [a] else []).Nodup
              split
              · simp
              · exact List.nodup_nil
            · rw [(hF0 h1).1, (hF0 h2).1]
          refine ⟨_, F0, .non, d :: rest, inC, e2, fun w H' F' B' L => ?_⟩
          have hw : w = .non := L.ret
          subst hw
          refine ⟨rfl, ?_⟩
          have ho : Own (gx X cm) H' d (.ref a) (F' 0) := L.own (i := 0) rfl rfl rfl
          have sH : Same H1 H' := hout.trans L.out
          have hnew2 : ∀ b ∈ F' 0, H1 b = none := fun b hb => by
            rcases L.new 0 b hb with ⟨j, q⟩ | q
            · obtain ⟨_, rfl⟩ := hF0 q; exact ha
            · exact Same.free s12 q
          obtain ⟨B2, g2, ok2, h2⟩ := own_new ok1 sH ho hnew2
          exact hQ (.ref a) B2 H' (F' 0) (g1.trans g2) ok2 ho (L.nd 0) fun b hb => ⟨g1.hh.free (hnew2 b hb), (h2 b hb).2⟩
        · cases hf
    · cases hf
/-! ### list(xs) as a fresh thing -/
end
end DL

/-! DL25: P[k] += e, P.f = e, P.f += e, P.pop(), list(..) as a fresh thing, a local thing moved. -/
namespace DL
open PySem L2
section
variable {cm : Nat → Addr} {X : Cx} {pos : Pos} {e e2 : Expr} {es : List Expr}
/-! ### a thing of one's own that may come from a slot -/
abbrev YF := Ev → Option (D × Ev)
def PuY (cm : Nat → Addr) (X : Cx) (e : Expr) (g : YF) : Prop :=
  ∃ t, PE X e t ∧ ∀ (x : Fx) (B : Hp) (F : Nat → List Addr) (ρ : Ev) (σ : St) (H : Hp) (d : D) (ρ' : Ev) (Q : VK), Ok (gx X cm) x B F ρ σ H → g ρ = some (d, ρ') →
    (∀ v B' F' H' fp, Same B B' → Ok (gx X cm) x B' F' ρ' σ H' → Own (gx X cm) H' d v fp → fp.Nodup → (∀ a ∈ fp, Loose x B' F' a) → Q v H') → t σ H Q
def yN (f : NF) : YF := fun ρ => (f ρ).map fun d => (d, ρ)
theorem puy_new {f : NF} (h : PuN cm X e f) : PuY cm X e (yN f) := by
  obtain ⟨t, p, q⟩ := h
  refine ⟨t, p, fun x B F ρ σ H d ρ' Q ok hf hQ => ?_⟩
  unfold yN at hf
  cases e1 : f ρ with
  | none => rw [e1] at hf; cases hf
  | some c =>
    rw [e1] at hf
    cases hf
    exact q x B F ρ σ H d Q ok e1 fun v B' H' fp g ok' o n l => hQ v B' F H' fp g.bb ok' o n fun a ha => ok'.loose ok (l a ha).1 (l a ha).2
def yMv (j : Nat) : YF := fun ρ => match ρ[j]? with
  | some (.on d) => some (d, ρ.set j .emp)
  | _ => none
theorem Ok.take {Γ : Ga} {x : Fx} {B : Hp} {F : Nat → List Addr} {ρ : Ev} {σ : St} {H : Hp} (o : Ok Γ x B F ρ σ H) {j : Nat} {d : D} (h : ρ[j]? = some (.on d)) : Ok Γ x B (offF F j) (ρ.set j .emp) σ H ∧ ∃ v, σ[j]? = some (some v) ∧ Own Γ H d v (F j) ∧ ∀ a ∈ F j, Loose x B (offF F j) a := by
  obtain ⟨v, q1, q2, q3⟩ := o.at_ j _ h
  have hlt := (List.getElem?_eq_some_iff.mp h).1
  refine ⟨⟨o.kp, o.bh, o.tup, o.born, o.bk, o.dom, fun i a ha => o.fk i a (offF_sub ha).1, fun i k a h1 h2 => o.dj i k a (offF_sub h1).1 (offF_sub h2).1, fun i => ?_, fun i hi => ?_, by rw [List.length_set, o.len], fun i s hs => ?_⟩, v, q1, q2, fun a ha => ?_⟩
  · unfold offF; split; exact List.nodup_nil; exact o.nd i
  · rw [List.length_set] at hi
    unfold offF
    split
    · rfl
    · exact o.out i hi
  · by_cases q : i = j
    · subst q
      rw [List.getElem?_set_self hlt] at hs
      cases hs
      exact if_pos rfl
    · rw [List.getElem?_set_ne (Ne.symm q)] at hs
      rw [show offF F j i = F i from if_neg q]
      exact o.at_ i s hs
  · obtain ⟨h1, h2, h3⟩ := o.fk j a ha
    refine ⟨h2, h1, q3 a ha, fun i z => ?_⟩
    obtain ⟨z1, z2⟩ := offF_sub z
    exact z2 (o.dj i j a z1 ha)
theorem puy_mv (j : Nat) {x : Str} (hN : X.N[j]? = some x := by rfl) (hv : Vis X.env.scope x := by first | exact Or.inl rfl | exact Or.inr (Or.inl rfl) | exact Or.inr (Or.inr rfl))
    (hd : (x == ("__debug__" : Str)) = false := by decide) (hcd : (x == ("__classdict__" : Str)) = false := by decide) : PuY cm X (.Name x pos) (yMv j) := by
  refine ⟨_, pe_var hN hv hd hcd, fun z B F ρ σ H d ρ' Q ok hf hQ => ?_⟩
  unfold yMv at hf
  split at hf
  · rename_i c hc
    cases hf
    obtain ⟨ok', v, q1, q2, q3⟩ := ok.take hc
    exact ⟨v, q1, hQ v B _ H (F j) (Same.refl B) ok' q2 (ok.nd j) q3⟩
  · cases hf
theorem loose_gr {x : Fx} {B B' H H' : Hp} {F : Nat → List Addr} {Γ : Ga} {d : D} {v : V} {fp : List Addr} (bh : Same B' H') (g : Gr B H B' H') (o : Own Γ H d v fp) (l : ∀ a ∈ fp, Loose x B F a) : ∀ a ∈ fp, Loose x B' F a := fun a ha => by
  obtain ⟨u, hu, bx⟩ := o.box a ha
  obtain ⟨h1, h2, h3, h4⟩ := l a ha
  exact ⟨box_gr bh g h1 hu bx, h2, h3, h4⟩
/-! ### P.f = e -/
def putFD (f : Str) (x : D) : List (Str × D) → List (Str × D)
  | [] => [(f, x)]
  | (g, d) :: r => if g = f then (g, x) :: r else (g, d) :: putFD f x r
theorem OwnF.put {Γ : Ga} {H : Hp} {f : Str} {x : D} {v : V} {fx : List Addr} (hx : Own Γ H x v fx) : ∀ {ds : List (Str × D)} {vs : List (Str × V)} {fp : List Addr}, OwnF Γ H ds vs fp → (fp ++ fx).Nodup →
    ∃ fz, OwnF Γ H (putFD f x ds) (putF f v vs) fz ∧ fz.Nodup ∧ ∀ b ∈ fz, b ∈ fp ∨ b ∈ fx
  | [], _, _, h, hn => by
    obtain ⟨rfl, rfl⟩ := h
    exact ⟨fx, ⟨v, [], fx, [], rfl, hx, ⟨rfl, rfl⟩, by simp⟩, by simpa using hn, fun b hb => .inr hb⟩
  | (g, d) :: r, _, _, ⟨u, s, f1, f2, e, h1, h2, ef⟩, hn => by
    subst e ef
    have hn2 : (f2 ++ fx).Nodup := by
      rw [List.append_assoc] at hn
      exact (List.nodup_append.mp hn).2.1
    by_cases q : g = f
    · rw [putFD, if_pos q, putF, if_pos q]
      refine ⟨fx ++ f2, ⟨v, s, fx, f2, rfl, hx, h2, rfl⟩, ?_, fun b hb => ?_⟩
      · rw [List.nodup_append] at hn2 ⊢
        exact ⟨hn2.2.1, hn2.1, fun a ha b hb e => hn2.2.2 b hb a ha e.symm⟩
      · rcases List.mem_append.mp hb with hb | hb
        · exact .inr hb
        · exact .inl (by simp [hb])
    · rw [putFD, if_neg q, putF, if_neg q]
      obtain ⟨fz, o, n, m⟩ := OwnF.put hx h2 hn2
      refine ⟨f1 ++ fz, ⟨u, _, f1, fz, rfl, h1, o, rfl⟩, ?_, fun b hb => ?_⟩
      · rw [List.append_assoc, List.nodup_append] at hn
        refine List.nodup_append.mpr ⟨hn.1, n, fun a ha b hb e => ?_⟩
        rcases m b hb with z | z
        · exact hn.2.2 a ha b (by simp [z]) e
        · exact hn.2.2 a ha b (by simp [z]) e
      · rcases List.mem_append.mp hb with hb | hb
        · exact .inl (by simp [hb])
        · exact (m b hb).imp (fun z => by simp [z]) id
theorem OwnF.length {Γ : Ga} {H : Hp} : ∀ {ds : List (Str × D)} {vs : List (Str × V)} {fp : List Addr}, OwnF Γ H ds vs fp → vs.length = ds.length
  | [], _, _, h => by rw [h.1]; rfl
  | _ :: _, _, _, ⟨v, r, f1, f2, e, _, h2, _⟩ => by subst e; rw [List.length_cons, List.length_cons, OwnF.length h2]
theorem own_ins {Γ : Ga} {H : Hp} {c : Nat} {fs : List (Str × D)} {v : V} {fp : List Addr} (h : Own Γ H (.ins c fs) v fp) : ∃ a dx vs fq, v = .ref a ∧ H a = some (.ins (Γ.cm c) dx vs) ∧ OwnF Γ H fs vs fq ∧ fp = a :: fq := h
/-- the field itself is written: the state behind -/
theorem fld_write {i : Nat} {x : Fx} {B : Hp} {F : Nat → List Addr} {ρ : Ev} {σ : St} {H : Hp} {pth : List Stp} {c : Nat} {fs : List (Str × D)} {f : Str} {y d0 : D} {a : Addr} {v0 u : V} {dx : Addr} {vs : List (Str × V)} {fx : List Addr} {Q : Hp → Prop} (ok : Ok (gx X cm) x B F ρ σ H) (ew : wayD ρ i pth = some (.ins c fs)) (ho0 : ownD ρ i = some d0)
    (hv0 : σ[i]? = some (some v0)) (hg : vgets H v0 pth = some (.ref a)) (h1 : H a = some (.ins (cm c) dx vs)) (ou : Own (gx X cm) H y u fx) (nu : fx.Nodup) (lu : ∀ a ∈ fx, Loose x B F a)
    (hQ : ∀ H' F', Ok (gx X cm) x B F' (setOwn ρ i (dreps d0 pth (.ins c (putFD f y fs)))) σ H' → Q H') : Q (upd H a (.ins (cm c) dx (putF f u vs))) := by
  obtain ⟨F', ok3⟩ := ok.writePart (y := .ins c (putFD f y fs)) (u := .ins (cm c) dx (putF f u vs)) (fx := fx) ew hv0 hg trivial (fun fq2 hq nq => by
      obtain ⟨a', dx', vs', fr', ea, k1', k2', ef⟩ := own_ins hq
      cases ea
      rw [h1] at k1'
      cases k1'
      cases ef
      have hkeep : ∀ b, b ≠ a → (upd H a (.ins (cm c) dx (putF f u vs))) b = H b := fun b hb => upd_ne hb
      have tk : TupK H (upd H a (.ins (cm c) dx (putF f u vs))) := TupK.upd (by intro xs z; rw [h1] at z; cases z)
      rw [List.cons_append, List.nodup_cons] at nq
      obtain ⟨fz, o, n, m⟩ := OwnF.put (f := f) (ou.keep tk fun b hb => hkeep b fun z => nq.1 (by rw [← z]; simp [hb])) (k2'.keep tk fun b hb => hkeep b fun z => nq.1 (by rw [← z]; simp [hb])) nq.2
      refine ⟨a :: fz, ⟨a, dx, _, fz, rfl, upd_same, o, rfl⟩, List.nodup_cons.mpr ⟨fun hb => nq.1 (List.mem_append.mpr (m a hb)), n⟩, fun b hb => ?_⟩
      rcases List.mem_cons.mp hb with rfl | hb
      · exact .inl (by simp)
      · exact (m b hb).imp (fun z => by simp [z]) id) nu lu ⟨_, h1, trivial⟩ (fun fq hq => by
      obtain ⟨a', dx', vs', fr', ea, _, _, ef⟩ := own_ins hq
      cases ea
      exact ⟨fr', ef⟩) d0 ho0
  exact hQ _ F' ok3
def sFldY (n : Nat) (f : Str) (i : Nat) (w : WF) (g : YF) : SF := fun ρ => (g ρ).bind fun y => (w y.2).bind fun p => (wayD y.2 i p).bind fun d => match d with
  | .ins c fs => if c = n ∧ fs.length < 1000 then (putW y.2 i p (.ins c (putFD f y.1 fs))).map .nx else none
  | _ => none
theorem pus_fldY (n : Nat) {f : Str} {i : Nat} {w : WF} {g : YF} {pos' : Pos} (hc : Cls X.K (cm n)) (hn : NoAttr X.K (cm n) f) (hv : PuY cm X e2 g) (hP : PuL cm X e i w) (hs : swapsWith e2 (some (.Attribute e f pos')) pos.line X.env = pure false := by rfl) : PuS cm X (.Assign [.Attribute e f pos'] e2 pos) (sFldY n f i w g) := by
  obtain ⟨t, p, q⟩ := hv
  obtain ⟨t2, p2, q2⟩ := hP
  refine ⟨_, ps_fld p2 p hs, fun x B F ρ σ H r E ok hf hE => ?_⟩
  unfold sFldY at hf
  cases e1 : g ρ with
  | none => rw [e1] at hf; cases hf
  | some y =>
    obtain ⟨y, ρ1⟩ := y
    rw [e1] at hf
    simp only [Option.bind_some] at hf
    cases e3 : w ρ1 with
    | none => rw [e3] at hf; cases hf
    | some pth =>
      rw [e3] at hf
      simp only [Option.bind_some] at hf
      cases ew : wayD ρ1 i pth with
      | none => rw [ew] at hf; cases hf
      | some d =>
        rw [ew] at hf
        simp only [Option.bind_some] at hf
        split at hf
        · rename_i c fs
          split at hf
          · rename_i hcn
            obtain ⟨rfl, hl⟩ := hcn
            obtain ⟨d0, ho0, _⟩ := wayD_some ew
            rw [putW, ho0] at hf
            cases hf
            refine q x B F ρ σ H y ρ1 _ ok e1 fun u B1 F1 H1 fx s1 ok1 ou nu lu => ?_
            refine q2 x B1 F1 ρ1 σ H1 pth _ _ ok1 e3 ew fun v v0 B2 H2 g2 ok2 hv0 hg2 => ?_
            obtain ⟨_, l, fq, rr, _, _, ho, _⟩ := ok2.part ew hv0 hg2
            obtain ⟨a, dx, vs, fr, rfl, h1, h2, rfl⟩ := own_ins ho
            refine ⟨a, cm c, dx, vs, rfl, h1, hc, hn, by rw [h2.length]; exact hl, ?_⟩
            exact fld_write (Q := fun H => E.nx σ H) ok2 ew ho0 hv0 hg2 h1 (own_gr g2 ou) nu (loose_gr ok2.bh g2 ou lu) fun H' F' ok' => hE B2 F' σ H' (s1.trans g2.bb) ok'
          · cases hf
        · cases hf
/-! ### P.f += e -/
theorem getF_lookup {Γ : Ga} {H : Hp} : ∀ {ds : List (Str × D)} {vs : List (Str × V)} {f : Str} {d : D}, IsF Γ H ds vs → getF ds f = some d → ∃ v, vs.lookup f = some v ∧ Is Γ H d v
  | [], _, _, _, _, e => by simp [getF] at e
  | (g, d0) :: r, _, f, d, ⟨v, s, e, h1, h2⟩, q => by
    subst e
    rw [getF] at q
    by_cases hg : g = f
    · rw [if_pos hg] at q
      cases q
      exact ⟨v, by rw [hg]; exact lookup_pos, h1⟩
    · rw [if_neg hg] at q
      rw [lookup_neg hg]
      exact getF_lookup h2 q
def sFldA (n : Nat) (f : Str) (i : Nat) (w : WF) (fe : EF) : SF := fun ρ => (w ρ).bind fun p => (wayD ρ i p).bind fun d => match d with
  | .ins c fs => (getF fs f).bind fun a => (fe ρ).bind fun b => (augAdd a b.1).bind fun z => if c = n ∧ fs.length < 999 then (putW ρ i p (.ins c (putFD f z fs))).map .nx else none
  | _ => none
theorem inop_add : InOp X .Add (ipI fun i j => i + j) := fun pins s σ H x y u v Q I r1 r2 h => ip_add pins s σ H x y u v Q I r1 r2 h
theorem pus_fldA (n : Nat) {f : Str} {i : Nat} {w : WF} {fe : EF} {tpos : Pos} (hc : Cls X.K (cm n)) (hn : NoAttr X.K (cm n) f) (hv : PuE cm X e2 fe) (hP : PuL cm X e i w) : PuS cm X (.AugAssign (.Attribute e f tpos) .Add e2 pos) (sFldA n f i w fe) := by
  obtain ⟨t, p, q⟩ := hv
  obtain ⟨t2, p2, q2⟩ := hP
  refine ⟨_, ps_fldaug p2 p inop_add, fun x B F ρ σ H r E ok hf hE => ?_⟩
  unfold sFldA at hf
  cases e3 : w ρ with
  | none => rw [e3] at hf; cases hf
  | some pth =>
    rw [e3] at hf
    simp only [Option.bind_some] at hf
    cases ew : wayD ρ i pth with
    | none => rw [ew] at hf; cases hf
    | some d =>
      rw [ew] at hf
      simp only [Option.bind_some] at hf
      split at hf
      · rename_i c fs
        cases ef : getF fs f with
        | none => rw [ef] at hf; cases hf
        | some av =>
          rw [ef] at hf
          simp only [Option.bind_some] at hf
          cases ee : fe ρ with
          | none => rw [ee] at hf; cases hf
          | some b =>
            rw [ee] at hf
            simp only [Option.bind_some] at hf
            cases ez : augAdd av b.1 with
            | none => rw [ez] at hf; cases hf
            | some z =>
              rw [ez] at hf
              simp only [Option.bind_some] at hf
              split at hf
              · rename_i hcn
                obtain ⟨rfl, hl⟩ := hcn
                obtain ⟨d0, ho0, _⟩ := wayD_some ew
                rw [putW, ho0] at hf
                cases hf
                unfold augAdd at ez
                split at ez
                · rename_i n k eb
                  cases ez
                  refine q2 x B F ρ σ H pth _ _ ok e3 ew fun v v0 B2 H2 g2 ok2 hv0 hg2 => ?_
                  obtain ⟨_, l, fq, rr, _, _, ho, _⟩ := ok2.part ew hv0 hg2
                  obtain ⟨a, dx, vs, fr, rfl, h1, h2, rfl⟩ := own_ins ho
                  obtain ⟨w0, hw, hiw⟩ := getF_lookup (Γ := gx X cm) (H := H2) (OwnF.isIn tupOf_same (fun _ _ => rfl) h2) ef
                  refine ⟨a, cm c, dx, vs, w0, rfl, h1, hc, hn, hw, ?_⟩
                  refine q x B2 F ρ σ H2 _ _ _ ok2 ee fun u B3 H3 g3 ok3 hu => ?_
                  have hu := hu.is ok3
                  rw [eb] at hu
                  cases hu
                  cases hiw
                  refine ⟨n, k, rfl, rfl, dx, vs, g3.hh _ _ h1, by rw [h2.length]; omega, ?_⟩
                  exact fld_write (Q := fun H => E.nx σ H) (u := .int (n + k)) (y := .int (n + k)) (fx := []) ok3 ew ho0 hv0 (vgets_gr g3 hg2) (g3.hh _ _ h1) ⟨rfl, rfl⟩ List.nodup_nil (fun _ h => nomatch h) fun H' F' ok' => hE B3 F' σ H' (g2.bb.trans g3.bb) ok'
                · cases ez
              · cases hf
      · cases hf
/-! ### P[k] += e -/
def rGetA (K : PySem.W.Frag) : V → V → Hp → VK → Prop := fun o i H Q => rIxL K o i H Q ∨ ∃ p v, o = .ref p ∧ DGet H p i (some v) ∧ Q v H
theorem get_any (hu : X.A.units + 1 < cLine) : PGet X (rGetA X.K) := by
  intro pins s σ H o i ov iv Q I ro ri h
  rcases h with h | ⟨p, v, rfl, g, q⟩
  · obtain ⟨p, xs, k, z, rfl, rfl, hq, he, q⟩ := h
    cases ro
    obtain ⟨t, rfl⟩ := ri
    obtain ⟨its, r, pl, hz⟩ := I.list hq
    obtain ⟨j, h1, h2, h3, h4, h5⟩ := atI_get he
    obtain ⟨w, ew, rw'⟩ := r.get h2
    have hl := r.length
    have hn := line63
    have fin : EP X pins σ Q w s := ⟨z, H, I, rw', q⟩
    by_cases h0 : 0 ≤ k
    · have hj : k.toNat = j := by
        rw [seqIndex_of h0 h5] at h1
        exact Option.some.inj h1
      exact wpAny_getItem_list pl.isList h0 (by omega) (by rw [hj]; simpa using ew) fin
    · have hj : (k + (its.toArray.size : Int)).toNat = j := by
        rw [seqIndex_neg (by omega) h4] at h1
        rw [List.size_toArray, ← hl]
        exact Option.some.inj h1
      exact wpAny_getItem_list_neg pl.isList (by omega) (by rw [List.size_toArray] <;> omega) (by omega) (by rw [hj]; simpa using ew) fin
  · cases ro
    exact d_getItem hu I g ri fun w' s3 I3 rw' => ⟨v, H, I3, rw', q⟩
def sAugP (i : Nat) (w : WF) (fk fe : EF) : SF := fun ρ => (w ρ).bind fun p => (wayD ρ i p).bind fun d => (fk ρ).bind fun k => (ixD d k.1).bind fun c => (fe ρ).bind fun b => (augAdd c b.1).bind fun z => (itemD d k.1 z).bind fun d' => (putW ρ i p d').map .nx
theorem get_own {Γ : Ga} {H : Hp} {d k c y z : D} {v u : V} {fp : List Addr} {Q : VK} (h : Own Γ H d v fp) (hk : Is Γ H k u) (e : ixD d k = some c) (hz : itemD d k y = some z) (hQ : ∀ w, Is Γ H c w → Q w H) : rGetA Γ.K v u H Q := by
  cases d with
  | lst ds =>
    obtain ⟨a, vs, fq, rfl, h1, h2, _⟩ := h
    cases k with
    | int i =>
      cases hk
      obtain ⟨w, e1, e2⟩ := atI_iss (Owns.isIn (R := H) tupOf_same (fun _ _ => rfl) h2) e
      exact .inl ⟨a, vs, i, w, rfl, rfl, SqL.of h1, e1, hQ w e2⟩
    | _ => simp [ixD] at e
  | dic kvs =>
    obtain ⟨a, vs, fq, rfl, h1, h2, _⟩ := h
    have e : ((keyOf k).bind fun k => getK kvs k) = some c := by cases k <;> exact e
    cases e1 : keyOf k with
    | none => rw [e1] at e; cases e
    | some kk =>
      rw [e1] at e
      simp only [Option.bind_some] at e
      cases keyOf_is e1 hk
      obtain ⟨w, g1, g2⟩ := (OwnK.isIn (R := H) tupOf_same (fun _ _ => rfl) h2).some e
      exact .inr ⟨a, w, rfl, by rw [← g1]; exact DGet.k h1, hQ w g2⟩
  | _ => simp [itemD] at hz
theorem pus_augP {i : Nat} {w : WF} {fk fe : EF} {k : Expr} {tpos : Pos} (hu : X.A.units + 1 < cLine) (hP : PuL cm X e i w) (hk : PuE cm X k fk) (hv : PuE cm X e2 fe)
    (ha : ∀ ov iv new, augStore k ov iv new = (do holding [new, ov, iv] (setItem ov iv new); release [new, ov, iv] []; pure .next) := by intros; rfl) : PuS cm X (.AugAssign (.Subscript e k tpos) .Add e2 pos) (sAugP i w fk fe) := by
  obtain ⟨t, p, q⟩ := hv
  obtain ⟨t2, p2, q2⟩ := hP
  obtain ⟨t3, p3, q3⟩ := hk
  refine ⟨_, ps_augS p2 p3 (get_any hu) p ip_add (set_any hu) ha, fun x B F ρ σ H r E ok hf hE => ?_⟩
  unfold sAugP at hf
  cases e3 : w ρ with
  | none => rw [e3] at hf; cases hf
  | some pth =>
    rw [e3] at hf
    simp only [Option.bind_some] at hf
    cases ew : wayD ρ i pth with
    | none => rw [ew] at hf; cases hf
    | some d =>
      rw [ew] at hf
      simp only [Option.bind_some] at hf
      cases ek : fk ρ with
      | none => rw [ek] at hf; cases hf
      | some kk =>
        rw [ek] at hf
        simp only [Option.bind_some] at hf
        cases ec : ixD d kk.1 with
        | none => rw [ec] at hf; cases hf
        | some c =>
          rw [ec] at hf
          simp only [Option.bind_some] at hf
          cases ee : fe ρ with
          | none => rw [ee] at hf; cases hf
          | some b =>
            rw [ee] at hf
            simp only [Option.bind_some] at hf
            cases ez : augAdd c b.1 with
            | none => rw [ez] at hf; cases hf
            | some z =>
              rw [ez] at hf
              simp only [Option.bind_some] at hf
              cases ei : itemD d kk.1 z with
              | none => rw [ei] at hf; cases hf
              | some d' =>
                rw [ei] at hf
                simp only [Option.bind_some] at hf
                obtain ⟨d0, ho0, _⟩ := wayD_some ew
                rw [putW, ho0] at hf
                cases hf
                unfold augAdd at ez
                split at ez
                · rename_i n m eb
                  cases ez
                  refine q2 x B F ρ σ H pth _ _ ok e3 ew fun v v0 B2 H2 g2 ok2 hv0 hg2 => ?_
                  refine q3 x B2 F ρ σ H2 _ _ _ ok2 ek fun ku B3 H3 g3 ok3 hku => ?_
                  have hg3 := vgets_gr g3 hg2
                  obtain ⟨_, l, fq, rr, _, _, ho, _⟩ := ok3.part ew hv0 hg3
                  refine get_own ho (hku.is ok3) ec ei fun w0 hw0 => ?_
                  cases hw0
                  refine q x B3 F ρ σ H3 _ _ _ ok3 ee fun u B4 H4 g4 ok4 hu4 => ?_
                  have hu4 := hu4.is ok4
                  rw [eb] at hu4
                  cases hu4
                  refine ⟨n, m, rfl, rfl, ?_⟩
                  exact item_write (Q := fun H => E.nx σ H) (y := .int (n + m)) (u := .int (n + m)) (fx := []) ok4 ok4 (Gr.refl _ _) ew ho0 hv0 (vgets_gr g4 hg3) (hku.is ok3 |>.mono g4.hh) ⟨rfl, rfl⟩ List.nodup_nil (fun _ h => nomatch h) ei fun H' F' ok' => hE B4 F' σ H' (g2.bb.trans (g3.bb.trans g4.bb)) ok'
                · cases ez
/-! ### P.pop() -/
def sPop (j i : Nat) (w : WF) : SF := fun ρ => (w ρ).bind fun p => (wayD ρ i p).bind fun d => match d with
  | .lst ds => (ds[ds.length - 1]?).bind fun y => if flat y = true then (putW ρ i p (.lst ds.dropLast)).bind fun ρ1 => (setS j y .new ρ1).map .nx else none
  | _ => none
theorem Owns.dropLast {Γ : Ga} {H : Hp} : ∀ {ds : List D} {vs : List V} {fp : List Addr}, Owns Γ H ds vs fp → fp.Nodup → ∃ fq, Owns Γ H ds.dropLast vs.dropLast fq ∧ fq.Nodup ∧ ∀ b ∈ fq, b ∈ fp
  | [], _, _, h, _ => by
    obtain ⟨rfl, rfl⟩ := h
    exact ⟨[], ⟨rfl, rfl⟩, List.nodup_nil, fun _ h => h⟩
  | [d], _, _, ⟨u, s, f1, f2, e, h1, h2, ef⟩, hn => by
    subst e ef
    obtain ⟨rfl, rfl⟩ := h2
    exact ⟨[], ⟨rfl, rfl⟩, List.nodup_nil, fun _ h => nomatch h⟩
  | d :: d2 :: r, _, _, ⟨u, s, f1, f2, e, h1, h2, ef⟩, hn => by
    subst e ef
    have hn' := List.nodup_append.mp hn
    obtain ⟨fq, o, n, m⟩ := Owns.dropLast h2 hn'.2.1
    obtain ⟨v2, s2, _, _, e2, _, _, _⟩ := h2
    subst e2
    refine ⟨f1 ++ fq, ⟨u, _, f1, fq, rfl, h1, o, rfl⟩, List.nodup_append.mpr ⟨hn'.1, n, fun a ha b hb e => hn'.2.2 a ha b (m b hb) e⟩, fun b hb => ?_⟩
    rcases List.mem_append.mp hb with hb | hb
    · simp [hb]
    · simp [m b hb]
theorem pus_pop (j : Nat) {x : Str} {i : Nat} {w : WF} {apos cpos pos' : Pos} (hN : X.N.Nodup) (hP : PuL cm X e i w) (hi : X.N[j]? = some x := by rfl) (hx : Loc X.env.scope x := by first | exact .inl rfl | exact .inr rfl)
    (hs : swapsWith (.Call (.Attribute e "pop" apos) [] [] cpos) (some (.Name x pos')) pos.line X.env = pure false := by rfl) (hf : X.fn x = true ∨ X.env.scope.names.lookup x = some .local := by first | exact .inl rfl | exact .inr rfl)
    (hbase : attributeBase e "pop" X.env (eval e X.env) = eval e X.env := by rfl) (hline : (apos.endLine == cpos.line) = true := by rfl) : PuS cm X (.Assign [.Name x pos'] (.Call (.Attribute e "pop" apos) [] [] cpos) pos) (sPop j i w) := by
  obtain ⟨t, p, q⟩ := hP
  refine ⟨_, ps_set hN hi hx (pe_bm0 PySem.F.plainAttrs_list PySem.F.slot_list_pop PySem.F.type_list_pop mt_pop p hbase hline) hs hf, fun x B F ρ σ H r E ok hf hE => ?_⟩
  unfold sPop at hf
  cases e1 : w ρ with
  | none => rw [e1] at hf; cases hf
  | some pth =>
    rw [e1] at hf
    simp only [Option.bind_some] at hf
    cases ew : wayD ρ i pth with
    | none => rw [ew] at hf; cases hf
    | some d =>
      rw [ew] at hf
      simp only [Option.bind_some] at hf
      split at hf
      · rename_i ds
        cases ey : ds[ds.length - 1]? with
        | none => rw [ey] at hf; cases hf
        | some y =>
          rw [ey] at hf
          simp only [Option.bind_some] at hf
          split at hf
          · rename_i hfl
            obtain ⟨d0, ho0, _⟩ := wayD_some ew
            rw [putW, ho0] at hf
            simp only [Option.map_some, Option.bind_some] at hf
            cases es : setS j y .new (setOwn ρ i (dreps d0 pth (.lst ds.dropLast))) with
            | none => rw [es] at hf; cases hf
            | some ρ2 =>
              rw [es] at hf
              cases hf
              refine q x B F ρ σ H pth _ _ ok e1 ew fun v v0 B1 H1 g1 ok1 hv0 hg1 => ?_
              obtain ⟨_, l, fq, rr, _, _, ho, _⟩ := ok1.part ew hv0 hg1
              obtain ⟨a, vs, fr, rfl, h1, h2, rfl⟩ := own_lst ho
              have hlv : vs.length = ds.length := h2.length
              obtain ⟨u, eu, hu⟩ := (Owns.isIn (R := H1) tupOf_same (fun _ _ => rfl) h2).get ey
              refine ⟨.inl ⟨rfl, _, SqL.of h1⟩, a, vs, u, rfl, rfl, h1, by rw [hlv]; exact eu, ?_⟩
              obtain ⟨F', ok3⟩ := ok1.writePart (y := .lst ds.dropLast) (u := .lst vs.dropLast) (fx := []) ew hv0 hg1 trivial (fun fq2 hq nq => by
                  obtain ⟨a', vs', fr', ea, k1', k2', ef⟩ := own_lst hq
                  cases ea
                  rw [h1] at k1'
                  cases k1'
                  cases ef
                  have hkeep : ∀ b, b ≠ a → (upd H1 a (.lst vs.dropLast)) b = H1 b := fun b hb => upd_ne hb
                  have tk : TupK H1 (upd H1 a (.lst vs.dropLast)) := TupK.upd (by intro xs z; rw [h1] at z; cases z)
                  rw [List.append_nil, List.nodup_cons] at nq
                  obtain ⟨fz, o, n, m⟩ := Owns.dropLast (k2'.keep tk fun b hb => hkeep b fun z => nq.1 (by rw [← z]; exact hb)) nq.2
                  refine ⟨a :: fz, ⟨a, _, fz, rfl, upd_same, o, rfl⟩, List.nodup_cons.mpr ⟨fun hb => nq.1 (m a hb), n⟩, fun b hb => ?_⟩
                  rcases List.mem_cons.mp hb with rfl | hb
                  · exact .inl (by simp)
                  · exact .inl (by simp [m b hb])) List.nodup_nil (fun _ h => nomatch h) ⟨_, h1, trivial⟩ (fun fq hq => by
                  obtain ⟨a', vs', fr', ea, _, _, ef⟩ := own_lst hq
                  cases ea
                  exact ⟨fr', ef⟩) d0 ho0
              have hu3 : Is (gx X cm) (upd H1 a (.lst vs.dropLast)) y u := Is.mono (fun b o e => by
                obtain ⟨e1, xs, rfl⟩ := tupOf_some e
                rw [upd_ne (fun z => by rw [z, h1] at e1; cases e1)]
                exact e1) (Is.ofFlat hfl hu)
              exact hE B1 _ _ _ g1.bb (ok3.setS es (show Is (gx X cm) B1 y u from Val.new ok3 (m := .own) (by simp [hfl]) hu3))
          · cases hf
      · cases hf
/-! ### list(xs) as a fresh thing -/
def nLstC (g : AF) : NF := fun ρ => (g ρ).bind fun as => match lstC (as.map (·.1)) with
  | some (.lst ds) => if flats ds = true then some (.lst ds) else none
  | _ => none
theorem pn_lstc {g : AF} {p : Pos} (hm : X.mg "list" = none) (ha : PuA cm X (e :: es) g) (hg : Gl X "list" := by rfl)
    (he : starEach (e :: es) X.env = (false, eval e X.env) :: starEach es X.env := by rfl) (hpl : (backTo pos (starEach es X.env)).any (·.1) = false := by rfl) : PuN cm X (.Call (.Name "list" p) (e :: es) [] pos) (nLstC g) := by
  obtain ⟨t, pa, qa⟩ := ha
  refine ⟨_, pe_callTy call_list_of hg hm (by decide +kernel) pa (by decide) (by decide) he hpl, fun x B F ρ σ H d Q ok hf hQ => ?_⟩
  unfold nLstC at hf
  cases e1 : g ρ with
  | none => rw [e1] at hf; cases hf
  | some as =>
    rw [e1] at hf
    simp only [Option.bind_some] at hf
    split at hf
    · rename_i ds el
      split at hf
      · rename_i hfl
        cases hf
        refine qa x B F ρ σ H as _ ok e1 fun vs B1 H1 g1 ok1 hvs => ?_
        have h := paired_iss ok1 hvs
        have fin : ∀ us, Iss (gx X cm) H1 ds us → ∀ l, H1 l = none → Q (.ref l) (upd H1 l (.lst us)) := fun us hus l hl => by
          obtain ⟨g2, ok2⟩ := ok1.laidH (o := .lst us) hl (fun xs z => nomatch z)
          refine hQ (.ref l) B1 _ [l] (g1.trans g2) ok2 ⟨l, us, [], rfl, upd_same, Owns.ofFlat hfl (hus.mono g2.hh), rfl⟩ (by simp) fun a ha => ?_
          rcases List.mem_cons.mp ha with rfl | ha
          · exact ⟨g1.hh.free hl, Same.free ok1.bh hl⟩
          · cases ha
        unfold lstC at el
        split at el
        · rename_i ds0 eas
          rw [eas] at h
          split at el
          · cases el
            obtain ⟨v, rfl, p, us, rfl, h1, h2⟩ := iss1 h
            exact ⟨p, us, rfl, .inl (SqL.of h1), fin us h2⟩
          · cases el
        · rename_i ds0 eas
          rw [eas] at h
          split at el
          · cases el
            obtain ⟨v, rfl, p, us, rfl, h1, h2⟩ := iss1 h
            exact ⟨p, us, rfl, .inr (SqT.of h1), fin us h2⟩
          · cases el
        · rename_i ns eas
          rw [eas] at h
          cases el
          obtain ⟨v, rfl, p, rfl, h1⟩ := iss1 h
          exact ⟨p, _, rfl, .inl h1, fin _ (Iss.scr _)⟩
        · cases el
      · cases hf
    · cases hf
end
end DL

/-! DL26: the functions of data reckoned by what holds behind (Wp). -/
namespace DL
open PySem L2
def Wp (g : SF) (ρ : Ev) (Φ : Fl → Prop) : Prop := ∃ r, g ρ = some r ∧ Φ r
theorem wp_se {g : SF} {ρ : Ev} {r : Fl} {Φ : Fl → Prop} (h : Se g ρ r) (h2 : Φ r) : Wp g ρ Φ := ⟨r, h, h2⟩
theorem Wp.imp {g : SF} {ρ : Ev} {Φ Ψ : Fl → Prop} (h : Wp g ρ Φ) (hi : ∀ r, Φ r → Ψ r) : Wp g ρ Ψ := by
  obtain ⟨r, h1, h2⟩ := h
  exact ⟨r, h1, hi r h2⟩
theorem wp_nx {g h : SF} {ρ ρ' : Ev} {Φ : Fl → Prop} (h1 : Se g ρ (.nx ρ')) (h2 : Wp h ρ' Φ) : Wp (bSeq g h) ρ Φ := by
  obtain ⟨r, h3, h4⟩ := h2
  exact ⟨r, se_seq h1 h3, h4⟩
theorem wp_seq {g h : SF} {ρ : Ev} {Φ : Fl → Prop} (h1 : Wp g ρ fun r => match r with
    | .nx ρ' => Wp h ρ' Φ
    | r => Φ r) : Wp (bSeq g h) ρ Φ := by
  obtain ⟨r, h2, h3⟩ := h1
  unfold Wp bSeq
  rw [h2]
  cases r with
  | nx ρ' => exact h3
  | rt d ρ' => exact ⟨_, rfl, h3⟩
  | bk ρ' => exact ⟨_, rfl, h3⟩
  | ct ρ' => exact ⟨_, rfl, h3⟩
/-- a part that always goes on -/
theorem wp_mid {g h : SF} {ρ : Ev} {Φ : Fl → Prop} (P : Ev → Prop) (h1 : Wp g ρ fun r => ∃ ρ', r = .nx ρ' ∧ P ρ') (h2 : ∀ ρ', P ρ' → Wp h ρ' Φ) : Wp (bSeq g h) ρ Φ := by
  obtain ⟨r, e, ρ', rfl, hp⟩ := h1
  exact wp_nx e (h2 ρ' hp)
theorem wp_end {g : SF} {ρ ρ' : Ev} {Φ : Fl → Prop} (h1 : Se g ρ (.nx ρ')) (h2 : Φ (.nx ρ')) : Wp g ρ Φ := ⟨_, h1, h2⟩
theorem wp_nil {ρ : Ev} {Φ : Fl → Prop} (h : Φ (.nx ρ)) : Wp bNil ρ Φ := ⟨_, rfl, h⟩
theorem wp_brk {ρ : Ev} {Φ : Fl → Prop} (h : Φ (.bk ρ)) : Wp sBreak ρ Φ := ⟨_, rfl, h⟩
theorem wp_ret {f : EF} {ρ : Ev} {d : D} {Φ : Fl → Prop} (h : Vf f ρ d) (h2 : flat d = true) (h3 : Φ (.rt d ρ)) : Wp (sRet f) ρ Φ := ⟨_, sf_ret h h2, h3⟩
theorem wp_retn {f : EF} {ρ : Ev} {d : D} {Φ : Fl → Prop} (h : Ve f ρ d .new) (h3 : Φ (.rt d ρ)) : Wp (sRet f) ρ Φ := ⟨_, sn_ret h, h3⟩
theorem wp_retOn {i : Nat} {ρ : Ev} {d : D} {Φ : Fl → Prop} (h : ρ[i]? = some (.on d)) (h3 : Φ (.rt d (ρ.set i (.fn d)))) : Wp (sRetOn i) ρ Φ := ⟨_, se_retOn h, h3⟩
theorem wp_if {c : Ev → Option Bool} {g h : SF} {ρ : Ev} {b : Bool} {Φ : Fl → Prop} (h1 : Te c ρ b) (ht : b = true → Wp g ρ Φ) (hf : b = false → Wp h ρ Φ) : Wp (sIf c g h) ρ Φ := by
  cases b with
  | true => obtain ⟨r, h2, h3⟩ := ht rfl; exact ⟨r, se_if_t h1 rfl h2, h3⟩
  | false => obtain ⟨r, h2, h3⟩ := hf rfl; exact ⟨r, se_if_f h1 rfl h2, h3⟩
theorem wp_if_t {c : Ev → Option Bool} {g h : SF} {ρ : Ev} {b : Bool} {Φ : Fl → Prop} (h1 : Te c ρ b) (hb : b = true) (h2 : Wp g ρ Φ) : Wp (sIf c g h) ρ Φ := wp_if h1 (fun _ => h2) fun z => by rw [hb] at z; cases z
theorem wp_if_f {c : Ev → Option Bool} {g h : SF} {ρ : Ev} {b : Bool} {Φ : Fl → Prop} (h1 : Te c ρ b) (hb : b = false) (h2 : Wp h ρ Φ) : Wp (sIf c g h) ρ Φ := wp_if h1 (fun z => by rw [hb] at z; cases z) fun _ => h2
theorem wp_g {c : Ev → Option Bool} {g h : SF} {ρ : Ev} {b : Bool} {Φ : Fl → Prop} (h1 : Te c ρ b) (ht : b = true → Wp (bSeq g h) ρ Φ) (hf : b = false → Wp h ρ Φ) : Wp (bSeq (sIf c g bNil) h) ρ Φ := by
  cases b with
  | true =>
    obtain ⟨r, h2, h3⟩ := ht rfl
    refine ⟨r, ?_, h3⟩
    unfold Te at h1
    rw [← h2]
    unfold bSeq sIf
    rw [h1]
    rfl
  | false => exact wp_nx (se_if_f h1 rfl se_nil) (hf rfl)
theorem wp_gr {c : Ev → Option Bool} {g h : SF} {ρ : Ev} {b : Bool} {Φ : Fl → Prop} (h1 : Te c ρ b) (ht : b = true → Wp g ρ fun r => ∃ d ρ', r = .rt d ρ' ∧ Φ r) (hf : b = false → Wp h ρ Φ) : Wp (bSeq (sIf c g bNil) h) ρ Φ := by
  refine wp_g h1 (fun hb => ?_) hf
  obtain ⟨r, h2, d, ρ', rfl, h3⟩ := ht hb
  exact ⟨_, se_seq_rt h2, h3⟩
theorem wp_now {g h : SF} {ρ : Ev} {Φ : Fl → Prop} (h1 : Wp g ρ fun r => ∃ d ρ', r = .rt d ρ' ∧ Φ r) : Wp (bSeq g h) ρ Φ := by
  obtain ⟨r, h2, d, ρ', rfl, h3⟩ := h1
  exact ⟨_, se_seq_rt h2, h3⟩
def FrK (P : Ev → Prop) (Ψ : Fl → Prop) : Fl → Prop
  | .nx ρ => P ρ
  | .ct ρ => P ρ
  | .bk ρ => Ψ (.nx ρ)
  | .rt d ρ => Ψ (.rt d ρ)
theorem forGo_wp {g : GF} {b : SF} {m : Md} (P : Nat → Ev → Prop) {Ψ : Fl → Prop} : ∀ {ds : List D} {ρ : Ev} (k : Nat), P k ρ → (∀ i d ρ, ds[i]? = some d → P (k + i) ρ → ∃ ρ1, g d (effm m d) ρ = some ρ1 ∧ Wp b ρ1 (FrK (P (k + i + 1)) Ψ)) → (∀ ρ', P (k + ds.length) ρ' → Ψ (.nx ρ')) →
    ∃ r, forGo g b m ds ρ = some r ∧ Ψ r
  | [], ρ, k, h0, _, he => ⟨_, rfl, he ρ h0⟩
  | d :: r, ρ, k, h0, h, he => by
    obtain ⟨ρ1, h1, fl, h2, h3⟩ := h 0 d ρ rfl h0
    have rec_ : ∀ ρ2, P (k + 1) ρ2 → ∃ r', forGo g b m r ρ2 = some r' ∧ Ψ r' := fun ρ2 hp => forGo_wp P (ds := r) (k + 1) hp (fun i d' ρ e p => by
      have q := h (i + 1) d' ρ (by simpa using e) (by rw [show k + (i + 1) = k + 1 + i by omega]; exact p)
      rw [show k + (i + 1) + 1 = k + 1 + i + 1 by omega] at q
      exact q) fun ρ' hp => he ρ' (by rw [List.length_cons, show k + (r.length + 1) = k + 1 + r.length by omega]; exact hp)
    rw [forGo, h1]
    simp only [Option.bind_some, h2]
    cases fl with
    | nx ρ2 => exact rec_ ρ2 h3
    | ct ρ2 => exact rec_ ρ2 h3
    | bk ρ2 => exact ⟨_, rfl, h3⟩
    | rt d ρ2 => exact ⟨_, rfl, h3⟩
theorem wp_for {f : IF} {g : GF} {b : SF} {ρ : Ev} {ds : List D} {m : Md} {Ψ : Fl → Prop} (P : Nat → Ev → Prop) (hx : Xe f ρ ds m) (hm : notOwn m = true) (h0 : P 0 ρ)
    (h : ∀ i d ρ, ds[i]? = some d → P i ρ → Sg g d (effm m d) ρ fun ρ1 => Wp b ρ1 (FrK (P (i + 1)) Ψ)) (he : ∀ ρ', P ds.length ρ' → Ψ (.nx ρ')) : Wp (sFor f g b) ρ Ψ := by
  obtain ⟨r, h1, h2⟩ := forGo_wp P (ds := ds) (ρ := ρ) (g := g) (b := b) (m := m) (Ψ := Ψ) 0 h0 (fun i d ρ e p => by
    rw [Nat.zero_add] at p ⊢
    exact h i d ρ e p) (fun ρ' hp => he ρ' (by rw [Nat.zero_add] at hp; exact hp))
  refine ⟨r, ?_, h2⟩
  unfold sFor Xe at *
  rw [hx]
  simp only [Option.bind_some, hm, if_true]
  exact h1
/-- a loop in a block, then the rest -/
theorem wp_forS {f : IF} {g : GF} {b h : SF} {ρ : Ev} {ds : List D} {m : Md} {Φ : Fl → Prop} (P : Nat → Ev → Prop) (hx : Xe f ρ ds m) (hm : notOwn m = true) (h0 : P 0 ρ)
    (hb : ∀ i d ρ, ds[i]? = some d → P i ρ → Sg g d (effm m d) ρ fun ρ1 => Wp b ρ1 (FrK (P (i + 1)) fun r => match r with
      | .nx ρ' => Wp h ρ' Φ
      | r => Φ r)) (he : ∀ ρ', P ds.length ρ' → Wp h ρ' Φ) : Wp (bSeq (sFor f g b) h) ρ Φ :=
  wp_seq (wp_for P hx hm h0 hb he)
theorem wp_while {c : Ev → Option Bool} {b : SF} {ρ : Ev} {Ψ : Fl → Prop} (M : Nat → Ev → Prop) {n : Nat} (h0 : M n ρ)
    (h : ∀ n ρ, M n ρ → ∃ k, Te c ρ k ∧ (k = true → Wp b ρ (FrK (fun ρ' => ∃ n', n' < n ∧ M n' ρ') Ψ)) ∧ (k = false → Ψ (.nx ρ))) : Wp (sWhile c b) ρ Ψ := by
  have key : ∀ n ρ, M n ρ → ∃ N r, whGo c b N ρ = some r ∧ Ψ r := by
    intro n
    induction n using Nat.strongRecOn with
    | ind n ih =>
      intro ρ hm
      obtain ⟨k, h1, ht, hf⟩ := h n ρ hm
      unfold Te at h1
      cases k with
      | false => exact ⟨1, .nx ρ, by rw [whGo, h1]; rfl, hf rfl⟩
      | true =>
        obtain ⟨fl, h2, h3⟩ := ht rfl
        cases fl with
        | nx ρ2 =>
          obtain ⟨n', hn, hm'⟩ := h3
          obtain ⟨N, r, h4, h5⟩ := ih n' hn ρ2 hm'
          exact ⟨N + 1, r, by rw [whGo, h1]; simp [h2, h4], h5⟩
        | ct ρ2 =>
          obtain ⟨n', hn, hm'⟩ := h3
          obtain ⟨N, r, h4, h5⟩ := ih n' hn ρ2 hm'
          exact ⟨N + 1, r, by rw [whGo, h1]; simp [h2, h4], h5⟩
        | bk ρ2 => exact ⟨1, _, by rw [whGo, h1]; simp [h2], h3⟩
        | rt d ρ2 => exact ⟨1, _, by rw [whGo, h1]; simp [h2], h3⟩
  obtain ⟨N, r, h1, h2⟩ := key n ρ h0
  exact ⟨r, sWhile_of h1, h2⟩
/-! ### defs -/
def RtK (Φ : D → Prop) : Fl → Prop
  | .rt d _ => Φ d
  | .nx _ => Φ .non
  | _ => False
theorem fn_wp {n k : Nat} {b : SF} {ds : List D} {Φ : D → Prop} (hl : ds.length = k) (h : Wp b (ent n ds) (RtK Φ)) : ∃ d, fnP n k b ds = some d ∧ Φ d := by
  obtain ⟨r, h1, h2⟩ := h
  unfold fnP
  rw [if_pos hl, h1]
  cases r with
  | nx ρ => exact ⟨_, rfl, h2⟩
  | rt d ρ => exact ⟨_, rfl, h2⟩
  | bk => exact h2.elim
  | ct => exact h2.elim
theorem fn_is {n k : Nat} {b : SF} {ds : List D} {d : D} (hl : ds.length = k) (h : Wp b (ent n ds) (RtK fun c => c = d)) : fnP n k b ds = some d := by
  obtain ⟨c, h1, rfl⟩ := fn_wp hl h
  exact h1
def RcK (ms : List Bool) (Φ : D → List D → Prop) : Fl → Prop
  | .rt d ρ => ∃ ds, outs ms ρ = some ds ∧ Φ d ds
  | .nx ρ => ∃ ds, outs ms ρ = some ds ∧ Φ .non ds
  | _ => False
theorem fnc_wp {n : Nat} {ms : List Bool} {b : SF} {ds : List D} {Φ : D → List D → Prop} (hl : ds.length = ms.length) (h : Wp b (entC ms n ds) (RcK ms Φ)) : ∃ d ds', fnC n ms b ds = some (d, ds') ∧ Φ d ds' := by
  obtain ⟨r, h1, h2⟩ := h
  unfold fnC
  rw [if_pos hl, h1]
  cases r with
  | nx ρ => obtain ⟨ds', h3, h4⟩ := h2; exact ⟨_, _, by simp [h3], h4⟩
  | rt d ρ => obtain ⟨ds', h3, h4⟩ := h2; exact ⟨_, _, by simp [h3], h4⟩
  | bk => exact h2.elim
  | ct => exact h2.elim
theorem fnc_is {n : Nat} {ms : List Bool} {b : SF} {ds ds' : List D} {d : D} (hl : ds.length = ms.length) (h : Wp b (entC ms n ds) (RcK ms fun c e => c = d ∧ e = ds')) : fnC n ms b ds = some (d, ds') := by
  obtain ⟨c, e, h1, rfl, rfl⟩ := fnc_wp hl h
  exact h1
/-! ### changing calls -/
def Vm (g : Ev → Option (D × Ev)) (ρ : Ev) (d : D) (ρ' : Ev) : Prop := g ρ = some (d, ρ')
def Ce (g : CF) (ρ : Ev) (as : List Ag) : Prop := g ρ = some as
theorem ce_nil {ρ : Ev} : Ce cNil ρ [] := rfl
theorem ce_own {i : Nat} {g : CF} {ρ : Ev} {d : D} {as : List Ag} (h : ownD ρ i = some d) (h2 : Ce g ρ as) : Ce (cOwn i g) ρ (.own i :: as) := by
  unfold Ce at *; unfold cOwn; rw [h]; simp [h2]
theorem ce_rd {f : EF} {g : CF} {ρ : Ev} {d : D} {m : Md} {as : List Ag} (h : Ve f ρ d m) (h2 : Ce g ρ as) : Ce (cRd f g) ρ (.rd d m :: as) := by
  unfold Ce Ve at *; unfold cRd; rw [h]; simp [h2]
theorem ce_ins {n : Nat} {m : Str} {i : Nat} {g : CF} {ρ : Ev} {fs : List (Str × D)} {as : List Ag} (h : ownD ρ i = some (.ins n fs)) (hn : getF fs m = none) (h2 : Ce g ρ as) : Ce (insC n m i g) ρ (.own i :: as) := by
  unfold Ce at *; unfold insC; rw [h]; simp [hn, h2]
theorem vm_call {ms : List Bool} {f : List D → Option (D × List D)} {g : CF} {ρ ρ' : Ev} {as : List Ag} {ds ds' : List D} {r : D} (h : Ce g ρ as) (hc : (decide (osl as).Nodup && kindC ρ as && decide (as.map Ag.isOwn = ms)) = true) (hd : dsOf ρ as = some ds) (hf : f ds = some (r, ds')) (hb : backC ρ as ds' = ρ') : Vm (callC ms f g) ρ r ρ' := by
  unfold Ce at h
  unfold Vm callC
  rw [h]
  simp only [Option.bind_some, hc, if_true, hd, hf, hb]
theorem se_exM {g : Ev → Option (D × Ev)} {ρ ρ' : Ev} {d : D} (h : Vm g ρ d ρ') : Se (sExM g) ρ (.nx ρ') := by
  unfold Vm at h; unfold Se sExM; rw [h]; rfl
theorem se_setM {i : Nat} {g : Ev → Option (D × Ev)} {ρ ρ' ρ2 : Ev} {d : D} (h : Vm g ρ d ρ') (h2 : setS i d .new ρ' = some ρ2) : Se (sSetM i g) ρ (.nx ρ2) := by
  unfold Vm at h; unfold Se sSetM; rw [h]; simp [h2]
theorem wp_retM {g : Ev → Option (D × Ev)} {ρ ρ' : Ev} {d : D} {Φ : Fl → Prop} (h : Vm g ρ d ρ') (h2 : Φ (.rt d ρ')) : Wp (sRetM g) ρ Φ := ⟨.rt d ρ', by unfold Vm at h; unfold sRetM; rw [h]; rfl, h2⟩
/-! ### ways -/
theorem wayD_of {ρ : Ev} {i : Nat} {p : List Stp} {d e : D} (h : ownD ρ i = some d) (h2 : dgets d p = some e) : wayD ρ i p = some e := by unfold wayD; rw [h]; exact h2
theorem putW_of {ρ : Ev} {i : Nat} {p : List Stp} {d e y : D} (h : ownD ρ i = some d) (h2 : dreps d p y = e) : putW ρ i p y = some (setOwn ρ i e) := by unfold putW; rw [h, ← h2]; rfl
def Wy (w : WF) (ρ : Ev) (p : List Stp) : Prop := w ρ = some p
theorem wy_n {ρ : Ev} : Wy wN ρ [] := rfl
theorem wy_ix {i : Nat} {w : WF} {f : EF} {ρ : Ev} {p : List Stp} {d k : D} {s : Stp} (h : Wy w ρ p) (h1 : wayD ρ i p = some d) (h2 : Vf f ρ k) (h3 : stpOf d k = some s) : Wy (wIx i w f) ρ (p ++ [s]) := by
  obtain ⟨m, h2⟩ := h2
  unfold Wy Ve at *; unfold wIx; rw [h]; simp [h1, h2, h3]
theorem wy_fld {n : Nat} {f : Str} {i : Nat} {w : WF} {ρ : Ev} {p : List Stp} {fs : List (Str × D)} (h : Wy w ρ p) (h1 : wayD ρ i p = some (.ins n fs)) : Wy (wFld n f i w) ρ (p ++ [.fd f]) := by
  unfold Wy at *; unfold wFld; rw [h]; simp [h1]
theorem se_appW {i : Nat} {w : WF} {f : NF} {ρ ρ' : Ev} {p : List Stp} {ds : List D} {y : D} (h1 : Wy w ρ p) (h2 : wayD ρ i p = some (.lst ds)) (h3 : Ne f ρ y) (hl : ds.length < 16777216) (h4 : putW ρ i p (.lst (ds ++ [y])) = some ρ') : Se (sApp i w f) ρ (.nx ρ') := se_app h1 h2 h3 hl h4
theorem se_augP {i : Nat} {w : WF} {fk fe : EF} {ρ ρ' : Ev} {p : List Stp} {d k c b z d' : D} (h1 : Wy w ρ p) (h2 : wayD ρ i p = some d) (hk : Vf fk ρ k) (hc : ixD d k = some c) (he : Vf fe ρ b) (hz : augAdd c b = some z) (hi : itemD d k z = some d') (h4 : putW ρ i p d' = some ρ') : Se (sAugP i w fk fe) ρ (.nx ρ') := by
  obtain ⟨m, hk⟩ := hk
  obtain ⟨m2, he⟩ := he
  unfold Wy Ve Se at *
  unfold sAugP
  rw [h1]
  simp [h2, hk, hc, he, hz, hi, h4]
theorem se_fldA {n : Nat} {f : Str} {i : Nat} {w : WF} {fe : EF} {ρ ρ' : Ev} {p : List Stp} {fs : List (Str × D)} {a b z : D} (h1 : Wy w ρ p) (h2 : wayD ρ i p = some (.ins n fs)) (ha : getF fs f = some a) (he : Vf fe ρ b) (hz : augAdd a b = some z) (hl : fs.length < 999) (h4 : putW ρ i p (.ins n (putFD f z fs)) = some ρ') : Se (sFldA n f i w fe) ρ (.nx ρ') := by
  obtain ⟨m2, he⟩ := he
  unfold Wy Ve Se at *
  unfold sFldA
  rw [h1]
  simp [h2, ha, he, hz, hl, h4]
def Ye (g : YF) (ρ : Ev) (d : D) (ρ' : Ev) : Prop := g ρ = some (d, ρ')
theorem ye_n {f : NF} {ρ : Ev} {d : D} (h : Ne f ρ d) : Ye (yN f) ρ d ρ := by unfold Ne at h; unfold Ye yN; rw [h]; rfl
theorem ye_mv {j : Nat} {ρ : Ev} {d : D} (h : ρ[j]? = some (.on d)) : Ye (yMv j) ρ d (ρ.set j .emp) := by unfold Ye yMv; rw [h]
theorem se_fldY {n : Nat} {f : Str} {i : Nat} {w : WF} {g : YF} {ρ ρ1 ρ' : Ev} {p : List Stp} {fs : List (Str × D)} {y : D} (h0 : Ye g ρ y ρ1) (h1 : Wy w ρ1 p) (h2 : wayD ρ1 i p = some (.ins n fs)) (hl : fs.length < 1000) (h4 : putW ρ1 i p (.ins n (putFD f y fs)) = some ρ') : Se (sFldY n f i w g) ρ (.nx ρ') := by
  unfold Ye Wy Se at *
  unfold sFldY
  rw [h0]
  simp [h1, h2, hl, h4]
theorem ne_dict {ks : List Key} {f : Ev → Option (List D)} {ρ : Ev} {ds : List D} (h : f ρ = some ds) : Ne (nDict ks f) ρ (.dic (List.zip ks ds)) := by unfold Ne nDict; rw [h]; rfl
theorem ne_call {f : List D → Option D} {g : AF} {ρ : Ev} {ds : List D} {d : D} (h1 : Af g ρ ds) (h : f ds = some d) : Ne (nCall f g) ρ d := by
  obtain ⟨as, h1, rfl⟩ := h1
  unfold Ae at h1
  unfold Ne nCall
  rw [h1]
  exact h
theorem ne_make {n m : Nat} {f : List D → Option (D × List D)} {g : AF} {ρ : Ev} {ds es : List D} {d : D} (h1 : Af g ρ ds) (h2 : flats ds = true) (h3 : ds.length = m) (h : f (.ins n [] :: ds) = some (.non, d :: es)) : Ne (nMake n m f g) ρ d := by
  obtain ⟨as, h1, rfl⟩ := h1
  unfold Ae at h1
  unfold Ne nMake
  rw [h1]
  simp only [Option.bind_some]
  rw [if_pos ⟨okNew_flats h2, by simpa using h3⟩, h]
  rfl
/-- the arguments may be lists made here -/
theorem ne_makeN {n m : Nat} {f : List D → Option (D × List D)} {g : AF} {ρ : Ev} {as : List (D × Md)} {es : List D} {d : D} (h1 : Ae g ρ as) (h2 : okNew as = true) (h3 : as.length = m) (h : f (.ins n [] :: as.map (·.1)) = some (.non, d :: es)) : Ne (nMake n m f g) ρ d := by
  unfold Ae at h1
  unfold Ne nMake
  rw [h1]
  simp only [Option.bind_some]
  rw [if_pos ⟨h2, h3⟩, h]
  rfl
theorem ne_lstc {g : AF} {ρ : Ev} {ds : List D} (h1 : Af g ρ [.lst ds]) (h2 : flats ds = true) : Ne (nLstC g) ρ (.lst ds) := by
  obtain ⟨as, h1, h3⟩ := h1
  unfold Ae at h1
  unfold Ne nLstC
  rw [h1]
  simp only [Option.bind_some, h3, lstC, h2, if_true]
theorem fnn_is {n k : Nat} {b : NF} {ds : List D} {d : D} (hl : ds.length = k) (h : Ne b (ent n ds) d) : fnN n k b ds = some d := by
  unfold fnN; rw [if_pos hl]; exact h
/-! ### the defs of the top -/
theorem DefAt.calC {P : Program} {w : World} {K : PySem.W.Frag} {mg : Str → Option Value} {base : Heap} {cm : Nat → Addr} {x : Str} {st : Stmt} {ps : List Str} {k : Nat} {ms : List Bool} {fn : List D → Option (D × List D)} (D : DefAt K mg x st ps)
    (h : ∀ {f : Addr} {fd : FuncData}, Fun K x x st f fd → FnOk P w K mg base CX0 k f fd ps (spC K cm ms fn)) : CalC P w K mg base cm k x ms fn := by
  obtain ⟨f, fd, F, hm, kp, hb⟩ := D
  exact ⟨f, fd, ps, h F, hm, kp, hb⟩
theorem DefAt.calN {P : Program} {w : World} {K : PySem.W.Frag} {mg : Str → Option Value} {base : Heap} {cm : Nat → Addr} {x : Str} {st : Stmt} {ps : List Str} {k : Nat} {fn : List D → Option D} (D : DefAt K mg x st ps)
    (h : ∀ {f : Addr} {fd : FuncData}, Fun K x x st f fd → FnOk P w K mg base CX0 k f fd ps (spN K cm fn)) : CalN P w K mg base cm k x fn := by
  obtain ⟨f, fd, F, hm, kp, hb⟩ := D
  exact ⟨f, fd, ps, h F, hm, kp, hb⟩
end DL

/-! DL27: == and in, of data that stand for things of a type. -/
namespace DL
open PySem L2
/-- f writes a as data; two that are good are == where they are the same -/
def Enc {α : Type} [DecidableEq α] (k : Nat) (f : α → D) (P : α → Prop) : Prop :=
  ∃ py : α → PyData, (∀ a, toPy (f a) = some (py a)) ∧ (∀ a, P a → dk k (f a) = true) ∧ ∀ a b, P a → P b → PyData.eqv (py a) (py b) = decide (a = b)
theorem dk_le : ∀ {k j : Nat} {d : D}, k ≤ j → dk k d = true → dk j d = true
  | k, j, .non, _, _ => by cases j <;> rfl
  | k, j, .bl _, _, _ => by cases j <;> rfl
  | k, j, .int _, _, _ => by cases j <;> rfl
  | k, j, .str x, _, h => by cases k <;> cases j <;> simpa [dk] using h
  | k + 1, j + 1, .tup ds, hl, h => by
    simp only [dk, List.all_eq_true] at h ⊢
    exact fun d hd => dk_le (by omega) (h d hd)
  | k + 1, j + 1, .lst ds, hl, h => by
    simp only [dk, List.all_eq_true] at h ⊢
    exact fun d hd => dk_le (by omega) (h d hd)
  | 0, _, .tup _, _, h => by simp [dk] at h
  | 0, _, .lst _, _, h => by simp [dk] at h
  | _ + 1, 0, .tup _, hl, _ => by omega
  | _ + 1, 0, .lst _, hl, _ => by omega
  | k, _, .dic _, _, h => by cases k <;> simp [dk] at h
  | k, _, .ins _ _, _, h => by cases k <;> simp [dk] at h
  | k, _, .scr _, _, h => by cases k <;> simp [dk] at h
section
variable {α β : Type} [DecidableEq α] [DecidableEq β] {k j : Nat} {f : α → D} {g : β → D} {P : α → Prop} {Q : β → Prop}
theorem Enc.le (h : Enc k f P) (hj : k ≤ j) : Enc j f P := by
  obtain ⟨py, h1, h2, h3⟩ := h
  exact ⟨py, h1, fun a ha => dk_le hj (h2 a ha), h3⟩
theorem Enc.weak {P' : α → Prop} (h : Enc k f P) (hp : ∀ a, P' a → P a) : Enc k f P' := by
  obtain ⟨py, h1, h2, h3⟩ := h
  exact ⟨py, h1, fun a ha => h2 a (hp a ha), fun a b ha hb => h3 a b (hp a ha) (hp b hb)⟩
theorem Enc.comap (h : Enc k f P) (m : β → α) (hm : ∀ a b, Q a → Q b → m a = m b → a = b) (hq : ∀ b, Q b → P (m b)) : Enc k (fun b => f (m b)) Q := by
  obtain ⟨py, h1, h2, h3⟩ := h
  refine ⟨fun b => py (m b), fun b => h1 _, fun b hb => h2 _ (hq b hb), fun a b ha hb => ?_⟩
  rw [h3 _ _ (hq a ha) (hq b hb)]
  by_cases q : a = b
  · subst q; simp
  · have : m a ≠ m b := fun e => q (hm a b ha hb e)
    simp [q, this]
theorem enc_int : Enc 0 D.int (fun _ => True) := ⟨PyData.int, fun a => by simp [toPy], fun a _ => rfl, fun a b _ _ => by simp [PyData.eqv]; rfl⟩
theorem enc_nat : Enc 0 (fun n : Nat => D.int n) (fun _ => True) := enc_int.comap (fun n : Nat => (n : Int)) (fun a b _ _ h => by omega) fun _ _ => trivial
theorem enc_bl : Enc 0 D.bl (fun _ => True) := ⟨PyData.bool, fun a => by simp [toPy], fun a _ => rfl, fun a b _ _ => by cases a <;> cases b <;> simp [PyData.eqv]⟩
theorem enc_tx : Enc 0 (fun c => D.str (tx c)) (fun c => okC c = true) := ⟨fun c => .str (tx c), fun a => by simp [toPy], fun a h => by simpa [dk] using tx_ok h, fun a b _ _ => by
  simp only [PyData.eqv]
  rw [tx_eq]
  by_cases q : a = b
  · subst q; simp
  · simp [q]⟩
theorem enc_o : Enc 0 oD (fun o => okO o = true) := ⟨oP, fun o => by cases o <;> simp [toPy, oD, oP], fun o h => by
    cases o with
    | none => rfl
    | some c => simpa [dk, oD] using tx_ok h, fun a b _ _ => by
    cases a with
    | none => cases b <;> simp [oP, PyData.eqv]
    | some a =>
      cases b with
      | none => simp [oP, PyData.eqv]
      | some b =>
        simp only [oP, PyData.eqv]
        rw [tx_eq]
        by_cases q : a = b
        · subst q; simp
        · simp [q]⟩
theorem enc_pair (h : Enc k f P) (h' : Enc k g Q) : Enc (k + 1) (fun p : α × β => D.tup [f p.1, g p.2]) (fun p => P p.1 ∧ Q p.2) := by
  obtain ⟨py, h1, h2, h3⟩ := h
  obtain ⟨qy, k1, k2, k3⟩ := h'
  refine ⟨fun p => .tuple [py p.1, qy p.2], fun p => by simp [toPy, toPys, h1, k1], fun p hp => ?_, fun p q hp hq => ?_⟩
  · simp [dk, h2 _ hp.1, k2 _ hp.2]
  · simp only [PyData.eqv, PyData.eqvAll, h3 _ _ hp.1 hq.1, k3 _ _ hp.2 hq.2, Bool.and_true]
    obtain ⟨a, b⟩ := p
    obtain ⟨c, d⟩ := q
    by_cases e1 : a = c <;> by_cases e2 : b = d <;> simp [e1, e2]
theorem toPys_map (h1 : ∃ py : α → PyData, ∀ a, toPy (f a) = some (py a)) : ∃ py : α → PyData, (∀ a, toPy (f a) = some (py a)) ∧ ∀ l : List α, toPys (l.map f) = some (l.map py) := by
  obtain ⟨py, h⟩ := h1
  refine ⟨py, h, fun l => ?_⟩
  induction l with
  | nil => rfl
  | cons a r ih => simp [toPys, h, ih]
theorem toPys_of {py : α → PyData} (h : ∀ a, toPy (f a) = some (py a)) : ∀ l : List α, toPys (l.map f) = some (l.map py)
  | [] => by simp [toPys]
  | a :: r => by simp [toPys, h, toPys_of h r]
theorem eqvAll_map {py : α → PyData} (h3 : ∀ a b, P a → P b → PyData.eqv (py a) (py b) = decide (a = b)) : ∀ {l m : List α}, (∀ a ∈ l, P a) → (∀ a ∈ m, P a) → PyData.eqvAll (l.map py) (m.map py) = decide (l = m)
  | [], [], _, _ => by simp [PyData.eqvAll]
  | [], _ :: _, _, _ => by simp [PyData.eqvAll]
  | _ :: _, [], _, _ => by simp [PyData.eqvAll]
  | a :: l, b :: m, hl, hm => by
    have ih := eqvAll_map (l := l) (m := m) h3 (fun x hx => hl x (List.mem_cons_of_mem _ hx)) (fun x hx => hm x (List.mem_cons_of_mem _ hx))
    simp only [List.map_cons, PyData.eqvAll, h3 a b (hl a (by simp)) (hm b (by simp)), ih]
    by_cases e1 : a = b <;> by_cases e2 : l = m <;> simp [e1, e2]
theorem enc_lst (h : Enc k f P) : Enc (k + 1) (fun l : List α => D.lst (l.map f)) (fun l => ∀ a ∈ l, P a) := by
  obtain ⟨py, h1, h2, h3⟩ := h
  refine ⟨fun l => .list (l.map py), fun l => by simp [toPy, toPys_of h1], fun l hl => ?_, fun l m hl hm => ?_⟩
  · simp only [dk, List.all_eq_true]
    intro d hd
    simp only [List.mem_map] at hd
    obtain ⟨a, ha, rfl⟩ := hd
    exact h2 a (hl a ha)
  · simp only [PyData.eqv, eqvAll_map h3 hl hm]
theorem Enc.eqD (h : Enc k f P) {a b : α} (ha : P a) (hb : P b) (hk : k ≤ 64 := by omega) : eqD (f a) (f b) = some (decide (a = b)) := by
  obtain ⟨py, h1, h2, h3⟩ := h
  obtain ⟨p', e1, c1, d1⟩ := dk_py (h2 a ha)
  obtain ⟨q', e2, c2, d2⟩ := dk_py (h2 b hb)
  rw [h1] at e1 e2
  cases e1; cases e2
  simp only [DL.eqD, h1, Option.bind_some, shaped_of c1 d1 hk, shaped_of c2 d2 hk, and_self, if_true, h3 a b ha hb]
theorem Enc.eq (h : Enc k f P) {a b : α} (ha : P a) (hb : P b) (hk : k ≤ 64 := by omega) : eqDD (f a) (f b) = some (.bl (decide (a = b))) := by simp [eqDD, h.eqD ha hb hk]
theorem Enc.ne (h : Enc k f P) {a b : α} (ha : P a) (hb : P b) (hk : k ≤ 64 := by omega) : neDD (f a) (f b) = some (.bl (!decide (a = b))) := by simp [neDD, h.eqD ha hb hk]
/-- a list is empty -/
theorem Enc.inB (h : Enc k f P) {a : α} {l : List α} (ha : P a) (hl : ∀ b ∈ l, P b) (hk : k ≤ 63 := by omega) : inB (f a) (.lst (l.map f)) = some (l.contains a) := by
  have hd := enc_lst h
  obtain ⟨py, h1, h2, h3⟩ := h
  obtain ⟨p', e1, c1, d1⟩ := dk_py (h2 a ha)
  obtain ⟨qy, k1, k2, _⟩ := hd
  have hdk : dk (k + 1) (.lst (l.map f)) = true := k2 l hl
  obtain ⟨q', e2, c2, d2⟩ := dk_py hdk
  rw [h1] at e1
  cases e1
  have e3 : toPy (.lst (l.map f)) = some (.list (l.map py)) := by simp [toPy, toPys_of h1]
  rw [e3] at e2
  cases e2
  unfold DL.inB
  simp only [h1, toPys_of h1, Option.bind_some, shaped_of c1 d1 (by omega), shaped_of c2 d2 (by omega), and_self, if_true, List.any_map]
  congr 1
  rw [List.contains_eq_any_beq]
  clear e3 hdk c2 d2 k1 k2
  induction l with
  | nil => rfl
  | cons b r ih =>
    simp only [List.any_cons, Function.comp]
    rw [h3 b a (hl b (by simp)) ha, ih fun c hc => hl c (by simp [hc])]
    by_cases q : a = b
    · subst q; simp
    · have : ¬ b = a := fun e => q e.symm
      have q2 : (a == b) = false := by simpa using q
      simp [this, q2]
theorem Enc.in_ (h : Enc k f P) {a : α} {l : List α} (ha : P a) (hl : ∀ b ∈ l, P b) (hk : k ≤ 63 := by omega) : inD (f a) (.lst (l.map f)) = some (.bl (l.contains a)) := in_of (h.inB ha hl hk)
theorem Enc.nin (h : Enc k f P) {a : α} {l : List α} (ha : P a) (hl : ∀ b ∈ l, P b) (hk : k ≤ 63 := by omega) : ninD (f a) (.lst (l.map f)) = some (.bl (!l.contains a)) := nin_of (h.inB ha hl hk)
theorem Enc.inT (h : Enc k f P) {a : α} {l : List α} (ha : P a) (hl : ∀ b ∈ l, P b) {b : Bool} (hb : b = true ↔ a ∈ l) (hk : k ≤ 63 := by omega) : DL.inB (f a) (.lst (l.map f)) = some b := by
  rw [h.inB ha hl hk]
  congr 1
  rw [Bool.eq_iff_iff, hb, List.contains_iff_mem]
theorem Enc.ninT (h : Enc k f P) {a : α} {l : List α} (ha : P a) (hl : ∀ b ∈ l, P b) {b : Bool} (hb : b = true ↔ a ∉ l) (hk : k ≤ 63 := by omega) : ninD (f a) (.lst (l.map f)) = some (.bl b) := by
  rw [nin_of (h.inT ha hl (b := !b) (by cases b <;> simp_all) hk)]
  simp
/-- != [] -/
theorem Enc.neNil (h : Enc k f P) {l : List α} (hl : ∀ b ∈ l, P b) (hk : k ≤ 63 := by omega) : neDD (.lst (l.map f)) (.lst []) = some (.bl (!l.isEmpty)) := by
  have := (enc_lst h).ne (a := l) (b := []) hl (by simp) (by omega)
  rw [show D.lst [] = (fun l : List α => D.lst (l.map f)) [] from rfl]
  rw [this]
  cases l <;> simp
theorem Enc.eqNil (h : Enc k f P) {l : List α} (hl : ∀ b ∈ l, P b) (hk : k ≤ 63 := by omega) : eqDD (.lst (l.map f)) (.lst []) = some (.bl l.isEmpty) := by
  have := (enc_lst h).eq (a := l) (b := []) hl (by simp) (by omega)
  rw [show D.lst [] = (fun l : List α => D.lst (l.map f)) [] from rfl]
  rw [this]
  cases l <;> simp
end
/-- a comprehension over things of a type -/
theorem vn_lcT {α : Type} {f : IF} {vs : List Nat} {g : GF} {t : Ev → Option Bool} {e : EF} {ρ : Ev} {m : Md} {fa : α → D} {l : List α} {p : α → Bool} {F : α → D} (hx : Xe f ρ (l.map fa) m) (hn : l.length ≤ 16777216)
    (h : ∀ a ∈ l, Sg g (fa a) (effm m (fa a)) (wipeE ρ vs) fun ρ1 => Te t ρ1 (p a) ∧ (p a = true → Vf e ρ1 (F a))) (hf : ∀ a ∈ l, flat (F a) = true) : Ve (eLc f vs g t e) ρ (.lst ((l.filter p).map F)) .new := by
  refine ve_lc hx (by simpa using hn) ?_
  generalize wipeE ρ vs = ρ0 at h
  clear hx hn
  induction l with
  | nil => rfl
  | cons a r ih =>
    obtain ⟨ρ1, h1, h2, h3⟩ := h a (by simp)
    unfold Te at h2
    have ih' := ih (fun b hb => hf b (by simp [hb])) fun b hb => h b (by simp [hb])
    rw [List.map_cons, lcGo, h1]
    simp only [Option.bind_some, h2]
    by_cases q : p a = true
    · obtain ⟨n, h4⟩ := h3 q
      unfold Ve at h4
      simp only [q, if_true, h4, Option.bind_some, hf a (by simp), Bool.true_or, ih', Option.map_some, List.filter_cons, List.map_cons]
    · simp only [Bool.not_eq_true] at q
      simp [q, ih', List.filter_cons]
theorem vn_lcM {α : Type} {f : IF} {vs : List Nat} {g : GF} {e : EF} {ρ : Ev} {m : Md} {fa : α → D} {l : List α} {F : α → D} (hx : Xe f ρ (l.map fa) m) (hn : l.length ≤ 16777216)
    (h : ∀ a ∈ l, Sg g (fa a) (effm m (fa a)) (wipeE ρ vs) fun ρ1 => Vf e ρ1 (F a)) (hf : ∀ a ∈ l, flat (F a) = true) : Ve (eLc f vs g (fun _ => some true) e) ρ (.lst (l.map F)) .new := by
  have := vn_lcT (t := fun _ => some true) (p := fun _ => true) (F := F) hx hn (fun a ha => by
    obtain ⟨ρ1, h1, h2⟩ := h a ha
    exact ⟨ρ1, h1, rfl, fun _ => h2⟩) hf
  rwa [List.filter_eq_self.mpr (fun _ _ => rfl)] at this
/-- a source of items: whatever its mode -/
theorem xe_of {f : EF} {ρ : Ev} {d : D} {ds : List D} (h : Vf f ρ d) (h2 : itemsD d = some ds) : ∃ m, Xe (iE f) ρ ds m := by
  obtain ⟨m, h⟩ := h
  exact ⟨m, xe_seq h h2⟩
theorem wipeE_two {ρ : Ev} {i j : Nat} (hi : i < ρ.length) (hj : j < ρ.length) : (wipeE ρ [i, j])[i]? = some .emp ∧ (wipeE ρ [i, j])[j]? = some .emp := by
  simp only [wipeE]
  constructor
  · by_cases q : i = j
    · subst q; rw [List.getElem?_set_self (by simpa using hi)]
    · first
      | rw [List.getElem?_set_ne (Ne.symm q), List.getElem?_set_self hi]
      | rw [List.getElem?_set_self (by simpa using hi)]
  · by_cases q : i = j
    · subst q; rw [List.getElem?_set_self (by simpa using hi)]
    · first
      | rw [List.getElem?_set_self (by simpa using hj)]
      | rw [List.getElem?_set_ne q, List.getElem?_set_self hj]
/-- [.. for a, b in pairs if ..] -/
theorem vn_lc2 {α : Type} {f : IF} {i j : Nat} {t : Ev → Option Bool} {e : EF} {ρ : Ev} {fa ga gb : α → D} {l : List α} {p : α → Bool} {F : α → D} (hx : ∃ m, Xe f ρ (l.map fa) m) (hn : l.length ≤ 16777216) (hi : i < ρ.length) (hj : j < ρ.length) (hij : i ≠ j)
    (hfa : ∀ a ∈ l, fa a = .tup [ga a, gb a] ∧ flat (ga a) = true ∧ flat (gb a) = true) (h : ∀ a ∈ l, Te t (((wipeE ρ [i, j]).set i (.fn (ga a))).set j (.fn (gb a))) (p a) ∧ (p a = true → Vf e (((wipeE ρ [i, j]).set i (.fn (ga a))).set j (.fn (gb a))) (F a))) (hf : ∀ a ∈ l, flat (F a) = true) :
    Ve (eLc f [i, j] (gT 2 (gsCons i (gsCons j gsNil))) t e) ρ (.lst ((l.filter p).map F)) .new := by
  obtain ⟨m, hx⟩ := hx
  obtain ⟨w1, w2⟩ := wipeE_two hi hj
  refine vn_lcT hx hn (fun a ha => ?_) hf
  obtain ⟨e1, f1, f2⟩ := hfa a ha
  rw [e1]
  exact sg_two w1 rfl f1 (by rw [List.getElem?_set_ne hij]; exact w2) rfl f2 (h a ha)
theorem vn_lc2M {α : Type} {f : IF} {i j : Nat} {e : EF} {ρ : Ev} {fa ga gb : α → D} {l : List α} {F : α → D} (hx : ∃ m, Xe f ρ (l.map fa) m) (hn : l.length ≤ 16777216) (hi : i < ρ.length) (hj : j < ρ.length) (hij : i ≠ j)
    (hfa : ∀ a ∈ l, fa a = .tup [ga a, gb a] ∧ flat (ga a) = true ∧ flat (gb a) = true) (h : ∀ a ∈ l, Vf e (((wipeE ρ [i, j]).set i (.fn (ga a))).set j (.fn (gb a))) (F a)) (hf : ∀ a ∈ l, flat (F a) = true) :
    Ve (eLc f [i, j] (gT 2 (gsCons i (gsCons j gsNil))) (fun _ => some true) e) ρ (.lst (l.map F)) .new := by
  have := vn_lc2 (t := fun _ => some true) (p := fun _ => true) (F := F) hx hn hi hj hij hfa (fun a ha => ⟨rfl, fun _ => h a ha⟩) hf
  rwa [List.filter_eq_self.mpr (fun _ _ => rfl)] at this
/-- [.. for x in xs if ..] -/
theorem vn_lc1 {α : Type} {f : IF} {i : Nat} {t : Ev → Option Bool} {e : EF} {ρ : Ev} {fa : α → D} {l : List α} {p : α → Bool} {F : α → D} (hx : ∃ m, Xe f ρ (l.map fa) m) (hn : l.length ≤ 16777216) (hi : i < ρ.length)
    (hfa : ∀ a ∈ l, flat (fa a) = true) (h : ∀ a ∈ l, Te t ((wipeE ρ [i]).set i (.fn (fa a))) (p a) ∧ (p a = true → Vf e ((wipeE ρ [i]).set i (.fn (fa a))) (F a))) (hf : ∀ a ∈ l, flat (F a) = true) :
    Ve (eLc f [i] (gN i) t e) ρ (.lst ((l.filter p).map F)) .new := by
  obtain ⟨m, hx⟩ := hx
  refine vn_lcT hx hn (fun a ha => ?_) hf
  have w : (wipeE ρ [i])[i]? = some .emp := by
    simp only [wipeE]
    rw [List.getElem?_set_self hi]
  exact sg_flat w rfl (hfa a ha) (h a ha)
theorem vn_lc1M {α : Type} {f : IF} {i : Nat} {e : EF} {ρ : Ev} {fa : α → D} {l : List α} {F : α → D} (hx : ∃ m, Xe f ρ (l.map fa) m) (hn : l.length ≤ 16777216) (hi : i < ρ.length)
    (hfa : ∀ a ∈ l, flat (fa a) = true) (h : ∀ a ∈ l, Vf e ((wipeE ρ [i]).set i (.fn (fa a))) (F a)) (hf : ∀ a ∈ l, flat (F a) = true) :
    Ve (eLc f [i] (gN i) (fun _ => some true) e) ρ (.lst (l.map F)) .new := by
  have := vn_lc1 (t := fun _ => some true) (p := fun _ => true) (F := F) hx hn hi hfa (fun a ha => ⟨rfl, fun _ => h a ha⟩) hf
  rwa [List.filter_eq_self.mpr (fun _ _ => rfl)] at this
theorem rtk_eq {d : D} {ρ : Ev} : RtK (fun c => c = d) (.rt d ρ) := rfl
theorem rtk_now {d : D} {ρ : Ev} : ∃ d' ρ', Fl.rt d ρ = .rt d' ρ' ∧ RtK (fun c => c = d) (.rt d ρ) := ⟨_, _, rfl, rfl⟩
theorem rtk_now2 {d : D} {ρ : Ev} : ∃ d' ρ', Fl.rt d ρ = .rt d' ρ' ∧ ∃ d' ρ', Fl.rt d ρ = .rt d' ρ' ∧ RtK (fun c => c = d) (.rt d ρ) := ⟨_, _, rfl, _, _, rfl, rfl⟩
theorem effm_new {c : D} : effm .new c = .new := by unfold effm; split <;> rfl
theorem xe_ixn {f g : EF} {ρ : Ev} {a k d : D} {ds : List D} (h : Ve f ρ a .new) (h2 : Vf g ρ k) (h3 : ixD a k = some d) (h4 : itemsD d = some ds) : Xe (iE (eIx ixD f g)) ρ ds .new := by
  obtain ⟨m, h2⟩ := h2
  have := ve_ix h h2 h3
  rw [effm_new] at this
  exact xe_seq this h4
theorem ds_nil {ρ : Ev} : dsOf ρ [] = some [] := rfl
theorem ds_own {ρ : Ev} {i : Nat} {d : D} {r : List Ag} {ds : List D} (h : ownD ρ i = some d) (h2 : dsOf ρ r = some ds) : dsOf ρ (.own i :: r) = some (d :: ds) := by rw [dsOf, h, h2]; rfl
theorem ds_new {ρ : Ev} {d : D} {r : List Ag} {ds : List D} (h2 : dsOf ρ r = some ds) : dsOf ρ (.rd d .new :: r) = some (d :: ds) := by rw [dsOf, if_pos (by simp [notOwn]), h2]; rfl
theorem ds_par {ρ : Ev} {d : D} {r : List Ag} {ds : List D} (h2 : dsOf ρ r = some ds) : dsOf ρ (.rd d .par :: r) = some (d :: ds) := by rw [dsOf, if_pos (by simp [notOwn]), h2]; rfl
theorem ds_flat {ρ : Ev} {d : D} {m : Md} {r : List Ag} {ds : List D} (f : flat d = true) (h2 : dsOf ρ r = some ds) : dsOf ρ (.rd d m :: r) = some (d :: ds) := by rw [dsOf, if_pos (by simp [f]), h2]; rfl
theorem enc_S : Enc 0 D.str (fun x => PyData.strOk x = true) := ⟨PyData.str, fun a => by simp [toPy], fun a h => by simpa [dk] using h, fun a b _ _ => by
  simp only [PyData.eqv]
  by_cases q : a = b
  · subst q; simp
  · simp [q]⟩
end DL

/-! DL28: classes and methods that the top has written. -/
namespace DL
open PySem L2
/-- the classes' addresses by number -/
def clsL (l : List Addr) : Nat → Addr := fun n => l.getD n 0
structure FactC (K : PySem.W.Frag) (C : Addr) : Prop where
  pg : PySem.W.plainGet K C Str.empty = true
  hd : PySem.W.hasDictIn K C = true
  po : PySem.W.plainOver K C = true
  sa : PySem.W.findIn K (.ref C) "__setattr__" = some (some (.builtin "object.__setattr__"))
  mks : PySem.W.makesIn K C = true
  kc : PySem.W.keepIn K (.ref C) = true
theorem FactC.cls {K : PySem.W.Frag} {C : Addr} (z : FactC K C) : Cls K C := ⟨z.pg, z.hd, z.po, z.sa⟩
def FactM (K : PySem.W.Frag) (C : Addr) (m qual : Str) (st : Stmt) : Prop :=
  ∃ (f : Addr) (oc : Value) (od an : Option Addr) (osl : Array (Option Value)) (kV doc pm cdv ct : Value), PySem.W.findIn K (.ref C) m = some (some (.ref f)) ∧ PySem.W.isFn K (.ref f) = true ∧
    K.lookup f = some ⟨oc, od, .func (PySem.W.fnOf m qual (defArgs st) (defBody st) (defScope st) .none kV doc pm an cdv ct), osl⟩ ∧ PySem.W.codeIn K cdv qual = true ∧ PySem.W.keepIn K (.ref f) = true
theorem factM_mk {K : PySem.W.Frag} {C : Addr} {m qual : Str} {st : Stmt} {f : Addr} {oc : Value} {od an : Option Addr} {osl : Array (Option Value)} {kV doc pm cdv ct : Value} (a : PySem.W.findIn K (.ref C) m = some (some (.ref f))) (i : PySem.W.isFn K (.ref f) = true)
    (l : K.lookup f = some ⟨oc, od, .func (PySem.W.fnOf m qual (defArgs st) (defBody st) (defScope st) .none kV doc pm an cdv ct), osl⟩) (c : PySem.W.codeIn K cdv qual = true) (k : PySem.W.keepIn K (.ref f) = true) : FactM K C m qual st :=
  ⟨f, oc, od, an, osl, kV, doc, pm, cdv, ct, a, i, l, c, k⟩
/-- a method and how its parameters are bound -/
def MetAt (K : PySem.W.Frag) (C : Addr) (m qual : Str) (st : Stmt) (ps : List Str) : Prop :=
  ∃ (f : Addr) (fd : FuncData), Fun K m qual st f fd ∧ Meth K C m f ∧ Binds K fd ps []
theorem FactM.at_ {K : PySem.W.Frag} {C : Addr} {m qual : Str} {st : Stmt} {ps : List Str} (z : FactM K C m qual st)
    (hb : ∀ (kV doc pm : Value) (an : Option Addr) (cdv ct : Value) (us : List Value), us.length = ps.length → bindArgs (PySem.W.fnOf m qual (defArgs st) (defBody st) (defScope st) .none kV doc pm an cdv ct) ⟨us, []⟩ = pure (ps.zip us)) : MetAt K C m qual st ps := by
  obtain ⟨f, oc, od, an, osl, kV, doc, pm, cdv, ct, a, i, l, c, k⟩ := z
  have F := fun_mk (st := st) l c k
  exact ⟨f, _, F, ⟨a, i, k⟩, F.binds hb⟩
section
variable {P : Program} {w : World} {K : PySem.W.Frag} {mg : Str → Option Value} {base : Heap} {cm : Nat → Addr} {n k : Nat} {m qual : Str} {st : Stmt} {ps : List Str}
theorem MetAt.met {fn : List D → Option D} (z : MetAt K (cm n) m qual st ps) (c : Cls K (cm n)) (h : ∀ {f : Addr} {fd : FuncData}, Fun K m qual st f fd → FnOk P w K mg base CX0 k f fd ps (spP K cm fn)) : MetP P w K mg base cm k n m fn := by
  obtain ⟨f, fd, F, hm, hb⟩ := z
  exact ⟨f, fd, ps, h F, c, hm, hb⟩
theorem MetAt.metC {ms : List Bool} {fn : List D → Option (D × List D)} (z : MetAt K (cm n) m qual st ps) (c : Cls K (cm n)) (h : ∀ {f : Addr} {fd : FuncData}, Fun K m qual st f fd → FnOk P w K mg base CX0 k f fd ps (spC K cm ms fn)) : MetC P w K mg base cm k n m ms fn := by
  obtain ⟨f, fd, F, hm, hb⟩ := z
  exact ⟨f, fd, ps, h F, c, hm, hb⟩
theorem MetAt.mak {x : Str} {ms : List Bool} {fn : List D → Option (D × List D)} (z : MetAt K (cm n) "__init__" qual st ps) (c : FactC K (cm n)) (hx : mg x = some (.ref (cm n))) (h : ∀ {f : Addr} {fd : FuncData}, Fun K "__init__" qual st f fd → FnOk P w K mg base CX0 k f fd ps (spC K cm ms fn)) : MakC P w K mg base cm k n x ms fn := by
  obtain ⟨f, fd, F, hm, hb⟩ := z
  exact ⟨⟨f, fd, ps, h F, ⟨c.mks, hm.at_, hm.fn, c.kc⟩, hb⟩, hx⟩
end
end DL

/-! DL29: sorted(ints), list(range(n)). -/
namespace DL
open PySem L2
section
variable {cm : Nat → Addr} {X : Cx} {e : Expr} {es : List Expr} {pos : Pos} {fe : EF}
def intsOf : List D → Option (List Int)
  | [] => some []
  | .int i :: r => (intsOf r).map fun l => i :: l
  | _ => none
theorem intsOf_map : ∀ ns : List Int, intsOf (ns.map .int) = some ns
  | [] => rfl
  | i :: r => by rw [List.map_cons, intsOf, intsOf_map r]; rfl
theorem intsOf_eq : ∀ {ds : List D} {ns : List Int}, intsOf ds = some ns → ds = ns.map .int
  | [], ns, h => by cases h; rfl
  | d :: r, ns, h => by
    cases d with
    | int i =>
      rw [intsOf] at h
      cases e : intsOf r with
      | none => rw [e] at h; cases h
      | some l => rw [e] at h; cases h; rw [intsOf_eq e]; rfl
    | _ => cases h
theorem iss_ints {Γ : Ga} {H : Hp} : ∀ {ns : List Int} {us : List V}, Iss Γ H (ns.map .int) us → us = ns.map V.int
  | [], us, h => h
  | i :: r, us, h => by
    obtain ⟨v, t, rfl, h1, h2⟩ := h
    cases h1
    rw [iss_ints h2]; rfl
def leI (a b : Int) : Bool := decide (a ≤ b)
def srtI (ns : List Int) : List Int := ns.mergeSort leI
theorem srt_un : ∀ {l m : List Int}, l.Pairwise (· ≤ ·) → m.Pairwise (· ≤ ·) → l.Perm m → l = m
  | [], m, _, _, h => (List.nil_perm.mp h).symm
  | a :: r, [], _, _, h => by have := h.length_eq; simp at this
  | a :: r, b :: s, h1, h2, h => by
    rw [List.pairwise_cons] at h1 h2
    have hab : a ≤ b := by
      rcases List.mem_cons.mp (h.mem_iff.mpr (List.mem_cons_self (a := b) (l := s))) with q | q
      · omega
      · exact h1.1 _ q
    have hba : b ≤ a := by
      rcases List.mem_cons.mp (h.mem_iff.mp (List.mem_cons_self (a := a) (l := r))) with q | q
      · omega
      · exact h2.1 _ q
    have e : a = b := by omega
    subst e
    rw [srt_un h1.2 h2.2 ((List.perm_cons a).mp h)]
theorem srtI_perm (ns : List Int) : (srtI ns).Perm ns := List.mergeSort_perm ns leI
theorem srtI_pw (ns : List Int) : (srtI ns).Pairwise (· ≤ ·) := by
  have := List.pairwise_mergeSort (le := leI) (fun a b c h1 h2 => by simp [leI] at *; omega) (fun a b => by simp [leI]; omega) ns
  exact this.imp fun h => by simpa [leI] using h
theorem srtI_eq {ns l : List Int} (h : l.Perm ns) (hp : l.Pairwise (· ≤ ·)) : l = srtI ns := srt_un hp (srtI_pw ns) (h.trans (srtI_perm ns).symm)
def srtD : List D → Option D
  | [.lst ds] => (intsOf ds).map fun ns => .lst ((srtI ns).map .int)
  | _ => none
theorem srt_ints {ns l : List Int} (h : l.Perm ns) (hp : l.Pairwise (· ≤ ·)) : srtD [.lst (ns.map .int)] = some (.lst (l.map .int)) := by
  rw [srtD, intsOf_map, srtI_eq h hp]; rfl
theorem pu_sorted {g : AF} {p : Pos} (hm : X.mg "sorted" = none) (ha : PuA cm X (e :: es) g) (hg : Gl X "sorted" := by rfl)
    (he : starEach (e :: es) X.env = (false, eval e X.env) :: starEach es X.env := by rfl) (hpl : (backTo pos (starEach es X.env)).any (·.1) = false := by rfl) : PuE cm X (.Call (.Name "sorted" p) (e :: es) [] pos) (eCall srtD g) :=
  pu_cb (fun t pa => pe_callB cr_sortedI hg hm (by decide +kernel) pa (by decide) (by decide) he hpl) (fun H ds d vs Q e h hQ => by
    unfold srtD at e
    split at e
    · rename_i ds0
      cases ei : intsOf ds0 with
      | none => rw [ei] at e; cases e
      | some ns =>
        rw [ei] at e
        cases e
        obtain ⟨v, rfl, p, us, rfl, h1, h2⟩ := iss1 h
        rw [intsOf_eq ei] at h2
        have hu := iss_ints h2
        subst hu
        exact ⟨p, ns, rfl, SqL.of h1, fun ns' q hp hs hq => by
          rw [srtI_eq hp hs]
          exact hQ _ _ (born_lst hq (flats_map_int _) (Iss.scr _))⟩
    · cases e) ha
def lrgD : D → Option D
  | .int n => if 0 ≤ n ∧ n ≤ 16777216 then some (.lst (rangeL n)) else none
  | _ => none
theorem pu_lrg {p p2 pos2 : Pos} (hml : X.mg "list" = none) (hmr : X.mg "range" = none) (ha : PuE cm X e fe) (hc : X.calm = true := by rfl) (hg : Gl X "list" := by rfl) (hg2 : Gl X "range" := by rfl)
    (na : starEach [e] X.env = (false, eval e X.env) :: starEach [] X.env := by rfl) (na2 : starEach [.Call (.Name "range" p2) [e] [] pos2] X.env = (false, eval (.Call (.Name "range" p2) [e] [] pos2) X.env) :: starEach [] X.env := by rfl) :
    PuE cm X (.Call (.Name "list" p) [.Call (.Name "range" p2) [e] [] pos2] [] pos) (e1 lrgD fe) :=
  pu_op1 (r := fun v H Q => ∃ n, v = .int n ∧ RgOk 0 n ∧ ∀ q, H q = none → Q (.ref q) (upd H q (.lst (rgV 0 n)))) (fun _ pa => pe_listRg hc hg hml (prg_1 hg2 hmr pa na) na2) (fun H d c v Q e h hQ => by
    unfold lrgD at e
    split at e
    · rename_i n
      split at e
      · rename_i hn
        cases e
        cases h
        refine ⟨n, rfl, RgOk.of_le (by omega) hn.2 (by omega) hn.1, fun q hq => ?_⟩
        have e1 : rangeL n = ((List.range n.toNat).map fun i : Nat => (i : Int)).map .int := by simp [rangeL, Function.comp]
        have e2 : rgV 0 n = ((List.range n.toNat).map fun i : Nat => (i : Int)).map V.int := by simp [rgV, Function.comp]
        rw [e2]
        refine hQ _ _ ?_
        rw [e1]
        exact born_lst hq (flats_map_int _) (Iss.scr _)
      · cases e
    · cases e) ha
end
end DL

namespace K04
open PySem L2 DL
noncomputable section
noncomputable def b_Store___init__ : SF := (bSeq (sFldY 0 "plots" 0 wN (yN (nLstC (aCons (eV 1) aNil))))
    (bSeq (sFldY 0 "there" 0 wN (yN (nLst nNil)))
    (bSeq (sFldY 0 "worth" 0 wN (yN (nLst nNil)))
    (bSeq (sFldY 0 "held" 0 wN (yN nDic0))
    (bSeq (sFldY 0 "told" 0 wN (yN (nLst nNil)))
    (bSeq (sFldY 0 "opened" 0 wN (yN (nFlat (eC (.int 0)))))
    (sFldY 0 "given" 0 wN (yN (nLst nNil)))))))))
noncomputable def f_Store___init__ : List D → Option (D × List D) := fnC 2 [true, false] b_Store___init__
noncomputable def b_Store_number_of : SF := (bSeq (sFor (iE (eFld 0 "there" (eV 0))) (gT 2 (gsCons 2 (gsCons 3 gsNil))) (sIf (tE (e2 eqDD (eV 2) (eV 1))) (sRet (eV 3)) bNil))
    (sRet (eC (.non))))
noncomputable def f_Store_number_of : List D → Option D := fnP 4 2 b_Store_number_of
noncomputable def b_Store_laid : SF := (bSeq (sSet 4 (eMeth 0 "number_of" f_Store_number_of (eV 0) (aCons (eV 2) aNil)))
    (bSeq (sIf (tE (e1 isND (eV 4))) (sRet (eC (.str "not open"))) bNil)
    (bSeq (sApp 0 (wFld 0 "worth" 0 wN) (nLst (nCons (nFlat (eV 3)) (nCons (nFlat (eV 4)) nNil))))
    (bSeq (sSub 0 (wFld 0 "held" 0 wN) (eV 1) (nFlat (e2 subD (eCall lenD (aCons (eFld 0 "worth" (eV 0)) aNil)) (eC (.int 1)))))
    (sRet (eC (.str "")))))))
noncomputable def f_Store_laid : List D → Option (D × List D) := fnC 5 [true, false, false, false] b_Store_laid
noncomputable def b_outward : SF := (bSeq (sSetN 2 nDic0)
    (bSeq (sFor (iE (eV 0)) (gT 2 (gsCons 3 (gsCons 4 gsNil))) (sSub 2 wN (eV 3) (nFlat (eV 4))))
    (bSeq (sSetN 5 (nLst nNil))
    (bSeq (sWhile (tE (e1 notND (eV 1))) (bSeq (sApp 5 wN (nFlat (eV 1)))
    (sSet 1 (eIx ixD (eV 2) (eV 1)))))
    (sRetOn 5)))))
noncomputable def f_outward : List D → Option D := fnP 6 2 b_outward
noncomputable def b_Store_begun : SF := (bSeq (sIf (tE (e1 notND (eMeth 0 "number_of" f_Store_number_of (eV 0) (aCons (eV 1) aNil)))) (sRet (eC (.str "open already"))) bNil)
    (bSeq (sSet 2 (eSl (eCall f_outward (aCons (eFld 0 "plots" (eV 0)) (aCons (eV 1) aNil))) (oSome (eC (.int 1))) (oSome (eC (.int 2)))))
    (bSeq (sIf (tAndD (tE (e2 neDD (eV 2) (eDisp .lst aNil))) (tE (e1 isND (eMeth 0 "number_of" f_Store_number_of (eV 0) (aCons (eIx ixD (eV 2) (eC (.int 0))) aNil))))) (sRet (eC (.str "not open"))) bNil)
    (bSeq (sApp 0 (wFld 0 "there" 0 wN) (nFlat (eDisp .tup (aCons (eV 1) (aCons (eFld 0 "opened" (eV 0)) aNil)))))
    (bSeq (sFldA 0 "opened" 0 wN (eC (.int 1)))
    (sRet (eC (.str ""))))))))
noncomputable def f_Store_begun : List D → Option (D × List D) := fnC 3 [true, false] b_Store_begun
noncomputable def b_Store_lack : SF := (bSeq (sIf (tE (e2 ninD (eV 1) (eFld 0 "held" (eV 0)))) (sRet (eC (.str "nothing"))) bNil)
    (bSeq (sFor (iE (eFld 0 "there" (eV 0))) (gT 2 (gsCons 2 (gsCons 3 gsNil))) (sIf (tE (e2 eqDD (eV 3) (eIx ixD (eIx ixD (eFld 0 "worth" (eV 0)) (eIx ixD (eFld 0 "held" (eV 0)) (eV 1))) (eC (.int 1))))) (sRet (eC (.str ""))) bNil))
    (sRet (eC (.str "gone")))))
noncomputable def f_Store_lack : List D → Option D := fnP 4 2 b_Store_lack
noncomputable def b_Store_worth_of : SF := (sRet (eIx ixD (eIx ixD (eFld 0 "worth" (eV 0)) (eIx ixD (eFld 0 "held" (eV 0)) (eV 1))) (eC (.int 0))))
noncomputable def f_Store_worth_of : List D → Option D := fnP 2 2 b_Store_worth_of
noncomputable def b_Store_copied : SF := (bSeq (sSet 4 (eMeth 0 "lack" f_Store_lack (eV 0) (aCons (eV 2) aNil)))
    (bSeq (sIf (tE (e2 neDD (eV 4) (eC (.str "")))) (sRet (eV 4)) bNil)
    (sRetM (callC [true, false, false, false] f_Store_laid (insC 0 "laid" 0 (cRd (eV 1) (cRd (eV 3) (cRd (eMeth 0 "worth_of" f_Store_worth_of (eV 0) (aCons (eV 2) aNil)) cNil))))))))
noncomputable def f_Store_copied : List D → Option (D × List D) := fnC 5 [true, false, false, false] b_Store_copied
noncomputable def b_Store_shared : SF := (bSeq (sIf (tE (e2 ninD (eV 2) (eFld 0 "held" (eV 0)))) (sRet (eC (.str "nothing"))) bNil)
    (bSeq (sSub 0 (wFld 0 "held" 0 wN) (eV 1) (nFlat (eIx ixD (eFld 0 "held" (eV 0)) (eV 2))))
    (sRet (eC (.str "")))))
noncomputable def f_Store_shared : List D → Option (D × List D) := fnC 3 [true, false, false] b_Store_shared
noncomputable def b_Store_grown : SF := (bSeq (sFor (iE (eDisp .tup (aCons (eV 1) (aCons (eV 2) aNil)))) (gN 3) (bSeq (sSet 4 (eMeth 0 "lack" f_Store_lack (eV 0) (aCons (eV 3) aNil)))
    (sIf (tE (e2 neDD (eV 4) (eC (.str "")))) (sRet (eV 4)) bNil)))
    (bSeq (sAugP 0 (wIx 0 (wFld 0 "worth" 0 wN) (eIx ixD (eFld 0 "held" (eV 0)) (eV 1))) (eC (.int 0)) (eMeth 0 "worth_of" f_Store_worth_of (eV 0) (aCons (eV 2) aNil)))
    (sRet (eC (.str "")))))
noncomputable def f_Store_grown : List D → Option (D × List D) := fnC 5 [true, false, false] b_Store_grown
noncomputable def b_Store_said : SF := (bSeq (sSet 2 (eMeth 0 "lack" f_Store_lack (eV 0) (aCons (eV 1) aNil)))
    (bSeq (sIf (tE (e2 eqDD (eV 2) (eC (.str "")))) (sApp 0 (wFld 0 "told" 0 wN) (nFlat (eMeth 0 "worth_of" f_Store_worth_of (eV 0) (aCons (eV 1) aNil)))) bNil)
    (sRet (eV 2))))
noncomputable def f_Store_said : List D → Option (D × List D) := fnC 3 [true, false] b_Store_said
noncomputable def b_Store_gone : SF := (bSeq (sIf (tE (e1 isND (eMeth 0 "number_of" f_Store_number_of (eV 0) (aCons (eV 1) aNil)))) (sRet (eC (.str "not open"))) bNil)
    (bSeq (sSetN 2 (nLst nNil))
    (bSeq (sSetN 3 (nLst nNil))
    (bSeq (sLock 0 (sFor (iE (eFld 0 "there" (eV 0))) (gT 2 (gsCons 4 (gsCons 5 gsNil))) (sIf (tE (e2 inD (eV 1) (eCall f_outward (aCons (eFld 0 "plots" (eV 0)) (aCons (eV 4) aNil))))) (sApp 3 wN (nFlat (eV 5))) (sApp 2 wN (nFlat (eDisp .tup (aCons (eV 4) (aCons (eV 5) aNil))))))))
    (bSeq (sFldY 0 "there" 0 wN (yMv 2))
    (bSeq (sExt 0 (wFld 0 "given" 0 wN) (e1 revD (eV 3)))
    (sRet (eC (.str "")))))))))
noncomputable def f_Store_gone : List D → Option (D × List D) := fnC 6 [true, false] b_Store_gone
noncomputable def b_Store_do : SF := (bSeq (sSet 2 (eIx ixD (eV 1) (eC (.int 0))))
    (bSeq (sIf (tE (e2 eqDD (eV 2) (eC (.str "open")))) (sRetM (callC [true, false] f_Store_begun (insC 0 "begun" 0 (cRd (eIx ixD (eV 1) (eC (.int 1))) cNil)))) bNil)
    (bSeq (sIf (tE (e2 eqDD (eV 2) (eC (.str "lay")))) (sRetM (callC [true, false, false, false] f_Store_laid (insC 0 "laid" 0 (cRd (eIx ixD (eV 1) (eC (.int 1))) (cRd (eIx ixD (eV 1) (eC (.int 2))) (cRd (eIx ixD (eV 1) (eC (.int 3))) cNil)))))) bNil)
    (bSeq (sIf (tE (e2 eqDD (eV 2) (eC (.str "copy")))) (sRetM (callC [true, false, false, false] f_Store_copied (insC 0 "copied" 0 (cRd (eIx ixD (eV 1) (eC (.int 1))) (cRd (eIx ixD (eV 1) (eC (.int 2))) (cRd (eIx ixD (eV 1) (eC (.int 3))) cNil)))))) bNil)
    (bSeq (sIf (tE (e2 eqDD (eV 2) (eC (.str "same")))) (sRetM (callC [true, false, false] f_Store_shared (insC 0 "shared" 0 (cRd (eIx ixD (eV 1) (eC (.int 1))) (cRd (eIx ixD (eV 1) (eC (.int 2))) cNil))))) bNil)
    (bSeq (sIf (tE (e2 eqDD (eV 2) (eC (.str "add")))) (sRetM (callC [true, false, false] f_Store_grown (insC 0 "grown" 0 (cRd (eIx ixD (eV 1) (eC (.int 1))) (cRd (eIx ixD (eV 1) (eC (.int 2))) cNil))))) bNil)
    (bSeq (sIf (tE (e2 eqDD (eV 2) (eC (.str "tell")))) (sRetM (callC [true, false] f_Store_said (insC 0 "said" 0 (cRd (eIx ixD (eV 1) (eC (.int 1))) cNil)))) bNil)
    (bSeq (sIf (tE (e2 eqDD (eV 2) (eC (.str "give")))) (sRetM (callC [true, false] f_Store_gone (insC 0 "gone" 0 (cRd (eIx ixD (eV 1) (eC (.int 1))) cNil)))) bNil)
    (bSeq (sIf (tE (e2 neDD (eFld 0 "there" (eV 0)) (eDisp .lst aNil))) (sRet (eC (.str "left"))) bNil)
    (sRet (eC (.str ""))))))))))))
noncomputable def f_Store_do : List D → Option (D × List D) := fnC 3 [true, false] b_Store_do
noncomputable def b__law_whole : SF := (sRet (eAnd (e1 (isTy .int) (eV 0)) (e1 notD (e1 (isTy .bool) (eV 0)))))
noncomputable def f__law_whole : List D → Option D := fnP 1 1 b__law_whole
noncomputable def b__law_at : SF := (bSeq (sIf (tE (e2 ltD (eV 1) (eCall lenD (aCons (eV 0) aNil)))) (sRet (eIx ixD (eV 0) (eV 1))) bNil)
    (sRet (eC (.int 0))))
noncomputable def f__law_at : List D → Option D := fnP 2 2 b__law_at
noncomputable def b__law_called : SF := (bSeq (sSet 3 (eC (.str "abcdefghijklmnopqrstuvwxyz")))
    (bSeq (sSet 4 (e2 addD (eV 0) (e2 mulD (e2 mulD (eC (.int 31)) (eV 1)) (e2 modD (eV 0) (eC (.int 2))))))
    (bSeq (sSet 5 (e2 modD (e2 fdivD (eV 4) (eC (.int 26))) (e2 subD (eC (.int 9)) (eCall lenD (aCons (eV 2) aNil)))))
    (bSeq (sSet 6 (e2 joinD (eC (.str "")) (eLc (iR (eV 5)) [8] (gN 8) (fun _ => some true) (eIx ixD (eV 3) (e2 modD (e2 addD (eV 4) (e2 mulD (e2 mulD (eC (.int 5)) (eV 8)) (e2 addD (eC (.int 1)) (e2 modD (eV 4) (eC (.int 3)))))) (eC (.int 26)))))))
    (bSeq (sSet 7 (eV 5))
    (bSeq (sIf (tE (e2 eqDD (e2 modD (eV 0) (eC (.int 2))) (eC (.int 0)))) (sSet 7 (e2 modD (e2 fdivD (eV 0) (eC (.int 4))) (e2 addD (eV 5) (eC (.int 1))))) bNil)
    (sRet (e2 addD (e2 addD (eSl (eV 6) oNone (oSome (eV 7))) (eV 2)) (eSl (eV 6) (oSome (eV 7)) oNone)))))))))
noncomputable def f__law_called : List D → Option D := fnP 9 3 b__law_called
noncomputable def b__law_plots : SF := (bSeq (sSet 1 (e2 addD (eC (.int 1)) (e2 modD (eCall f__law_at (aCons (eV 0) (aCons (eC (.int 0)) aNil))) (eC (.int 4)))))
    (bSeq (sIf (tE (e2 eqDD (e2 modD (e2 fdivD (eCall f__law_at (aCons (eV 0) (aCons (eC (.int 0)) aNil))) (eC (.int 4))) (eC (.int 8))) (eC (.int 1)))) (sSet 1 (e2 subD (eC (.int 12)) (e2 modD (e2 fdivD (eCall f__law_at (aCons (eV 0) (aCons (eC (.int 0)) aNil))) (eC (.int 32))) (eC (.int 8))))) bNil)
    (bSeq (sSetN 2 (nLst nNil))
    (bSeq (sFor (iR (eV 1)) (gN 3) (bSeq (sSet 4 (e2 modD (e2 modD (e2 mulD (e2 addD (eCall f__law_at (aCons (eV 0) (aCons (eC (.int 1)) aNil))) (e2 mulD (eC (.int 7)) (eV 3))) (eC (.int 48271))) (eC (.int 10007))) (e2 addD (eV 3) (eC (.int 1)))))
    (bSeq (sIf (tAndD (tE (e2 eqDD (e2 modD (eCall f__law_at (aCons (eV 0) (aCons (eC (.int 1)) aNil))) (eC (.int 4))) (eC (.int 3)))) (tE (e2 gtD (eV 3) (eC (.int 0))))) (sSet 4 (e2 subD (eV 3) (eC (.int 1)))) bNil)
    (bSeq (sSet 5 (eC (.non)))
    (bSeq (sIf (tE (e2 ltD (eV 4) (eV 3))) (sSet 5 (eIx ixD (eIx ixD (eV 2) (eV 4)) (eC (.int 0)))) bNil)
    (sApp 2 wN (nFlat (eDisp .tup (aCons (eCall f__law_called (aCons (e2 fdivD (eCall f__law_at (aCons (eV 0) (aCons (eC (.int 1)) aNil))) (eC (.int 3))) (aCons (eV 3) (aCons (eIx ixD (eC (.str "abcdefghijkl")) (eV 3)) aNil)))) (aCons (eV 5) aNil))))))))))
    (sRetOn 2)))))
noncomputable def f__law_plots : List D → Option D := fnP 6 1 b__law_plots
noncomputable def b__law_outward : SF := (bSeq (sSetN 2 (nLst nNil))
    (bSeq (sFor (iE (e1 revD (eV 0))) (gT 2 (gsCons 3 (gsCons 4 gsNil))) (sIf (tE (e2 eqDD (eV 3) (eV 1))) (bSeq (sApp 2 wN (nFlat (eV 3)))
    (sSet 1 (eV 4))) bNil))
    (sRetOn 2)))
noncomputable def f__law_outward : List D → Option D := fnP 5 2 b__law_outward
noncomputable def b__law_word_of : SF := (bSeq (sSet 4 (eLc (iE (eV 1)) [5, 6] (gT 2 (gsCons 5 (gsCons 6 gsNil))) (fun _ => some true) (eV 5)))
    (bSeq (sIf (tAndD (tE (e2 eqDD (eV 2) (eC (.str "open")))) (tE (e2 inD (eV 3) (eV 4)))) (sRet (eC (.str "open already"))) bNil)
    (bSeq (sIf (tAndD (tE (e2 eqDD (eV 2) (eC (.str "open")))) (tAndD (tE (e2 neDD (eSl (eCall f__law_outward (aCons (eV 0) (aCons (eV 3) aNil))) (oSome (eC (.int 1))) (oSome (eC (.int 2)))) (eDisp .lst aNil))) (tE (e2 ninD (eIx ixD (eCall f__law_outward (aCons (eV 0) (aCons (eV 3) aNil))) (eC (.int 1))) (eV 4))))) (sRet (eC (.str "not open"))) bNil)
    (bSeq (sIf (tAndD (tE (e2 eqDD (eV 2) (eC (.str "give")))) (tE (e2 ninD (eV 3) (eV 4)))) (sRet (eC (.str "not open"))) bNil)
    (bSeq (sIf (tAndD (tE (e2 eqDD (eV 2) (eC (.str "end")))) (tE (e2 neDD (eV 1) (eDisp .lst aNil)))) (sRet (eC (.str "left"))) bNil)
    (sRet (eC (.str ""))))))))
noncomputable def f__law_word_of : List D → Option D := fnP 7 4 b__law_word_of
noncomputable def b__law_given : SF := (sRet (eLc (iE (eV 1)) [3] (gN 3) (tE (e2 inD (eV 2) (eCall f__law_outward (aCons (eV 0) (aCons (eIx ixD (eV 3) (eC (.int 0))) aNil))))) (eV 3)))
noncomputable def f__law_given : List D → Option D := fnP 4 3 b__law_given
noncomputable def b_law : SF := (bSeq (sSet 1 (eCall f__law_plots (aCons (eV 0) aNil)))
    (bSeq (sSet 2 (eCall lstC (aCons (eV 1) aNil)))
    (bSeq (sSetN 3 (nMake 0 1 f_Store___init__ (aCons (eV 2) aNil)))
    (bSeq (sSetN 4 (nMake 0 1 f_Store___init__ (aCons (eCall lstC (aCons (eV 1) aNil)) aNil)))
    (bSeq (sSetN 5 (nLst nNil))
    (bSeq (sSet 6 (eC (.int 0)))
    (bSeq (sSet 7 (eDisp .lst aNil))
    (bSeq (sSet 8 (eDisp .lst (aCons (eC (.str "open")) (aCons (eC (.str "give")) (aCons (eC (.str "open")) (aCons (eC (.str "end")) (aCons (eC (.str "give")) aNil)))))))
    (bSeq (sSet 9 (eLc (iE (eSl (eV 0) (oSome (eC (.int 6))) oNone)) [17] (gN 17) (fun _ => some true) (e2 modD (e2 modD (e2 mulD (e2 fdivD (eV 17) (eC (.int 5))) (eC (.int 48271))) (eC (.int 10007))) (eCall lenD (aCons (eV 1) aNil)))))
    (bSeq (sSetN 10 (nLc (eLc (iZ (eSl (eV 0) (oSome (eC (.int 6))) oNone) (eV 9)) [17, 18] (gT 2 (gsCons 17 (gsCons 18 gsNil))) (fun _ => some true) (eDisp .tup (aCons (eIx ixD (eV 8) (e2 modD (eV 17) (eC (.int 5)))) (aCons (eIx ixD (eIx ixD (eV 1) (eV 18)) (eC (.int 0))) aNil))))))
    (bSeq (sExt 10 wN (eLc (iE (eV 1)) [12, 19] (gT 2 (gsCons 12 (gsCons 19 gsNil))) (tE (e1 isND (eV 19))) (eDisp .tup (aCons (eC (.str "give")) (aCons (eV 12) aNil)))))
    (bFroz 10 (bSeq (sFor (iE (eV 10)) (gT 2 (gsCons 11 (gsCons 12 gsNil))) (bSeq (sSet 13 (eCall f__law_word_of (aCons (eV 1) (aCons (eV 5) (aCons (eV 11) (aCons (eV 12) aNil))))))
    (bSeq (sSet 14 (eSl (eDisp .tup (aCons (eV 11) (aCons (eV 12) aNil))) oNone (oSome (e2 subD (eC (.int 2)) (eCall intC (aCons (e2 eqDD (eV 11) (eC (.str "end"))) aNil))))))
    (bSeq (sSetM 15 (callC [true, false] f_Store_do (insC 0 "do" 3 (cRd (eV 14) cNil))))
    (bSeq (sIf (tOrD (tNotD (tE (e1 (isTy .str) (eV 15)))) (tE (e2 neDD (eV 15) (eV 13)))) (sRet (eC (.bl false))) bNil)
    (bSeq (sIf (tAndD (tE (e2 eqDD (eV 13) (eC (.str "")))) (tE (e2 eqDD (eV 11) (eC (.str "open"))))) (bSeq (sApp 5 wN (nFlat (eDisp .tup (aCons (eV 12) (aCons (eV 6) aNil)))))
    (sSet 6 (e2 addD (eV 6) (eC (.int 1))))) (sIf (tAndD (tE (e2 eqDD (eV 13) (eC (.str "")))) (tE (e2 eqDD (eV 11) (eC (.str "give"))))) (bSeq (sSet 16 (eCall f__law_given (aCons (eV 1) (aCons (eV 5) (aCons (eV 12) aNil)))))
    (bSeq (sSet 7 (e2 addD (eV 7) (e1 revD (eLc (iE (eV 16)) [20, 21] (gT 2 (gsCons 20 (gsCons 21 gsNil))) (fun _ => some true) (eV 21)))))
    (sSetN 5 (nLc (eLc (iE (eV 5)) [22] (gN 22) (tE (e2 ninD (eV 22) (eV 16))) (eV 22)))))) bNil))
    (sIf (tOrD (tNotD (tE (eCall f__law_whole (aCons (eFld 0 "opened" (eV 3)) aNil)))) (tOrD (tE (e2 neDD (eFld 0 "opened" (eV 3)) (eV 6))) (tE (e2 neDD (eFld 0 "given" (eV 3)) (eV 7))))) (sRet (eC (.bl false))) bNil)))))))
    (bSeq (sIf (tOrD (tNotD (tE (e1 (isTy .list) (eFld 0 "given" (eV 3))))) (tE (e2 neDD (eLc (iE (eFld 0 "given" (eV 3))) [23] (gN 23) (tNotD (tE (eCall f__law_whole (aCons (eV 23) aNil)))) (eV 23)) (eDisp .lst aNil)))) (sRet (eC (.bl false))) bNil)
    (sRet (eAnd (e2 eqDD (eCall srtD (aCons (eFld 0 "given" (eV 3)) aNil)) (e1 lrgD (eV 6))) (eAnd (e2 eqDD (eFld 0 "opened" (eV 4)) (eC (.int 0))) (eAnd (e2 eqDD (eFld 0 "given" (eV 4)) (eDisp .lst aNil)) (e2 eqDD (eV 2) (eV 1))))))))))))))))))))
noncomputable def f_law : List D → Option D := fnP 24 1 b_law
end
end K04

namespace K04
open PySem L2 DL
def atZ (ns : List Int) (i : Int) : Int := if i < ns.length then ns.getD i.toNat 0 else 0
theorem at_eq {ns : List Int} {i : Int} (h : 0 ≤ i) : f__law_at [.scr ns, .int i] = some (.int (atZ ns i)) := by
  unfold f__law_at
  by_cases q : i < ns.length
  · apply fn_ev rfl
    unfold b__law_at
    refine se_seq_rt (se_if_t (b := decide (i < (ns.length : Nat))) ?_ (by simpa using q) (sf_ret (d := .int (atZ ns i)) ?_ rfl))
    · (repeat' first | ((with_reducible apply vf_fz); exact rfl) | ((with_reducible apply vf_fn); exact rfl) | ((with_reducible apply vf_on); exact rfl) | ((with_reducible apply vf_ow); exact rfl) | ((with_reducible apply vf_fa); exact rfl) | with_reducible exact vf_c | with_reducible exact af_nil | with_reducible exact oe_none | with_reducible apply tf_v | with_reducible apply nf_flat | with_reducible apply af_cons | with_reducible apply of_some | with_reducible apply vf_e2 | with_reducible apply vf_e1 | with_reducible apply vf_ix | with_reducible apply vf_fld | with_reducible apply vf_call | with_reducible apply vn_call | with_reducible apply vf_sl | with_reducible apply vf_disp | with_reducible apply vn_disp | with_reducible exact add_int | with_reducible exact sub_int | with_reducible exact eq_int | with_reducible exact ne_int | with_reducible exact lt_int | with_reducible exact gt_int | ((with_reducible apply mod_ok); omega) | ((with_reducible apply fdiv_ok) <;> omega) | ((with_reducible apply mul_okl) <;> omega) | ((with_reducible apply mul_okr) <;> omega) | (refine (?_ : flats _ = true); exact rfl) | (refine (?_ : flat _ = true); exact rfl) | (refine (?_ : List.length _ ≤ 16777216); simp; done) | exact rfl | exact add_int | exact sub_int)
    · (repeat' first | ((with_reducible apply vf_fz); exact rfl) | ((with_reducible apply vf_fn); exact rfl) | ((with_reducible apply vf_on); exact rfl) | ((with_reducible apply vf_ow); exact rfl) | ((with_reducible apply vf_fa); exact rfl) | with_reducible exact vf_c | with_reducible exact af_nil | with_reducible exact oe_none | with_reducible apply tf_v | with_reducible apply nf_flat | with_reducible apply af_cons | with_reducible apply of_some | with_reducible apply vf_e2 | with_reducible apply vf_e1 | with_reducible apply vf_ix | with_reducible apply vf_fld | with_reducible apply vf_call | with_reducible apply vn_call | with_reducible apply vf_sl | with_reducible apply vf_disp | with_reducible apply vn_disp | with_reducible exact add_int | with_reducible exact sub_int | with_reducible exact eq_int | with_reducible exact ne_int | with_reducible exact lt_int | with_reducible exact gt_int | ((with_reducible apply mod_ok); omega) | ((with_reducible apply fdiv_ok) <;> omega) | ((with_reducible apply mul_okl) <;> omega) | ((with_reducible apply mul_okr) <;> omega) | (refine (?_ : flats _ = true); exact rfl) | (refine (?_ : flat _ = true); exact rfl) | (refine (?_ : List.length _ ≤ 16777216); simp; done) | exact add_int | exact sub_int)
      refine ix_scr h ?_
      unfold atZ
      rw [if_pos q, List.getD_eq_getElem?_getD, List.getElem?_eq_getElem (by omega)]; rfl
  · apply fn_ev rfl
    unfold b__law_at
    refine se_seq (se_if_f (b := decide (i < (ns.length : Nat))) ?_ (by simpa using q) se_nil) ?_
    · (repeat' first | ((with_reducible apply vf_fz); exact rfl) | ((with_reducible apply vf_fn); exact rfl) | ((with_reducible apply vf_on); exact rfl) | ((with_reducible apply vf_ow); exact rfl) | ((with_reducible apply vf_fa); exact rfl) | with_reducible exact vf_c | with_reducible exact af_nil | with_reducible exact oe_none | with_reducible apply tf_v | with_reducible apply nf_flat | with_reducible apply af_cons | with_reducible apply of_some | with_reducible apply vf_e2 | with_reducible apply vf_e1 | with_reducible apply vf_ix | with_reducible apply vf_fld | with_reducible apply vf_call | with_reducible apply vn_call | with_reducible apply vf_sl | with_reducible apply vf_disp | with_reducible apply vn_disp | with_reducible exact add_int | with_reducible exact sub_int | with_reducible exact eq_int | with_reducible exact ne_int | with_reducible exact lt_int | with_reducible exact gt_int | ((with_reducible apply mod_ok); omega) | ((with_reducible apply fdiv_ok) <;> omega) | ((with_reducible apply mul_okl) <;> omega) | ((with_reducible apply mul_okr) <;> omega) | (refine (?_ : flats _ = true); exact rfl) | (refine (?_ : flat _ = true); exact rfl) | (refine (?_ : List.length _ ≤ 16777216); simp; done) | exact rfl | exact add_int | exact sub_int)
    · rw [show atZ ns i = 0 by unfold atZ; rw [if_neg q]]
      exact sf_ret vf_c rfl
theorem az_eq : ("abcdefghijklmnopqrstuvwxyz" : Str) = tx ((List.range 26).map (97 + ·)) := by decide +kernel
theorem empty_eq : ("" : Str) = tx [] := by decide +kernel
def wy (x t : Int) : Int := x + 31 * t * (x % 2)
def wsz (x t : Int) (n : Nat) : Nat := ((wy x t / 26) % (9 - (n : Int))).toNat
def wd (x t : Int) (n : Nat) : List Nat := (List.range (wsz x t n)).map fun (i : Nat) => 97 + ((wy x t + 5 * (i : Int) * (1 + wy x t % 3)) % 26).toNat
def wat (x t : Int) (n : Nat) : Nat := if x % 2 = 0 then ((x / 4) % ((wsz x t n : Int) + 1)).toNat else wsz x t n
def cld (x t : Int) (c : List Nat) : List Nat := (wd x t c.length).take (wat x t c.length) ++ c ++ (wd x t c.length).drop (wat x t c.length)
theorem wsz_lt (x t : Int) {n : Nat} (h : n ≤ 8) : wsz x t n ≤ 8 := by
  unfold wsz
  have := Int.emod_lt_of_pos (wy x t / 26) (show 0 < 9 - (n : Int) by omega)
  omega
theorem wd_len (x t : Int) (n : Nat) : (wd x t n).length = wsz x t n := by simp [wd]
theorem cld_len (x t : Int) (c : List Nat) (h : c.length ≤ 8) : (cld x t c).length ≤ 16 := by
  have := wsz_lt x t h
  simp only [cld, List.length_append, List.length_take, List.length_drop, wd_len]
  omega
theorem cld_ok (x t : Int) (c : List Nat) (h : okC c = true) : okC (cld x t c) = true := by
  have q : ∀ a ∈ wd x t c.length, a < 0x110000 := by
    intro a ha
    simp only [wd, List.mem_map] at ha
    obtain ⟨i, _, rfl⟩ := ha
    have := Int.emod_lt_of_pos (wy x t + 5 * (i : Int) * (1 + wy x t % 3)) (show (0:Int) < 26 by omega)
    omega
  simp only [okC, List.all_eq_true, decide_eq_true_eq] at h ⊢
  intro a ha
  simp only [cld, List.mem_append] at ha
  rcases ha with (ha | ha) | ha
  · exact q a (List.mem_of_mem_take ha)
  · exact h a ha
  · exact q a (List.mem_of_mem_drop ha)
theorem cld_injL (x t u : Int) (c e : List Nat) (hl : c.length = e.length) (h : cld x t c = cld x u e) : c = e := by
  unfold cld at h
  by_cases q : x % 2 = 0
  · have a : wd x t c.length = wd x u e.length := by simp [wd, wsz, wy, q, hl]
    have b : wat x t c.length = wat x u e.length := by simp [wat, wsz, wy, q, hl]
    rw [a, b] at h
    have := List.append_cancel_right h
    exact List.append_cancel_left this
  · have k : ∀ v (z : List Nat), (wd x v z.length).drop (wat x v z.length) = [] := by
      intro v z
      rw [show wat x v z.length = (wd x v z.length).length by rw [wd_len]; simp [wat, q]]
      simp
    rw [k, k] at h
    simp only [List.append_nil] at h
    exact (List.append_inj' h hl).2
theorem cld_inj (x t u : Int) (c e : Nat) (h : cld x t [c] = cld x u [e]) : c = e := by
  have := cld_injL x t u [c] [e] rfl h
  simpa using this
theorem called_eq {x t : Int} {c : List Nat} (h : c.length ≤ 8) : f__law_called [.int x, .int t, .str (tx c)] = some (.str (tx (cld x t c))) := by
  unfold f__law_called
  have hs := wsz_lt x t h
  apply fn_ev rfl
  unfold b__law_called
  refine se_seq (sf_set (d := .str (tx ((List.range 26).map (97 + ·)))) ?_ rfl rfl rfl) ?_
  · rw [← az_eq]; exact vf_c
  refine se_seq (sf_set (d := .int (wy x t)) ?_ rfl rfl rfl) ?_
  · (repeat' first | ((with_reducible apply vf_fz); exact rfl) | ((with_reducible apply vf_fn); exact rfl) | ((with_reducible apply vf_on); exact rfl) | ((with_reducible apply vf_ow); exact rfl) | ((with_reducible apply vf_fa); exact rfl) | with_reducible exact vf_c | with_reducible exact af_nil | with_reducible exact oe_none | with_reducible apply tf_v | with_reducible apply nf_flat | with_reducible apply af_cons | with_reducible apply of_some | with_reducible apply vf_e2 | with_reducible apply vf_e1 | with_reducible apply vf_ix | with_reducible apply vf_fld | with_reducible apply vf_call | with_reducible apply vn_call | with_reducible apply vf_sl | with_reducible apply vf_disp | with_reducible apply vn_disp | with_reducible exact add_int | with_reducible exact sub_int | with_reducible exact eq_int | with_reducible exact ne_int | with_reducible exact lt_int | with_reducible exact gt_int | ((with_reducible apply mod_ok); omega) | ((with_reducible apply fdiv_ok) <;> omega) | ((with_reducible apply mul_okl) <;> omega) | ((with_reducible apply mul_okr) <;> omega) | (refine (?_ : flats _ = true); exact rfl) | (refine (?_ : flat _ = true); exact rfl) | (refine (?_ : List.length _ ≤ 16777216); simp; done) | exact add_int | exact sub_int)
  refine se_seq (sf_set (d := .int (wsz x t c.length : Nat)) ?_ rfl rfl rfl) ?_
  · refine vf_e2 (a := .int (wy x t / 26)) (b := .int (9 - (c.length : Nat))) ?_ ?_ ?_
    · (repeat' first | ((with_reducible apply vf_fz); exact rfl) | ((with_reducible apply vf_fn); exact rfl) | ((with_reducible apply vf_on); exact rfl) | ((with_reducible apply vf_ow); exact rfl) | ((with_reducible apply vf_fa); exact rfl) | with_reducible exact vf_c | with_reducible exact af_nil | with_reducible exact oe_none | with_reducible apply tf_v | with_reducible apply nf_flat | with_reducible apply af_cons | with_reducible apply of_some | with_reducible apply vf_e2 | with_reducible apply vf_e1 | with_reducible apply vf_ix | with_reducible apply vf_fld | with_reducible apply vf_call | with_reducible apply vn_call | with_reducible apply vf_sl | with_reducible apply vf_disp | with_reducible apply vn_disp | with_reducible exact add_int | with_reducible exact sub_int | with_reducible exact eq_int | with_reducible exact ne_int | with_reducible exact lt_int | with_reducible exact gt_int | ((with_reducible apply mod_ok); omega) | ((with_reducible apply fdiv_ok) <;> omega) | ((with_reducible apply mul_okl) <;> omega) | ((with_reducible apply mul_okr) <;> omega) | (refine (?_ : flats _ = true); exact rfl) | (refine (?_ : flat _ = true); exact rfl) | (refine (?_ : List.length _ ≤ 16777216); simp; done) | exact add_int | exact sub_int)
    · (repeat' first | ((with_reducible apply vf_fz); exact rfl) | ((with_reducible apply vf_fn); exact rfl) | ((with_reducible apply vf_on); exact rfl) | ((with_reducible apply vf_ow); exact rfl) | ((with_reducible apply vf_fa); exact rfl) | with_reducible exact vf_c | with_reducible exact af_nil | with_reducible exact oe_none | with_reducible apply tf_v | with_reducible apply nf_flat | with_reducible apply af_cons | with_reducible apply of_some | with_reducible apply vf_e2 | with_reducible apply vf_e1 | with_reducible apply vf_ix | with_reducible apply vf_fld | with_reducible apply vf_call | with_reducible apply vn_call | with_reducible apply vf_sl | with_reducible apply vf_disp | with_reducible apply vn_disp | with_reducible exact add_int | with_reducible exact sub_int | with_reducible exact eq_int | with_reducible exact ne_int | with_reducible exact lt_int | with_reducible exact gt_int | ((with_reducible apply mod_ok); omega) | ((with_reducible apply fdiv_ok) <;> omega) | ((with_reducible apply mul_okl) <;> omega) | ((with_reducible apply mul_okr) <;> omega) | (refine (?_ : flats _ = true); exact rfl) | (refine (?_ : flat _ = true); exact rfl) | (refine (?_ : List.length _ ≤ 16777216); simp; done) | exact len_tx (by omega) | exact add_int | exact sub_int)
    · rw [mod_ok (by omega)]
      unfold wsz
      have := Int.emod_nonneg (wy x t / 26) (show 9 - (c.length : Int) ≠ 0 by omega)
      rw [Int.toNat_of_nonneg this]
  refine se_seq (sf_set (d := .str (tx (wd x t c.length))) ?_ rfl rfl rfl) ?_
  · refine vf_e2 (a := .str (tx [])) (b := .lst ((List.range (wsz x t c.length)).map fun (i : Nat) => .str (tx [97 + ((wy x t + 5 * (i : Int) * (1 + wy x t % 3)) % 26).toNat]))) ?_ ?_ (join_chars _ (by simp; omega))
    · rw [← empty_eq]; exact vf_c
    · refine .of (vn_lcr (n := wsz x t c.length) ?_ (by omega) (show 8 < 9 by decide) (fun i hi => ?_) (fun _ => rfl))
      · (repeat' first | ((with_reducible apply vf_fz); exact rfl) | ((with_reducible apply vf_fn); exact rfl) | ((with_reducible apply vf_on); exact rfl) | ((with_reducible apply vf_ow); exact rfl) | ((with_reducible apply vf_fa); exact rfl) | with_reducible exact vf_c | with_reducible exact af_nil | with_reducible exact oe_none | with_reducible apply tf_v | with_reducible apply nf_flat | with_reducible apply af_cons | with_reducible apply of_some | with_reducible apply vf_e2 | with_reducible apply vf_e1 | with_reducible apply vf_ix | with_reducible apply vf_fld | with_reducible apply vf_call | with_reducible apply vn_call | with_reducible apply vf_sl | with_reducible apply vf_disp | with_reducible apply vn_disp | with_reducible exact add_int | with_reducible exact sub_int | with_reducible exact eq_int | with_reducible exact ne_int | with_reducible exact lt_int | with_reducible exact gt_int | ((with_reducible apply mod_ok); omega) | ((with_reducible apply fdiv_ok) <;> omega) | ((with_reducible apply mul_okl) <;> omega) | ((with_reducible apply mul_okr) <;> omega) | (refine (?_ : flats _ = true); exact rfl) | (refine (?_ : flat _ = true); exact rfl) | (refine (?_ : List.length _ ≤ 16777216); simp; done) | exact add_int | exact sub_int)
      · refine vf_ix (a := .str (tx ((List.range 26).map (97 + ·)))) (b := .int ((wy x t + 5 * (i : Int) * (1 + wy x t % 3)) % 26)) (vf_fn rfl) ?_ ?_
        · (repeat' first | ((with_reducible apply vf_fz); exact rfl) | ((with_reducible apply vf_fn); exact rfl) | ((with_reducible apply vf_on); exact rfl) | ((with_reducible apply vf_ow); exact rfl) | ((with_reducible apply vf_fa); exact rfl) | with_reducible exact vf_c | with_reducible exact af_nil | with_reducible exact oe_none | with_reducible apply tf_v | with_reducible apply nf_flat | with_reducible apply af_cons | with_reducible apply of_some | with_reducible apply vf_e2 | with_reducible apply vf_e1 | with_reducible apply vf_ix | with_reducible apply vf_fld | with_reducible apply vf_call | with_reducible apply vn_call | with_reducible apply vf_sl | with_reducible apply vf_disp | with_reducible apply vn_disp | with_reducible exact add_int | with_reducible exact sub_int | with_reducible exact eq_int | with_reducible exact ne_int | with_reducible exact lt_int | with_reducible exact gt_int | ((with_reducible apply mod_ok); omega) | ((with_reducible apply fdiv_ok) <;> omega) | ((with_reducible apply mul_okl) <;> omega) | ((with_reducible apply mul_okr) <;> omega) | (refine (?_ : flats _ = true); exact rfl) | (refine (?_ : flat _ = true); exact rfl) | (refine (?_ : List.length _ ≤ 16777216); simp; done) | exact add_int | exact sub_int)
        · have a0 := Int.emod_nonneg (wy x t + 5 * (i : Int) * (1 + wy x t % 3)) (show (26:Int) ≠ 0 by omega)
          have a1 := Int.emod_lt_of_pos (wy x t + 5 * (i : Int) * (1 + wy x t % 3)) (show (0:Int) < 26 by omega)
          refine ix_tx (by simp) a0 ?_
          rw [List.getElem?_map, List.getElem?_range (by omega)]; rfl
  refine se_seq (sf_set (d := .int (wsz x t c.length : Nat)) (vf_fn rfl) rfl rfl rfl) ?_
  refine se_seq (sf_if_set (b := (x % 2 == 0)) (d := .int ((x / 4) % ((wsz x t c.length : Int) + 1))) ?_ rfl (fun _ => ?_) rfl) ?_
  · (repeat' first | ((with_reducible apply vf_fz); exact rfl) | ((with_reducible apply vf_fn); exact rfl) | ((with_reducible apply vf_on); exact rfl) | ((with_reducible apply vf_ow); exact rfl) | ((with_reducible apply vf_fa); exact rfl) | with_reducible exact vf_c | with_reducible exact af_nil | with_reducible exact oe_none | with_reducible apply tf_v | with_reducible apply nf_flat | with_reducible apply af_cons | with_reducible apply of_some | with_reducible apply vf_e2 | with_reducible apply vf_e1 | with_reducible apply vf_ix | with_reducible apply vf_fld | with_reducible apply vf_call | with_reducible apply vn_call | with_reducible apply vf_sl | with_reducible apply vf_disp | with_reducible apply vn_disp | with_reducible exact add_int | with_reducible exact sub_int | with_reducible exact eq_int | with_reducible exact ne_int | with_reducible exact lt_int | with_reducible exact gt_int | ((with_reducible apply mod_ok); omega) | ((with_reducible apply fdiv_ok) <;> omega) | ((with_reducible apply mul_okl) <;> omega) | ((with_reducible apply mul_okr) <;> omega) | (refine (?_ : flats _ = true); exact rfl) | (refine (?_ : flat _ = true); exact rfl) | (refine (?_ : List.length _ ≤ 16777216); simp; done) | exact add_int | exact sub_int)
  · (repeat' first | ((with_reducible apply vf_fz); exact rfl) | ((with_reducible apply vf_fn); exact rfl) | ((with_reducible apply vf_on); exact rfl) | ((with_reducible apply vf_ow); exact rfl) | ((with_reducible apply vf_fa); exact rfl) | with_reducible exact vf_c | with_reducible exact af_nil | with_reducible exact oe_none | with_reducible apply tf_v | with_reducible apply nf_flat | with_reducible apply af_cons | with_reducible apply of_some | with_reducible apply vf_e2 | with_reducible apply vf_e1 | with_reducible apply vf_ix | with_reducible apply vf_fld | with_reducible apply vf_call | with_reducible apply vn_call | with_reducible apply vf_sl | with_reducible apply vf_disp | with_reducible apply vn_disp | with_reducible exact add_int | with_reducible exact sub_int | with_reducible exact eq_int | with_reducible exact ne_int | with_reducible exact lt_int | with_reducible exact gt_int | ((with_reducible apply mod_ok); omega) | ((with_reducible apply fdiv_ok) <;> omega) | ((with_reducible apply mul_okl) <;> omega) | ((with_reducible apply mul_okr) <;> omega) | (refine (?_ : flats _ = true); exact rfl) | (refine (?_ : flat _ = true); exact rfl) | (refine (?_ : List.length _ ≤ 16777216); simp; done) | exact add_int | exact sub_int)
  have ea : (if (x % 2 == 0) = true then D.int ((x / 4) % ((wsz x t c.length : Int) + 1)) else D.int (wsz x t c.length : Nat)) = .int (wat x t c.length : Nat) := by
    unfold wat
    by_cases q : x % 2 = 0
    · rw [if_pos (by simpa using q), if_pos q, Int.toNat_of_nonneg (Int.emod_nonneg _ (by omega))]
    · rw [if_neg (by simpa using q), if_neg q]
  rw [ea]
  refine sf_ret (d := .str (tx (cld x t c))) ?_ rfl
  unfold cld
  refine vf_e2 (a := .str (tx ((wd x t c.length).take (wat x t c.length) ++ c))) (b := .str (tx ((wd x t c.length).drop (wat x t c.length)))) ?_ ?_ ?_
  · refine vf_e2 (a := .str (tx ((wd x t c.length).take (wat x t c.length)))) (b := .str (tx c)) ?_ (vf_fz rfl) ?_
    · (repeat' first | ((with_reducible apply vf_fz); exact rfl) | ((with_reducible apply vf_fn); exact rfl) | ((with_reducible apply vf_on); exact rfl) | ((with_reducible apply vf_ow); exact rfl) | ((with_reducible apply vf_fa); exact rfl) | with_reducible exact vf_c | with_reducible exact af_nil | with_reducible exact oe_none | with_reducible apply tf_v | with_reducible apply nf_flat | with_reducible apply af_cons | with_reducible apply of_some | with_reducible apply vf_e2 | with_reducible apply vf_e1 | with_reducible apply vf_ix | with_reducible apply vf_fld | with_reducible apply vf_call | with_reducible apply vn_call | with_reducible apply vf_sl | with_reducible apply vf_disp | with_reducible apply vn_disp | with_reducible exact add_int | with_reducible exact sub_int | with_reducible exact eq_int | with_reducible exact ne_int | with_reducible exact lt_int | with_reducible exact gt_int | ((with_reducible apply mod_ok); omega) | ((with_reducible apply fdiv_ok) <;> omega) | ((with_reducible apply mul_okl) <;> omega) | ((with_reducible apply mul_okr) <;> omega) | (refine (?_ : flats _ = true); exact rfl) | (refine (?_ : flat _ = true); exact rfl) | (refine (?_ : List.length _ ≤ 16777216); simp; done) | exact sl_str_to rfl (by rw [wd_len]; omega) | exact add_int | exact sub_int)
    · refine add_tx ?_
      simp [wd_len]; omega
  · (repeat' first | ((with_reducible apply vf_fz); exact rfl) | ((with_reducible apply vf_fn); exact rfl) | ((with_reducible apply vf_on); exact rfl) | ((with_reducible apply vf_ow); exact rfl) | ((with_reducible apply vf_fa); exact rfl) | with_reducible exact vf_c | with_reducible exact af_nil | with_reducible exact oe_none | with_reducible apply tf_v | with_reducible apply nf_flat | with_reducible apply af_cons | with_reducible apply of_some | with_reducible apply vf_e2 | with_reducible apply vf_e1 | with_reducible apply vf_ix | with_reducible apply vf_fld | with_reducible apply vf_call | with_reducible apply vn_call | with_reducible apply vf_sl | with_reducible apply vf_disp | with_reducible apply vn_disp | with_reducible exact add_int | with_reducible exact sub_int | with_reducible exact eq_int | with_reducible exact ne_int | with_reducible exact lt_int | with_reducible exact gt_int | ((with_reducible apply mod_ok); omega) | ((with_reducible apply fdiv_ok) <;> omega) | ((with_reducible apply mul_okl) <;> omega) | ((with_reducible apply mul_okr) <;> omega) | (refine (?_ : flats _ = true); exact rfl) | (refine (?_ : flat _ = true); exact rfl) | (refine (?_ : List.length _ ≤ 16777216); simp; done) | exact sl_str_from rfl (by rw [wd_len]; omega) | exact add_int | exact sub_int)
  · refine add_tx ?_
    simp [wd_len]; omega

/-! ### the plots -/
section
variable (ns : List Int)
def pnI : Int := if (atZ ns 0 / 4 % 8 == 1) = true then 12 - atZ ns 0 / 32 % 8 else 1 + atZ ns 0 % 4
def pn : Nat := (pnI ns).toNat
theorem pn_eq : pnI ns = (pn ns : Nat) ∧ 1 ≤ pn ns ∧ pn ns ≤ 12 := by
  have a0 := Int.emod_nonneg (atZ ns 0 / 32) (show (8:Int) ≠ 0 by omega)
  have a1 := Int.emod_lt_of_pos (atZ ns 0 / 32) (show (0:Int) < 8 by omega)
  have b0 := Int.emod_nonneg (atZ ns 0) (show (4:Int) ≠ 0 by omega)
  have b1 := Int.emod_lt_of_pos (atZ ns 0) (show (0:Int) < 4 by omega)
  unfold pn pnI
  split <;> omega
def pqb (i : Nat) : Bool := (atZ ns 1 % 4 == 3) && decide ((i : Int) > 0)
def pqI (i : Nat) : Int := if pqb ns i = true then (i : Int) - 1 else (atZ ns 1 + 7 * (i : Int)) * 48271 % 10007 % ((i : Int) + 1)
def pq (i : Nat) : Nat := (pqI ns i).toNat
theorem pq_eq (i : Nat) : pqI ns i = (pq ns i : Nat) := by
  unfold pq pqI
  have a0 := Int.emod_nonneg ((atZ ns 1 + 7 * (i : Int)) * 48271 % 10007) (show (i : Int) + 1 ≠ 0 by omega)
  split
  · rename_i h
    unfold pqb at h
    simp only [Bool.and_eq_true, decide_eq_true_eq] at h
    omega
  · omega
def ppar (i : Nat) : Option Nat := if pq ns i < i then some (pq ns i) else none
theorem ppar_lt {i j : Nat} (h : ppar ns i = some j) : j < i := by
  unfold ppar at h
  split at h
  · cases h; assumption
  · cases h
def pnm (i : Nat) : List Nat := cld (atZ ns 1 / 3) (i : Nat) [97 + i]
def pD : Option Nat → D
  | none => .non
  | some j => .str (tx (pnm ns j))
def plot (i : Nat) : D := .tup [.str (tx (pnm ns i)), pD ns (ppar ns i)]
def plots : List D := (List.range (pn ns)).map (plot ns)
theorem pD_flat (o : Option Nat) : flat (pD ns o) = true := by cases o <;> rfl
theorem plot_flat (i : Nat) : flat (plot ns i) = true := by
  show (true && (flat (pD ns (ppar ns i)) && true)) = true
  rw [pD_flat]; rfl
theorem plots_flat : flats (plots ns) = true := flats_map (plot_flat ns) _
theorem pnm_inj {i j : Nat} (h : pnm ns i = pnm ns j) : i = j := by
  have := cld_inj _ _ _ _ _ h
  omega
theorem pnm_len (i : Nat) : (pnm ns i).length ≤ 16 := cld_len _ _ _ (by simp)
theorem pnm_ok {i : Nat} (h : i < 12) : okC (pnm ns i) = true := cld_ok _ _ _ (by simp [okC]; omega)
end
theorem al_eq : ("abcdefghijkl" : Str) = tx ((List.range 12).map (97 + ·)) := by decide +kernel
theorem plots_eq (ns : List Int) : f__law_plots [.scr ns] = some (.lst (plots ns)) := by
  obtain ⟨p0, p1, p2⟩ := pn_eq ns
  refine fn_sr rfl ?_
  unfold b__law_plots
  (try simp only [List.set_cons_zero, List.set_cons_succ])
  refine sr_seq (sf_set (d := .int (1 + atZ ns 0 % 4)) ?_ rfl rfl rfl) ?_
  · (repeat' first | ((with_reducible apply vf_fz); exact rfl) | ((with_reducible apply vf_fn); exact rfl) | ((with_reducible apply vf_on); exact rfl) | ((with_reducible apply vf_ow); exact rfl) | ((with_reducible apply vf_fa); exact rfl) | with_reducible exact vf_c | with_reducible exact af_nil | with_reducible exact oe_none | with_reducible apply tf_v | with_reducible apply nf_flat | with_reducible apply af_cons | with_reducible apply of_some | with_reducible apply vf_e2 | with_reducible apply vf_e1 | with_reducible apply vf_ix | with_reducible apply vf_fld | with_reducible apply vf_call | with_reducible apply vn_call | with_reducible apply vf_sl | with_reducible apply vf_disp | with_reducible apply vn_disp | with_reducible exact add_int | with_reducible exact sub_int | with_reducible exact eq_int | with_reducible exact ne_int | with_reducible exact lt_int | with_reducible exact gt_int | ((with_reducible apply mod_ok); omega) | ((with_reducible apply fdiv_ok) <;> omega) | ((with_reducible apply mul_okl) <;> omega) | ((with_reducible apply mul_okr) <;> omega) | (refine (?_ : flats _ = true); exact rfl) | (refine (?_ : flat _ = true); exact rfl) | (refine (?_ : List.length _ ≤ 16777216); simp; done) | exact at_eq (by decide) | exact add_int | exact sub_int)
  (try simp only [List.set_cons_zero, List.set_cons_succ])
  refine sr_seq (sf_if_set (b := (atZ ns 0 / 4 % 8 == 1)) (d := .int (12 - atZ ns 0 / 32 % 8)) ?_ rfl (fun _ => ?_) rfl) ?_
  · (repeat' first | ((with_reducible apply vf_fz); exact rfl) | ((with_reducible apply vf_fn); exact rfl) | ((with_reducible apply vf_on); exact rfl) | ((with_reducible apply vf_ow); exact rfl) | ((with_reducible apply vf_fa); exact rfl) | with_reducible exact vf_c | with_reducible exact af_nil | with_reducible exact oe_none | with_reducible apply tf_v | with_reducible apply nf_flat | with_reducible apply af_cons | with_reducible apply of_some | with_reducible apply vf_e2 | with_reducible apply vf_e1 | with_reducible apply vf_ix | with_reducible apply vf_fld | with_reducible apply vf_call | with_reducible apply vn_call | with_reducible apply vf_sl | with_reducible apply vf_disp | with_reducible apply vn_disp | with_reducible exact add_int | with_reducible exact sub_int | with_reducible exact eq_int | with_reducible exact ne_int | with_reducible exact lt_int | with_reducible exact gt_int | ((with_reducible apply mod_ok); omega) | ((with_reducible apply fdiv_ok) <;> omega) | ((with_reducible apply mul_okl) <;> omega) | ((with_reducible apply mul_okr) <;> omega) | (refine (?_ : flats _ = true); exact rfl) | (refine (?_ : flat _ = true); exact rfl) | (refine (?_ : List.length _ ≤ 16777216); simp; done) | exact at_eq (by decide) | exact add_int | exact sub_int)
  · (repeat' first | ((with_reducible apply vf_fz); exact rfl) | ((with_reducible apply vf_fn); exact rfl) | ((with_reducible apply vf_on); exact rfl) | ((with_reducible apply vf_ow); exact rfl) | ((with_reducible apply vf_fa); exact rfl) | with_reducible exact vf_c | with_reducible exact af_nil | with_reducible exact oe_none | with_reducible apply tf_v | with_reducible apply nf_flat | with_reducible apply af_cons | with_reducible apply of_some | with_reducible apply vf_e2 | with_reducible apply vf_e1 | with_reducible apply vf_ix | with_reducible apply vf_fld | with_reducible apply vf_call | with_reducible apply vn_call | with_reducible apply vf_sl | with_reducible apply vf_disp | with_reducible apply vn_disp | with_reducible exact add_int | with_reducible exact sub_int | with_reducible exact eq_int | with_reducible exact ne_int | with_reducible exact lt_int | with_reducible exact gt_int | ((with_reducible apply mod_ok); omega) | ((with_reducible apply fdiv_ok) <;> omega) | ((with_reducible apply mul_okl) <;> omega) | ((with_reducible apply mul_okr) <;> omega) | (refine (?_ : flats _ = true); exact rfl) | (refine (?_ : flat _ = true); exact rfl) | (refine (?_ : List.length _ ≤ 16777216); simp; done) | exact at_eq (by decide) | exact add_int | exact sub_int)
  rw [show (if (atZ ns 0 / 4 % 8 == 1) = true then D.int (12 - atZ ns 0 / 32 % 8) else D.int (1 + atZ ns 0 % 4)) = .int (pn ns : Nat) by
    rw [← p0]; unfold pnI; split <;> rfl]
  (try simp only [List.set_cons_zero, List.set_cons_succ])
  refine sr_seq (se_setN (ne_lst ne_nil (by simp)) rfl rfl) ?_
  (try simp only [List.set_cons_zero, List.set_cons_succ])
  refine sr_for (fun k ρ => ∃ s3 s4 s5, freeS s3 = true ∧ freeS s4 = true ∧ freeS s5 = true ∧ ρ = [.fz (.scr ns), .fn (.int (pn ns : Nat)), .on (.lst ((List.range k).map (plot ns))), s3, s4, s5])
    (xf_range (n := (pn ns : Nat)) (vf_fn rfl) (by omega) (by omega)) rfl ⟨_, _, _, rfl, rfl, rfl, rfl⟩ ?_ ?_
  rotate_left
  · rintro ρ' ⟨s3, s4, s5, _, _, _, rfl⟩
    rw [show (rangeL (pn ns : Nat)).length = pn ns by simp [rangeL]]
    exact sr_retOn rfl
  · rintro i d ρ hd ⟨s3, s4, s5, f3, f4, f5, rfl⟩
    obtain ⟨hi, rfl⟩ := range_get hd
    have hi : i < pn ns := by simpa using hi
    (try simp only [List.set_cons_zero, List.set_cons_succ])
    refine sg_flat rfl f3 rfl ?_
    · (try simp only [List.set_cons_zero, List.set_cons_succ])
      refine sx_seq (sf_set (d := .int ((atZ ns 1 + 7 * (i : Int)) * 48271 % 10007 % ((i : Int) + 1))) ?_ rfl f4 rfl) ?_
      · (repeat' first | ((with_reducible apply vf_fz); exact rfl) | ((with_reducible apply vf_fn); exact rfl) | ((with_reducible apply vf_on); exact rfl) | ((with_reducible apply vf_ow); exact rfl) | ((with_reducible apply vf_fa); exact rfl) | with_reducible exact vf_c | with_reducible exact af_nil | with_reducible exact oe_none | with_reducible apply tf_v | with_reducible apply nf_flat | with_reducible apply af_cons | with_reducible apply of_some | with_reducible apply vf_e2 | with_reducible apply vf_e1 | with_reducible apply vf_ix | with_reducible apply vf_fld | with_reducible apply vf_call | with_reducible apply vn_call | with_reducible apply vf_sl | with_reducible apply vf_disp | with_reducible apply vn_disp | with_reducible exact add_int | with_reducible exact sub_int | with_reducible exact eq_int | with_reducible exact ne_int | with_reducible exact lt_int | with_reducible exact gt_int | ((with_reducible apply mod_ok); omega) | ((with_reducible apply fdiv_ok) <;> omega) | ((with_reducible apply mul_okl) <;> omega) | ((with_reducible apply mul_okr) <;> omega) | (refine (?_ : flats _ = true); exact rfl) | (refine (?_ : flat _ = true); exact rfl) | (refine (?_ : List.length _ ≤ 16777216); simp; done) | exact at_eq (by decide) | exact add_int | exact sub_int)
      (try simp only [List.set_cons_zero, List.set_cons_succ])
      refine sx_seq (sf_if_set (b := pqb ns i) (d := .int ((i : Int) - 1)) (te_and (a := (atZ ns 1 % 4 == 3)) (b := decide ((i : Int) > 0)) ?_ (fun _ => ?_)) rfl (fun _ => ?_) rfl) ?_
      · (repeat' first | ((with_reducible apply vf_fz); exact rfl) | ((with_reducible apply vf_fn); exact rfl) | ((with_reducible apply vf_on); exact rfl) | ((with_reducible apply vf_ow); exact rfl) | ((with_reducible apply vf_fa); exact rfl) | with_reducible exact vf_c | with_reducible exact af_nil | with_reducible exact oe_none | with_reducible apply tf_v | with_reducible apply nf_flat | with_reducible apply af_cons | with_reducible apply of_some | with_reducible apply vf_e2 | with_reducible apply vf_e1 | with_reducible apply vf_ix | with_reducible apply vf_fld | with_reducible apply vf_call | with_reducible apply vn_call | with_reducible apply vf_sl | with_reducible apply vf_disp | with_reducible apply vn_disp | with_reducible exact add_int | with_reducible exact sub_int | with_reducible exact eq_int | with_reducible exact ne_int | with_reducible exact lt_int | with_reducible exact gt_int | ((with_reducible apply mod_ok); omega) | ((with_reducible apply fdiv_ok) <;> omega) | ((with_reducible apply mul_okl) <;> omega) | ((with_reducible apply mul_okr) <;> omega) | (refine (?_ : flats _ = true); exact rfl) | (refine (?_ : flat _ = true); exact rfl) | (refine (?_ : List.length _ ≤ 16777216); simp; done) | exact at_eq (by decide) | exact add_int | exact sub_int)
      · (repeat' first | ((with_reducible apply vf_fz); exact rfl) | ((with_reducible apply vf_fn); exact rfl) | ((with_reducible apply vf_on); exact rfl) | ((with_reducible apply vf_ow); exact rfl) | ((with_reducible apply vf_fa); exact rfl) | with_reducible exact vf_c | with_reducible exact af_nil | with_reducible exact oe_none | with_reducible apply tf_v | with_reducible apply nf_flat | with_reducible apply af_cons | with_reducible apply of_some | with_reducible apply vf_e2 | with_reducible apply vf_e1 | with_reducible apply vf_ix | with_reducible apply vf_fld | with_reducible apply vf_call | with_reducible apply vn_call | with_reducible apply vf_sl | with_reducible apply vf_disp | with_reducible apply vn_disp | with_reducible exact add_int | with_reducible exact sub_int | with_reducible exact eq_int | with_reducible exact ne_int | with_reducible exact lt_int | with_reducible exact gt_int | ((with_reducible apply mod_ok); omega) | ((with_reducible apply fdiv_ok) <;> omega) | ((with_reducible apply mul_okl) <;> omega) | ((with_reducible apply mul_okr) <;> omega) | (refine (?_ : flats _ = true); exact rfl) | (refine (?_ : flat _ = true); exact rfl) | (refine (?_ : List.length _ ≤ 16777216); simp; done) | exact add_int | exact sub_int)
      · (repeat' first | ((with_reducible apply vf_fz); exact rfl) | ((with_reducible apply vf_fn); exact rfl) | ((with_reducible apply vf_on); exact rfl) | ((with_reducible apply vf_ow); exact rfl) | ((with_reducible apply vf_fa); exact rfl) | with_reducible exact vf_c | with_reducible exact af_nil | with_reducible exact oe_none | with_reducible apply tf_v | with_reducible apply nf_flat | with_reducible apply af_cons | with_reducible apply of_some | with_reducible apply vf_e2 | with_reducible apply vf_e1 | with_reducible apply vf_ix | with_reducible apply vf_fld | with_reducible apply vf_call | with_reducible apply vn_call | with_reducible apply vf_sl | with_reducible apply vf_disp | with_reducible apply vn_disp | with_reducible exact add_int | with_reducible exact sub_int | with_reducible exact eq_int | with_reducible exact ne_int | with_reducible exact lt_int | with_reducible exact gt_int | ((with_reducible apply mod_ok); omega) | ((with_reducible apply fdiv_ok) <;> omega) | ((with_reducible apply mul_okl) <;> omega) | ((with_reducible apply mul_okr) <;> omega) | (refine (?_ : flats _ = true); exact rfl) | (refine (?_ : flat _ = true); exact rfl) | (refine (?_ : List.length _ ≤ 16777216); simp; done) | exact add_int | exact sub_int)
      rw [show (if pqb ns i = true then D.int ((i : Int) - 1) else D.int ((atZ ns 1 + 7 * (i : Int)) * 48271 % 10007 % ((i : Int) + 1))) = .int (pq ns i : Nat) by
        rw [← pq_eq]; unfold pqI; split <;> rfl]
      (try simp only [List.set_cons_zero, List.set_cons_succ])
      refine sx_seq (sf_set (d := .non) vf_c rfl f5 rfl) ?_
      (try simp only [List.set_cons_zero, List.set_cons_succ])
      refine sx_seq (sf_if_set (b := decide ((pq ns i : Int) < (i : Int))) (d := .str (tx (pnm ns (pq ns i)))) ?_ rfl (fun hb => ?_) rfl) ?_
      · (repeat' first | ((with_reducible apply vf_fz); exact rfl) | ((with_reducible apply vf_fn); exact rfl) | ((with_reducible apply vf_on); exact rfl) | ((with_reducible apply vf_ow); exact rfl) | ((with_reducible apply vf_fa); exact rfl) | with_reducible exact vf_c | with_reducible exact af_nil | with_reducible exact oe_none | with_reducible apply tf_v | with_reducible apply nf_flat | with_reducible apply af_cons | with_reducible apply of_some | with_reducible apply vf_e2 | with_reducible apply vf_e1 | with_reducible apply vf_ix | with_reducible apply vf_fld | with_reducible apply vf_call | with_reducible apply vn_call | with_reducible apply vf_sl | with_reducible apply vf_disp | with_reducible apply vn_disp | with_reducible exact add_int | with_reducible exact sub_int | with_reducible exact eq_int | with_reducible exact ne_int | with_reducible exact lt_int | with_reducible exact gt_int | ((with_reducible apply mod_ok); omega) | ((with_reducible apply fdiv_ok) <;> omega) | ((with_reducible apply mul_okl) <;> omega) | ((with_reducible apply mul_okr) <;> omega) | (refine (?_ : flats _ = true); exact rfl) | (refine (?_ : flat _ = true); exact rfl) | (refine (?_ : List.length _ ≤ 16777216); simp; done) | exact add_int | exact sub_int)
      · refine vf_ix (a := plot ns (pq ns i)) (b := .int 0) (vf_ix (a := .lst ((List.range i).map (plot ns))) (b := .int (pq ns i : Nat)) (vf_on rfl) (vf_fn rfl) ?_) vf_c rfl
        have : pq ns i < i := by simpa using hb
        refine ixl_nat (by omega) ?_
        rw [Int.toNat_natCast, List.getElem?_map, List.getElem?_range this]; rfl
      rw [show (if decide ((pq ns i : Int) < (i : Int)) = true then D.str (tx (pnm ns (pq ns i))) else D.non) = pD ns (ppar ns i) by
        unfold ppar
        by_cases q : pq ns i < i
        · rw [if_pos (by simpa using q), if_pos q]; rfl
        · rw [if_neg (by simpa using q), if_neg q]; rfl]
      (try simp only [List.set_cons_zero, List.set_cons_succ])
      refine sx_end (se_app rfl (way_on0 rfl) (nf_flat (d := plot ns i) ?_ (plot_flat ns i)) (by simp; omega) (put_on0 rfl)) ?_
      · refine vf_disp (ds := [.str (tx (pnm ns i)), pD ns (ppar ns i)]) (af_cons ?_ (af_cons (vf_fn rfl) af_nil)) ?_ (by simp)
        · refine vf_call (ds := [.int (atZ ns 1 / 3), .int (i : Nat), .str (tx [97 + i])]) ?_ (called_eq (by simp))
          refine af_cons ?_ (af_cons (vf_fn rfl) (af_cons ?_ af_nil))
          · (repeat' first | ((with_reducible apply vf_fz); exact rfl) | ((with_reducible apply vf_fn); exact rfl) | ((with_reducible apply vf_on); exact rfl) | ((with_reducible apply vf_ow); exact rfl) | ((with_reducible apply vf_fa); exact rfl) | with_reducible exact vf_c | with_reducible exact af_nil | with_reducible exact oe_none | with_reducible apply tf_v | with_reducible apply nf_flat | with_reducible apply af_cons | with_reducible apply of_some | with_reducible apply vf_e2 | with_reducible apply vf_e1 | with_reducible apply vf_ix | with_reducible apply vf_fld | with_reducible apply vf_call | with_reducible apply vn_call | with_reducible apply vf_sl | with_reducible apply vf_disp | with_reducible apply vn_disp | with_reducible exact add_int | with_reducible exact sub_int | with_reducible exact eq_int | with_reducible exact ne_int | with_reducible exact lt_int | with_reducible exact gt_int | ((with_reducible apply mod_ok); omega) | ((with_reducible apply fdiv_ok) <;> omega) | ((with_reducible apply mul_okl) <;> omega) | ((with_reducible apply mul_okr) <;> omega) | (refine (?_ : flats _ = true); exact rfl) | (refine (?_ : flat _ = true); exact rfl) | (refine (?_ : List.length _ ≤ 16777216); simp; done) | exact at_eq (by decide) | exact add_int | exact sub_int)
          · rw [al_eq]
            refine vf_ix vf_c (vf_fn rfl) (ix_tx (by simp) (by omega) ?_)
            rw [Int.toNat_natCast, List.getElem?_map, List.getElem?_range (by omega)]; rfl
        · exact plot_flat ns i
      · exact ⟨_, _, _, rfl, rfl, rfl, by rw [List.range_succ, List.map_append]; rfl⟩

/-! ### the names -/
theorem abc_eq : ("abc" : Str) = tx ((List.range 3).map (97 + ·)) := by decide +kernel
theorem zyx_eq : ("zyxwvutsrqponmlkjihgfedcba" : Str) = tx ((List.range 26).map (122 - ·)) := by decide +kernel
def nmL (l : List (List Nat)) : List D := l.map fun c => .str (tx c)
theorem nmL_flat (l : List (List Nat)) : flats (nmL l) = true := flats_map (fun _ => rfl) _
structure NmOk (l : List (List Nat)) : Prop where
  ne : 1 ≤ l.length
  le : l.length ≤ 60
  ok : ∀ c ∈ l, okC c = true
  nd : l.Nodup
theorem nodup_map {α β : Type} {f : α → β} : ∀ {l : List α}, l.Nodup → (∀ a ∈ l, ∀ b ∈ l, f a = f b → a = b) → (l.map f).Nodup
  | [], _, _ => List.nodup_nil
  | a :: r, h, hi => by
    rw [List.nodup_cons] at h
    rw [List.map_cons, List.nodup_cons]
    refine ⟨fun hm => ?_, nodup_map h.2 fun x hx y hy e => hi x (by simp [hx]) y (by simp [hy]) e⟩
    simp only [List.mem_map] at hm
    obtain ⟨b, hb, e⟩ := hm
    exact h.1 (hi b (by simp [hb]) a (by simp) e ▸ hb)
end K04

namespace K04
open PySem L2 DL
/-! ### the rows, by kind -/
def nmD (ns : List Int) (i : Nat) : D := .str (tx (pnm ns i))
inductive Rw
  | opn (p : Nat) | lay (a : List Nat) (p : Nat) (z : Int) | copy (a b : List Nat) (p : Nat) | same (a b : List Nat) | add (a b : List Nat) | tell (a : List Nat)
  | give (p : Nat) | fork (k : Int) | go (k : Int) | fin
def Rw.tag : Rw → Str
  | .opn _ => "open" | .lay _ _ _ => "lay" | .copy _ _ _ => "copy" | .same _ _ => "same" | .add _ _ => "add" | .tell _ => "tell" | .give _ => "give" | .fork _ => "fork" | .go _ => "go" | .fin => "end"
def Rw.rest (ns : List Int) : Rw → List D
  | .opn p => [nmD ns p]
  | .lay a p z => [.str (tx a), nmD ns p, .int z]
  | .copy a b p => [.str (tx a), .str (tx b), nmD ns p]
  | .same a b => [.str (tx a), .str (tx b)]
  | .add a b => [.str (tx a), .str (tx b)]
  | .tell a => [.str (tx a)]
  | .give p => [nmD ns p]
  | .fork k => [.int k]
  | .go k => [.int k]
  | .fin => []
def rwD (ns : List Int) (w : Rw) : D := .tup (.str w.tag :: w.rest ns)
def RwOk (ns : List Int) (l : List (List Nat)) : Rw → Prop
  | .opn p => p < pn ns
  | .lay a p _ => a ∈ l ∧ p < pn ns
  | .copy a b p => a ∈ l ∧ b ∈ l ∧ p < pn ns
  | .same a b => a ∈ l ∧ b ∈ l
  | .add a b => a ∈ l ∧ b ∈ l
  | .tell a => a ∈ l
  | .give p => p < pn ns
  | _ => True
theorem rwD_flat (ns : List Int) (w : Rw) : flat (rwD ns w) = true := by cases w <;> rfl
theorem rwD_tag (ns : List Int) (w : Rw) : ixD (rwD ns w) (.int 0) = some (.str w.tag) := by cases w <;> rfl
theorem tag_ok (w : Rw) : PyData.strOk w.tag = true := by cases w <;> kernel_rfl
theorem ix_mod {ds : List D} {y : Int} (h : 1 ≤ ds.length) : ∃ d, d ∈ ds ∧ ixD (.lst ds) (.int (y % (ds.length : Nat))) = some d := by
  have a0 := Int.emod_nonneg y (show (ds.length : Int) ≠ 0 by omega)
  have a1 := Int.emod_lt_of_pos y (show (0 : Int) < ds.length by omega)
  exact ix_mem a0 a1
theorem mem_nmL {l : List (List Nat)} {d : D} (h : d ∈ nmL l) : ∃ c, c ∈ l ∧ d = .str (tx c) := by
  simp only [nmL, List.mem_map] at h
  obtain ⟨c, h1, rfl⟩ := h
  exact ⟨c, h1, rfl⟩
theorem mem_plots {ns : List Int} {d : D} (h : d ∈ plots ns) : ∃ i, i < pn ns ∧ d = plot ns i := by
  simp only [plots, List.mem_map, List.mem_range] at h
  obtain ⟨i, h1, rfl⟩ := h
  exact ⟨i, h1, rfl⟩
theorem plots_len (ns : List Int) : (plots ns).length = pn ns := by simp [plots]
theorem dk_str {k : Nat} {x : Str} (h : PyData.strOk x = true) : dk k (.str x) = true := by cases k <;> simpa [dk] using h
theorem dk_int {k : Nat} {i : Int} : dk k (.int i) = true := by cases k <;> simp [dk]
end K04

namespace K04
open PySem L2 DL
/-! ### the way out -/
section
variable (ns : List Int)
def chn : Nat → Nat → List Nat
  | 0, _ => []
  | f + 1, i => i :: (match ppar ns i with
    | none => []
    | some j => chn f j)
def la : Nat → Nat → Nat
  | 0, r => r
  | k + 1, r => match ppar ns r with
    | none => r
    | some j => la k j
theorem chn_none {f i : Nat} (h : ppar ns i = none) : chn ns (f + 1) i = [i] := by rw [chn, h]
theorem chn_some {f i j : Nat} (h : ppar ns i = some j) : chn ns (f + 1) i = i :: chn ns f j := by rw [chn, h]
theorem chn_stable : ∀ (f i : Nat), i < f → chn ns f i = chn ns (i + 1) i := by
  intro f
  induction f using Nat.strongRecOn with
  | ind f ih =>
    intro i hi
    obtain ⟨g, rfl⟩ : ∃ g, f = g + 1 := ⟨f - 1, by omega⟩
    cases q : ppar ns i with
    | none => rw [chn_none ns q, chn_none ns q]
    | some j =>
      have hj := ppar_lt ns q
      rw [chn_some ns q, chn_some ns q, ih g (by omega) j (by omega)]
      by_cases e : i = g + 1
      · omega
      · rw [ih i hi j hj]
theorem chn_last : ∀ (k r : Nat), (chn ns (k + 1) r).getLast? = some (la ns k r)
  | 0, r => by
    cases q : ppar ns r with
    | none => rw [chn_none ns q]; rfl
    | some j => rw [chn_some ns q]; rfl
  | k + 1, r => by
    cases q : ppar ns r with
    | none => rw [chn_none ns q, la, q]; rfl
    | some j =>
      have ih := chn_last k j
      rw [chn_some ns q, la, q, List.getLast?_cons, ih]; rfl
theorem chn_snoc : ∀ (k r : Nat), chn ns (k + 2) r = chn ns (k + 1) r ++ (ppar ns (la ns k r)).toList
  | 0, r => by
    cases q : ppar ns r with
    | none => rw [chn_none ns q, chn_none ns q, la, q]; rfl
    | some j =>
      rw [chn_some ns q, chn_some ns q, la, q]
      cases q2 : ppar ns j with
      | none => rw [chn_none ns q2]; rfl
      | some l => rw [chn_some ns q2]; rfl
  | k + 1, r => by
    cases q : ppar ns r with
    | none => rw [chn_none ns q, chn_none ns q, la, q]; simp only; rw [q]; rfl
    | some j =>
      have ih := chn_snoc k j
      rw [chn_some ns q, ih, chn_some ns q, la, q]; rfl
theorem chn_len : ∀ (f i : Nat), (chn ns f i).length ≤ f
  | 0, _ => by simp [chn]
  | f + 1, i => by
    cases q : ppar ns i with
    | none => rw [chn_none ns q]; simp
    | some j => rw [chn_some ns q]; have := chn_len f j; simp; omega
def chO (o : Option Nat) : List D := match o with
  | none => []
  | some i => (chn ns (i + 1) i).map (nmD ns)
theorem chO_some (i : Nat) : chO ns (some i) = nmD ns i :: chO ns (ppar ns i) := by
  show (chn ns (i + 1) i).map _ = _
  cases q : ppar ns i with
  | none => rw [chn_none ns q]; rfl
  | some j => rw [chn_some ns q, chn_stable ns i j (ppar_lt ns q)]; rfl
def dkv (k : Nat) : List (Key × D) := (List.range k).map fun i => ((.inr (tx (pnm ns i)) : Key), pD ns (ppar ns i))
theorem key_inj (i j : Nat) (h : (Sum.inr (tx (pnm ns i)) : Key) = .inr (tx (pnm ns j))) : i = j := pnm_inj ns (tx_inj (Sum.inr.inj h))
theorem dkv_get {i k : Nat} (h : i < k) : getK (dkv ns k) (.inr (tx (pnm ns i))) = some (pD ns (ppar ns i)) :=
  getK_map (f := fun i => (.inr (tx (pnm ns i)) : Key)) (g := fun i => pD ns (ppar ns i)) (key_inj ns) (by simpa using h)
theorem dkv_put (k : Nat) : putG (dkv ns k) (.inr (tx (pnm ns k))) (pD ns (ppar ns k)) = dkv ns (k + 1) := by
  rw [putG_new]
  · unfold dkv; rw [List.range_succ, List.map_append]; rfl
  · rw [List.any_eq_false]
    intro kv hkv
    simp only [dkv, List.mem_map, List.mem_range] at hkv
    obtain ⟨i, hi, rfl⟩ := hkv
    simp only [decide_eq_true_eq]
    intro e
    have := key_inj ns _ _ e
    omega
end
theorem out_loop (ns : List Int) (P : D) : ∀ (m : Nat) (o : Option Nat) (acc : List D) (s1 s3 s4 : Sl), (∀ i, o = some i → i < m) → m ≤ pn ns → acc.length + m ≤ 100 → (s1 = .fz (pD ns o) ∨ s1 = .fn (pD ns o)) →
    ∃ s1', Wh (tE (e1 notND (eV 1))) (bSeq (sApp 5 wN (nFlat (eV 1))) (sSet 1 (eIx ixD (eV 2) (eV 1)))) [.fz P, s1, .on (.dic (dkv ns (pn ns))), s3, s4, .on (.lst acc)] [.fz P, s1', .on (.dic (dkv ns (pn ns))), s3, s4, .on (.lst (acc ++ chO ns o))] := by
  intro m
  induction m with
  | zero =>
    intro o acc s1 s3 s4 ho _ _ hs
    have : o = none := by
      cases o with
      | none => rfl
      | some i => exact absurd (ho i rfl) (by omega)
    subst this
    refine ⟨s1, ?_⟩
    rw [show chO ns none = [] from rfl, List.append_nil]
    refine wh_stop (tf_v (vf_e1 (a := .non) ?_ rfl))
    rcases hs with rfl | rfl
    · exact vf_fz rfl
    · exact vf_fn rfl
  | succ m ih =>
    intro o acc s1 s3 s4 ho hm hl hs
    cases o with
    | none =>
      refine ⟨s1, ?_⟩
      rw [show chO ns none = [] from rfl, List.append_nil]
      refine wh_stop (tf_v (vf_e1 (a := .non) ?_ rfl))
      rcases hs with rfl | rfl
      · exact vf_fz rfl
      · exact vf_fn rfl
    | some i =>
      have hi := ho i rfl
      have hv : ∀ ρ : Ev, ρ[1]? = some s1 → Vf (eV 1) ρ (nmD ns i) := by
        intro ρ e
        rcases hs with rfl | rfl
        · exact vf_fz e
        · exact vf_fn e
      obtain ⟨s1', h⟩ := ih (ppar ns i) (acc ++ [nmD ns i]) (.fn (pD ns (ppar ns i))) s3 s4 (fun j hj => by have := ppar_lt ns hj; omega) (by omega) (by simp; omega) (.inr rfl)
      refine ⟨s1', wh_step (tf_v (vf_e1 (hv _ rfl) rfl)) (se_seq (se_app rfl (way_on0 rfl) (nf_flat (hv _ rfl) rfl) (by omega) (put_on0 rfl)) (sf_set (d := pD ns (ppar ns i)) (vf_ix (vf_on rfl) (hv _ rfl) ?_) rfl ?_ (pD_flat ns _))) ?_⟩
      · exact dkv_get ns (show i < pn ns by omega)
      · rcases hs with rfl | rfl <;> rfl
      · rw [chO_some, show acc ++ nmD ns i :: chO ns (ppar ns i) = (acc ++ [nmD ns i]) ++ chO ns (ppar ns i) by simp]
        exact h
theorem outward_eq (ns : List Int) (r : Nat) (hr : r < pn ns) : f_outward [.lst (plots ns), nmD ns r] = some (.lst (chO ns (some r))) := by
  obtain ⟨p0, p1, p2⟩ := pn_eq ns
  refine fn_sr rfl ?_
  unfold b_outward
  show Sr _ [.fz (.lst (plots ns)), .fz (nmD ns r), .emp, .emp, .emp, .emp] _
  (try simp only [List.set_cons_zero, List.set_cons_succ])
  refine sr_seq (se_setN ne_dic0 rfl rfl) ?_
  (try simp only [List.set_cons_zero, List.set_cons_succ])
  refine sr_for (fun k ρ => ∃ s3 s4, freeS s3 = true ∧ freeS s4 = true ∧ ρ = [.fz (.lst (plots ns)), .fz (nmD ns r), .on (.dic (dkv ns k)), s3, s4, .emp]) (xe_seq (ve_fz rfl) rfl) rfl ⟨_, _, rfl, rfl, rfl⟩ ?_ ?_
  · rintro k d ρ hd ⟨s3, s4, f3, f4, rfl⟩
    have hk : k < pn ns := by
      have := (List.getElem?_eq_some_iff.mp hd).1
      rwa [plots_len] at this
    have ed : d = plot ns k := by
      unfold plots at hd
      rw [List.getElem?_map, List.getElem?_range hk] at hd
      exact (Option.some.inj hd).symm
    subst ed
    (try simp only [List.set_cons_zero, List.set_cons_succ])
    refine sg_two rfl f3 rfl rfl f4 (pD_flat ns _) ?_
    (try simp only [List.set_cons_zero, List.set_cons_succ])
    refine sx_end (se_sub (y := pD ns (ppar ns k)) (k := nmD ns k) (z := .dic (dkv ns (k + 1))) (nf_flat (vf_fn rfl) (pD_flat ns _)) rfl (way_on0 rfl) (m := .new) (ve_fn rfl) ?_ (put_on0 rfl)) ⟨_, _, rfl, rfl, rfl⟩
    show (if (dkv ns k).length < 16777216 ∧ (flat (pD ns (ppar ns k)) = true ∨ cntK (dkv ns k) (.inr (tx (pnm ns k))) ≤ 1) then some (D.dic (putG (dkv ns k) (.inr (tx (pnm ns k))) (pD ns (ppar ns k)))) else none) = _
    rw [if_pos ⟨by simp [dkv]; omega, .inl (pD_flat ns _)⟩, dkv_put]
  · rintro ρ' ⟨s3, s4, f3, f4, rfl⟩
    rw [plots_len]
    (try simp only [List.set_cons_zero, List.set_cons_succ])
    refine sr_seq (se_setN (ne_lst ne_nil (by simp)) rfl rfl) ?_
    obtain ⟨s1', h⟩ := out_loop ns (.lst (plots ns)) (pn ns) (some r) [] (.fz (nmD ns r)) s3 s4 (fun i e => by cases e; exact hr) (Nat.le_refl _) (by simp; omega) (.inl rfl)
    (try simp only [List.set_cons_zero, List.set_cons_succ])
    refine sr_seq (se_wh h) ?_
    exact sr_retOn rfl
theorem flt_range (l : Nat) (q : Nat → Bool) : ∀ n : Nat, (List.range n).filter (fun i => i == l && q i) = if l < n ∧ q l = true then [l] else []
  | 0 => by simp
  | n + 1 => by
    rw [List.range_succ, List.filter_append, flt_range l q n]
    by_cases h : n = l
    · subst h
      by_cases hq : q n = true
      · simp [hq, List.filter_cons]
      · simp [hq, List.filter_cons]
    · have h1 : (n == l) = false := by simpa using h
      have h2 : (List.filter (fun i => i == l && q i) [n]) = [] := by simp [List.filter_cons, h1]
      rw [h2, List.append_nil]
      by_cases h3 : l < n ∧ q l = true
      · rw [if_pos h3, if_pos ⟨by omega, h3.2⟩]
      · rw [if_neg h3, if_neg (fun h4 => h3 ⟨by omega, h4.2⟩)]
theorem tx_beq (ns : List Int) (i l : Nat) : (tx (pnm ns i) == tx (pnm ns l)) = (i == l) := by
  by_cases h : i = l
  · subst h; simp
  · have : tx (pnm ns i) ≠ tx (pnm ns l) := fun e => h (pnm_inj ns (tx_inj e))
    rw [beq_eq_false_iff_ne.mpr this, beq_eq_false_iff_ne.mpr h]
theorem dk_plot (ns : List Int) (i k : Nat) (h : i < 12) : dk (k + 1) (plot ns i) = true := by
  have o := tx_ok (pnm_ok ns h)
  have q : dk k (pD ns (ppar ns i)) = true := by
    cases e : ppar ns i with
    | none => cases k <;> simp [pD, dk]
    | some j => exact dk_str (tx_ok (pnm_ok ns (by have := ppar_lt ns e; omega)))
  show [D.str (tx (pnm ns i)), pD ns (ppar ns i)].all (dk k) = true
  simp [dk_str o, q]
theorem dk_plots (ns : List Int) (k : Nat) : dk (k + 2) (.lst (plots ns)) = true := by
  obtain ⟨p0, p1, p2⟩ := pn_eq ns
  show (plots ns).all (dk (k + 1)) = true
  rw [List.all_eq_true]
  intro d hd
  obtain ⟨i, hi, rfl⟩ := mem_plots hd
  exact dk_plot ns i k (by omega)
end K04

namespace K04
open PySem L2 DL
def Rw.isFin : Rw → Bool | .fin => true | _ => false
def Rw.isOpn : Rw → Bool | .opn _ => true | _ => false
def Rw.isSame : Rw → Bool | .same _ _ => true | _ => false
theorem tag_end (w : Rw) : (w.tag == ("end" : Str)) = w.isFin := by cases w <;> kernel_rfl
theorem tag_open (w : Rw) : (w.tag == ("open" : Str)) = w.isOpn := by cases w <;> kernel_rfl
theorem tag_same (w : Rw) : (w.tag == ("same" : Str)) = w.isSame := by cases w <;> kernel_rfl
theorem eq_end (w : Rw) : eqDD (.str w.tag) (.str "end") = some (.bl w.isFin) := by rw [eq_str (tag_ok w) (by decide +kernel), tag_end]
theorem eq_open (w : Rw) : eqDD (.str w.tag) (.str "open") = some (.bl w.isOpn) := by rw [eq_str (tag_ok w) (by decide +kernel), tag_open]
theorem ne_same (w : Rw) : neDD (.str w.tag) (.str "same") = some (.bl (!w.isSame)) := by rw [ne_str (tag_ok w) (by decide +kernel), tag_same]
def homeOf : Rw → Option Nat
  | .lay _ p _ => some p
  | .copy _ _ p => some p
  | .give p => some p
  | _ => none
def homeIx : Rw → Int
  | .lay _ _ _ => 2
  | .copy _ _ _ => 3
  | _ => 1
abbrev homeK : List (Key × D) := [(.inr "lay", .int 2), (.inr "copy", .int 3), (.inr "give", .int 1)]
theorem home_in (w : Rw) : inB (.str w.tag) (.dic homeK) = some (homeOf w).isSome := in_dic (by cases w <;> kernel_rfl)
theorem home_get (ns : List Int) {w : Rw} (h : (homeOf w).isSome = true) : getK homeK (.inr w.tag) = some (.int (homeIx w)) ∧ ixD (rwD ns w) (.int (homeIx w)) = some (nmD ns ((homeOf w).getD 0)) := by
  cases w with
  | lay a p z => exact ⟨by kernel_rfl, rfl⟩
  | copy a b p => exact ⟨by kernel_rfl, rfl⟩
  | give p => exact ⟨by kernel_rfl, rfl⟩
  | _ => exact absurd h Bool.false_ne_true
def atHome (w : Rw) (p : Nat) : Bool := (homeOf w).isSome && ((homeOf w).getD 0 == p)
theorem eq_nm (ns : List Int) {i j : Nat} (hi : i < pn ns) (hj : j < pn ns) : eqDD (nmD ns i) (nmD ns j) = some (.bl (i == j)) := by
  obtain ⟨_, _, p2⟩ := pn_eq ns
  show eqDD (.str (tx (pnm ns i))) (.str (tx (pnm ns j))) = _
  rw [eq_str (tx_ok (pnm_ok ns (by omega))) (tx_ok (pnm_ok ns (by omega))), tx_beq]
theorem pnm_beq (ns : List Int) (i j : Nat) : (pnm ns i == pnm ns j) = (i == j) := by rw [← tx_eq, tx_beq]
theorem chO_flat (ns : List Int) (o : Option Nat) : flats (chO ns o) = true := by
  cases o with
  | none => rfl
  | some i => exact flats_map (fun _ => rfl) _
def arg1 : Rw → Option Nat
  | .opn q => some q
  | _ => none
theorem row1 (ns : List Int) {w : Rw} (h : w.isOpn = true) : ∃ q, arg1 w = some q ∧ ixD (rwD ns w) (.int 1) = some (nmD ns q) ∧ w = .opn q := by
  cases w with
  | opn q => exact ⟨q, rfl, rfl, rfl⟩
  | _ => exact absurd h Bool.false_ne_true
def Rw.isGive : Rw → Bool | .give _ => true | _ => false
def Rw.isLay : Rw → Bool | .lay _ _ _ => true | _ => false
def Rw.isCopy : Rw → Bool | .copy _ _ _ => true | _ => false
theorem tag_give (w : Rw) : (w.tag == ("give" : Str)) = w.isGive := by cases w <;> kernel_rfl
theorem tag_lay (w : Rw) : (w.tag == ("lay" : Str)) = w.isLay := by cases w <;> kernel_rfl
theorem tag_copy (w : Rw) : (w.tag == ("copy" : Str)) = w.isCopy := by cases w <;> kernel_rfl
theorem eq_give (w : Rw) : eqDD (.str w.tag) (.str "give") = some (.bl w.isGive) := by rw [eq_str (tag_ok w) (by decide +kernel), tag_give]
theorem ne_give (w : Rw) : neDD (.str w.tag) (.str "give") = some (.bl (!w.isGive)) := by rw [ne_str (tag_ok w) (by decide +kernel), tag_give]
theorem eq_lay (w : Rw) : eqDD (.str w.tag) (.str "lay") = some (.bl w.isLay) := by rw [eq_str (tag_ok w) (by decide +kernel), tag_lay]
theorem eq_copy (w : Rw) : eqDD (.str w.tag) (.str "copy") = some (.bl w.isCopy) := by rw [eq_str (tag_ok w) (by decide +kernel), tag_copy]
theorem eq_same (w : Rw) : eqDD (.str w.tag) (.str "same") = some (.bl w.isSame) := by rw [eq_str (tag_ok w) (by decide +kernel), tag_same]
theorem isGive_of {w : Rw} (h : w.isGive = true) : ∃ q, w = .give q := by cases w <;> first | exact ⟨_, rfl⟩ | exact absurd h Bool.false_ne_true
theorem isLay_of {w : Rw} (h : w.isLay = true) : ∃ a q z, w = .lay a q z := by cases w <;> first | exact ⟨_, _, _, rfl⟩ | exact absurd h Bool.false_ne_true
theorem isCopy_of {w : Rw} (h : w.isCopy = true) : ∃ a b q, w = .copy a b q := by cases w <;> first | exact ⟨_, _, _, rfl⟩ | exact absurd h Bool.false_ne_true
theorem isSame_of {w : Rw} (h : w.isSame = true) : ∃ a b, w = .same a b := by cases w <;> first | exact ⟨_, _, rfl⟩ | exact absurd h Bool.false_ne_true
theorem inOut_ex (ns : List Int) (q p : Nat) : ∃ b : Bool, b = (((chn ns (p + 1) p).map (fun i => some (pnm ns i))).any (· == some (pnm ns q))) := ⟨_, rfl⟩
noncomputable def inOut (ns : List Int) (q p : Nat) : Bool := (inOut_ex ns q p).choose
theorem inOut_def (ns : List Int) (q p : Nat) : inOut ns q p = (((chn ns (p + 1) p).map (fun i => some (pnm ns i))).any (· == some (pnm ns q))) := (inOut_ex ns q p).choose_spec
theorem chO_oD (ns : List Int) (p : Nat) : chO ns (some p) = (((chn ns (p + 1) p).map (fun i => some (pnm ns i)))).map oD := by
  show (chn ns (p + 1) p).map (nmD ns) = _
  rw [List.map_map]; rfl
theorem chn_lt (ns : List Int) : ∀ f i, i < pn ns → ∀ j ∈ chn ns f i, j < pn ns
  | 0, _, _, _, h => by cases h
  | f + 1, i, hi, j, h => by
    cases q : ppar ns i with
    | none => rw [chn_none ns q] at h; simp at h; omega
    | some a =>
      rw [chn_some ns q] at h
      rcases List.mem_cons.mp h with rfl | h
      · exact hi
      · exact chn_lt ns f a (by have := ppar_lt ns q; omega) j h
theorem in_chO (ns : List Int) {q p : Nat} (hq : q < pn ns) (hp : p < pn ns) : inB (nmD ns q) (.lst (chO ns (some p))) = some (inOut ns q p) := by
  obtain ⟨_, _, p2⟩ := pn_eq ns
  rw [chO_oD, inOut_def]
  refine in_lst (pnm_ok ns (by omega)) (fun o ho => ?_)
  simp only [List.mem_map] at ho
  obtain ⟨j, hj, rfl⟩ := ho
  exact pnm_ok ns (by have := chn_lt ns _ _ hp j hj; omega)
theorem eq_pD (ns : List Int) {i : Nat} {o : Option Nat} (hi : i < pn ns) (ho : ∀ j, o = some j → j < pn ns) : eqDD (nmD ns i) (pD ns o) = some (.bl (o == some i)) := by
  obtain ⟨_, _, p2⟩ := pn_eq ns
  cases o with
  | none =>
    show eqDD (.str (tx (pnm ns i))) .non = _
    unfold eqDD
    rw [eqD_at (p := .str (tx (pnm ns i))) (q := .none) (by simp [toPy]) (by simp [toPy]) (dk_str (tx_ok (pnm_ok ns (by omega)))) rfl]
    simp [PyData.eqv]
  | some j =>
    rw [show pD ns (some j) = nmD ns j from rfl, eq_nm ns hi (ho j rfl)]
    show some (D.bl (i == j)) = some (D.bl (j == i))
    by_cases h : i = j
    · subst h; rfl
    · rw [beq_eq_false_iff_ne.mpr h, beq_eq_false_iff_ne.mpr (Ne.symm h)]
theorem lout_eq (ns : List Int) (p : Nat) (hp : p < pn ns) : f__law_outward [.lst (plots ns), nmD ns p] = some (.lst (chO ns (some p))) := by
  obtain ⟨p0, p1, p2⟩ := pn_eq ns
  refine fn_sr rfl ?_
  unfold b__law_outward
  show Sr _ [.fz (.lst (plots ns)), .fz (nmD ns p), .emp, .emp, .emp] _
  (try simp only [List.set_cons_zero, List.set_cons_succ])
  refine sr_seq (se_setN (ne_lst ne_nil (by simp)) rfl rfl) ?_
  (try simp only [List.set_cons_zero, List.set_cons_succ])
  have hrev : revD (.lst (plots ns)) = some (.lst (plots ns).reverse) := if_pos (plots_flat ns)
  (try simp only [List.set_cons_zero, List.set_cons_succ])
  refine sr_for (fun k ρ => ∃ o acc s1 s3 s4, (s1 = .fz (pD ns o) ∨ s1 = .fn (pD ns o)) ∧ acc ++ chO ns o = chO ns (some p) ∧ (∀ j, o = some j → j < pn ns - k) ∧ freeS s3 = true ∧ freeS s4 = true ∧ acc.length ≤ k ∧ ρ = [.fz (.lst (plots ns)), s1, .on (.lst acc), s3, s4])
    (xe_seq (ve_e1 (ve_fz rfl) hrev) rfl) rfl ⟨some p, [], _, _, _, .inl rfl, rfl, fun j e => by cases e; omega, rfl, rfl, by simp, rfl⟩ ?_ ?_
  · rintro k d ρ hd ⟨o, acc, s1, s3, s4, hs, ha, ho, f3, f4, hl, rfl⟩
    have hk : k < pn ns := by
      have := (List.getElem?_eq_some_iff.mp hd).1
      rwa [List.length_reverse, plots_len] at this
    have ed : d = plot ns (pn ns - 1 - k) := by
      rw [List.getElem?_reverse (by rw [plots_len]; exact hk), plots_len] at hd
      unfold plots at hd
      rw [List.getElem?_map, List.getElem?_range (by omega)] at hd
      exact (Option.some.inj hd).symm
    subst ed
    generalize hi : pn ns - 1 - k = i
    have hin : i < pn ns := by omega
    have hv : ∀ ρ : Ev, ρ[1]? = some s1 → Vf (eV 1) ρ (pD ns o) := by
      intro ρ e
      rcases hs with rfl | rfl
      · exact vf_fz e
      · exact vf_fn e
    (try simp only [List.set_cons_zero, List.set_cons_succ])
    refine sg_two rfl f3 rfl rfl f4 (pD_flat ns _) ?_
    (try simp only [List.set_cons_zero, List.set_cons_succ])
    refine sx_if (b := (o == some i)) (tf_v (vf_e2 (vf_fn (d := nmD ns i) rfl) (hv _ rfl) (eq_pD ns hin (fun j e => by have := ho j e; omega)))) (fun h => ?_) (fun h => ?_)
    · have e : o = some i := by simpa using h
      subst e
      (try simp only [List.set_cons_zero, List.set_cons_succ])
      refine sx_seq (se_app rfl (way_on0 rfl) (nf_flat (vf_fn (d := nmD ns i) rfl) rfl) (by omega) (put_on0 rfl)) ?_
      (try simp only [List.set_cons_zero, List.set_cons_succ])
      refine sx_end (sf_set (d := pD ns (ppar ns i)) (vf_fn rfl) rfl (by rcases hs with rfl | rfl <;> rfl) (pD_flat ns _)) ⟨ppar ns i, acc ++ [nmD ns i], _, _, _, .inr rfl, ?_, fun j e => ?_, rfl, rfl, by simp; omega, rfl⟩
      · rw [← ha, chO_some]; simp
      · have := ppar_lt ns e; omega
    · have e : o ≠ some i := by simpa using h
      refine sx_nil ⟨o, acc, s1, _, _, hs, ha, fun j e2 => ?_, rfl, rfl, by omega, rfl⟩
      have := ho j e2
      have : j ≠ i := fun q => e (by rw [e2, q])
      omega
  · rintro ρ' ⟨o, acc, s1, s3, s4, hs, ha, ho, f3, f4, hl, rfl⟩
    rw [List.length_reverse, plots_len] at ho
    have e : o = none := by
      cases o with
      | none => rfl
      | some j => have := ho j rfl; omega
    subst e
    rw [← ha, show chO ns none = [] from rfl, List.append_nil]
    exact sr_retOn rfl
theorem eq_tx {a c : List Nat} (h1 : okC a = true) (h2 : okC c = true) : eqDD (.str (tx a)) (.str (tx c)) = some (.bl (a == c)) := by rw [eq_str (tx_ok h1) (tx_ok h2), tx_eq]
theorem ne_tx {a c : List Nat} (h1 : okC a = true) (h2 : okC c = true) : neDD (.str (tx a)) (.str (tx c)) = some (.bl (!(a == c))) := by rw [ne_str (tx_ok h1) (tx_ok h2), tx_eq]
theorem beq_flip (a c : List Nat) : (a == c) = (c == a) := by
  by_cases h : a = c
  · subst h; rfl
  · rw [beq_eq_false_iff_ne.mpr h, beq_eq_false_iff_ne.mpr (Ne.symm h)]
end K04

namespace K04
open PySem L2 DL
/-! ### the law's own state -/
structure Stt where
  op : List (Nat × Nat)
  held : List (List Nat × Nat)
  worth : List (Int × Nat)
  told : List Int
  given : List Nat
  many : Nat
def upD (ns : List Int) (q : Nat × Nat) : D := .tup [nmD ns q.1, .int (q.2 : Nat)]
def wtD (z : Int × Nat) : D := .lst [.int z.1, .int (z.2 : Nat)]
def hdK (h : List Nat × Nat) : Key × D := (.inr (tx h.1), .int (h.2 : Nat))
def intD' (k : Nat) : D := .int (k : Nat)
def opL (ns : List Int) (s : Stt) : List D := s.op.map (upD ns)
def hdL (s : Stt) : List (Key × D) := s.held.map hdK
def wtL (s : Stt) : List D := s.worth.map wtD
def tdL (s : Stt) : List D := s.told.map D.int
def gvL (s : Stt) : List D := s.given.map fun k : Nat => D.int k
def stK (ns : List Int) (s : Stt) : List (Key × D) := [(.inr "open", .lst (opL ns s)), (.inr "held", .dic (hdL s)), (.inr "worth", .lst (wtL s)), (.inr "told", .lst (tdL s)), (.inr "given", .lst (gvL s)), (.inr "many", .int (s.many : Nat))]
def stD (ns : List Int) (s : Stt) : D := .dic (stK ns s)
theorem st_open (ns : List Int) (s : Stt) : ixD (stD ns s) (.str "open") = some (.lst (opL ns s)) := by kernel_rfl
theorem st_held (ns : List Int) (s : Stt) : ixD (stD ns s) (.str "held") = some (.dic (hdL s)) := by kernel_rfl
theorem st_worth (ns : List Int) (s : Stt) : ixD (stD ns s) (.str "worth") = some (.lst (wtL s)) := by kernel_rfl
theorem st_told (ns : List Int) (s : Stt) : ixD (stD ns s) (.str "told") = some (.lst (tdL s)) := by kernel_rfl
theorem st_given (ns : List Int) (s : Stt) : ixD (stD ns s) (.str "given") = some (.lst (gvL s)) := by kernel_rfl
theorem st_many (ns : List Int) (s : Stt) : ixD (stD ns s) (.str "many") = some (.int (s.many : Nat)) := by kernel_rfl
theorem hd_get (s : Stt) (a : List Nat) : getK (hdL s) (.inr (tx a)) = (s.held.lookup a).map fun i : Nat => D.int i := by
  unfold hdL
  induction s.held with
  | nil => rfl
  | cons h r ih =>
    obtain ⟨b, i⟩ := h
    rw [List.map_cons, List.lookup_cons]
    show (if (Sum.inr (tx b) : Key) = .inr (tx a) then some (D.int (i : Nat)) else getK (r.map hdK) (.inr (tx a))) = _
    by_cases q : a = b
    · subst q; simp
    · have q1 : ¬ (Sum.inr (tx b) : Key) = .inr (tx a) := fun e => q (tx_inj (Sum.inr.inj e)).symm
      have q2 : (a == b) = false := by simpa using q
      rw [if_neg q1, ih, q2]
theorem hd_in (s : Stt) (a : List Nat) : inB (.str (tx a)) (.dic (hdL s)) = some (s.held.lookup a).isSome := in_dic (by rw [hd_get]; cases s.held.lookup a <;> rfl)
/-- the number of the plot on which a value lies -/
def homeM (s : Stt) (i : Nat) : Nat := (s.worth.getD i (0, 0)).2
def valM (s : Stt) (i : Nat) : Int := (s.worth.getD i (0, 0)).1
def ups (s : Stt) : List Nat := s.op.map (·.1)
def nums (s : Stt) : List Nat := s.op.map (·.2)
def lackM (s : Stt) (a : List Nat) : Str := match s.held.lookup a with
  | none => "nothing"
  | some i => if (nums s).contains (homeM s i) = true then "" else "gone"
theorem sub_len {α : Type} [DecidableEq α] : ∀ {l m : List α}, l.Nodup → (∀ a ∈ l, a ∈ m) → l.length ≤ m.length
  | [], _, _, _ => by simp
  | a :: r, m, hn, hs => by
    rw [List.nodup_cons] at hn
    have hm : a ∈ m := hs a (by simp)
    have := sub_len (l := r) (m := m.erase a) hn.2 fun b hb => (List.mem_erase_of_ne (fun e => hn.1 (by rw [← e]; exact hb))).mpr (hs b (by simp [hb]))
    rw [List.length_erase_of_mem hm] at this
    have := List.length_pos_of_mem hm
    simp only [List.length_cons]
    omega
structure SOk (ns : List Int) (s : Stt) (n : Nat) : Prop where
  lt : ∀ q ∈ s.op, q.1 < pn ns
  nd : (ups s).Nodup
  perm : (s.given ++ nums s).Perm (List.range s.many)
  hd : ∀ h ∈ s.held, okC h.1 = true ∧ h.2 < s.worth.length
  home : ∀ z ∈ s.worth, z.2 < s.many
  hl : s.held.length ≤ n
  wl : s.worth.length ≤ n
  tl : s.told.length ≤ n
  ml : s.many ≤ n
section
variable {ns : List Int} {s : Stt} {n : Nat}
theorem SOk.op_le (h : SOk ns s n) : s.op.length ≤ 12 := by
  have h1 : (ups s).length = s.op.length := by simp [ups]
  have : (ups s).length ≤ (List.range (pn ns)).length := sub_len h.nd (fun a ha => by
    simp only [ups, List.mem_map] at ha
    obtain ⟨q, hq, rfl⟩ := ha
    simpa using h.lt q hq)
  have := (pn_eq ns).2.2
  simp at *
  omega
theorem enc_nm (ns : List Int) : Enc 0 (nmD ns) (fun p => p < pn ns) := enc_tx.comap (pnm ns) (fun a b _ _ e => pnm_inj ns e) fun p hp => pnm_ok ns (by have := (pn_eq ns).2.2; omega)
theorem SOk.op_xe (h : SOk ns s n) {ρ : Ev} {f : EF} (hf : Vf f ρ (stD ns s)) : ∃ m, Xe (iE (eIx ixD f (eC (.str "open")))) ρ (s.op.map (upD ns)) m := xe_of (vf_ix hf vf_c (st_open ns s)) rfl
/-- the plots that are open, the numbers that are open -/
theorem SOk.vups (h : SOk ns s n) {ρ : Ev} {f : EF} {i j : Nat} (hf : Vf f ρ (stD ns s)) (hi : i < ρ.length) (hj : j < ρ.length) (hij : i ≠ j) :
    Ve (eLc (iE (eIx ixD f (eC (.str "open")))) [i, j] (gT 2 (gsCons i (gsCons j gsNil))) (fun _ => some true) (eV i)) ρ (.lst ((ups s).map (nmD ns))) .new := by
  have := vn_lc2M (F := fun q : Nat × Nat => nmD ns q.1) (fa := upD ns) (ga := fun q => nmD ns q.1) (gb := fun q => .int (q.2 : Nat)) (l := s.op) (e := eV i) (h.op_xe hf) (by have := h.op_le; omega) hi hj hij (fun a _ => ⟨rfl, rfl, rfl⟩) (fun a _ => vf_fn (by
    rw [List.getElem?_set_ne (Ne.symm hij), List.getElem?_set_self]; rw [wipeE_length]; exact hi)) (fun a _ => rfl)
  rw [show (ups s).map (nmD ns) = s.op.map (fun q => nmD ns q.1) by simp [ups]]
  exact this
theorem SOk.vnums (h : SOk ns s n) {ρ : Ev} {f : EF} {i j : Nat} (hf : Vf f ρ (stD ns s)) (hi : i < ρ.length) (hj : j < ρ.length) (hij : i ≠ j) :
    Ve (eLc (iE (eIx ixD f (eC (.str "open")))) [i, j] (gT 2 (gsCons i (gsCons j gsNil))) (fun _ => some true) (eV j)) ρ (.lst ((nums s).map fun k : Nat => D.int k)) .new := by
  have := vn_lc2M (F := fun q : Nat × Nat => D.int (q.2 : Nat)) (fa := upD ns) (ga := fun q => nmD ns q.1) (gb := fun q => .int (q.2 : Nat)) (l := s.op) (e := eV j) (h.op_xe hf) (by have := h.op_le; omega) hi hj hij (fun a _ => ⟨rfl, rfl, rfl⟩) (fun a _ => vf_fn (by
    rw [List.getElem?_set_self]; rw [List.length_set, wipeE_length]; exact hj)) (fun a _ => rfl)
  rw [show (nums s).map (fun k : Nat => D.int k) = s.op.map (fun q => D.int (q.2 : Nat)) by simp [nums]]
  exact this
theorem hd_ix {a : List Nat} {i : Nat} (h : s.held.lookup a = some i) : ixD (.dic (hdL s)) (.str (tx a)) = some (.int i) := ix_dic (by rw [hd_get, h]; rfl)
theorem lookup_mem {a : List Nat} {i : Nat} : ∀ {l : List (List Nat × Nat)}, l.lookup a = some i → (a, i) ∈ l
  | [], h => by simp at h
  | (b, j) :: r, h => by
    rw [List.lookup_cons] at h
    split at h
    · rename_i q
      cases h
      have : a = b := by simpa using q
      subst this; simp
    · exact List.mem_cons_of_mem _ (lookup_mem h)
theorem SOk.held_lt (h : SOk ns s n) {a : List Nat} {i : Nat} (e : s.held.lookup a = some i) : i < s.worth.length := (h.hd _ (lookup_mem e)).2
theorem wt_ix {i : Nat} (h : i < s.worth.length) : ixD (.lst (wtL s)) (.int i) = some (wtD (valM s i, homeM s i)) := by
  refine ixl_nat (by omega) ?_
  unfold wtL valM homeM
  rw [Int.toNat_natCast, List.getElem?_map, List.getD_eq_getElem?_getD, List.getElem?_eq_getElem h]; rfl
theorem wtD_0 (z : Int × Nat) : ixD (wtD z) (.int 0) = some (.int z.1) := rfl
theorem wtD_1 (z : Int × Nat) : ixD (wtD z) (.int 1) = some (.int (z.2 : Nat)) := rfl
/-! ### the word by which a row goes wrong -/
def isUp (s : Stt) (p : Nat) : Bool := (ups s).contains p
def lk : Rw → List (List Nat)
  | .copy _ b _ => [b]
  | .add a b => [a, b]
  | .tell a => [a]
  | _ => []
def lkAt : Rw → List Nat
  | .copy _ _ _ => [2]
  | .add _ _ => [1, 2]
  | .tell _ => [1]
  | _ => []
def lackL (s : Stt) : List (List Nat) → Str
  | [] => ""
  | c :: r => if (lackM s c == ("" : Str)) = true then lackL s r else lackM s c
def homeW (s : Stt) (w : Rw) : Str := if ((homeOf w).isSome && !isUp s ((homeOf w).getD 0)) = true then "not open" else if (w.isFin && !s.op.isEmpty) = true then "left" else ""
def wrongM (ns : List Int) (s : Stt) : Rw → Str
  | .opn p => if isUp s p = true then "open already" else match ppar ns p with
    | none => ""
    | some j => if isUp s j = true then "" else "not open"
  | .same _ b => if (s.held.lookup b).isSome = true then "" else "nothing"
  | w => if (lackL s (lk w) == ("" : Str)) = true then homeW s w else lackL s (lk w)
theorem lack_ok (s : Stt) (a : List Nat) : PyData.strOk (lackM s a) = true := by
  unfold lackM
  split
  · decide +kernel
  · split <;> decide +kernel
abbrev lkK : List (Key × D) := [(.inr "copy", .tup [.int 2]), (.inr "add", .tup [.int 1, .int 2]), (.inr "tell", .tup [.int 1])]
theorem lk_in (w : Rw) : inB (.str w.tag) (.dic lkK) = some (!(lk w).isEmpty) := in_dic (by cases w <;> kernel_rfl)
theorem lk_get {w : Rw} (h : (!(lk w).isEmpty) = true) : getK lkK (.inr w.tag) = some (.tup ((lkAt w).map fun k : Nat => D.int k)) := by
  cases w with
  | copy a b p => kernel_rfl
  | add a b => kernel_rfl
  | tell a => kernel_rfl
  | _ => exact absurd h Bool.false_ne_true
theorem lk_len (w : Rw) : (lkAt w).length = (lk w).length := by cases w <;> rfl
theorem lk_ix (ns : List Int) (w : Rw) : ∀ {i : Nat} {k : Nat} {c : List Nat}, (lkAt w)[i]? = some k → (lk w)[i]? = some c → ixD (rwD ns w) (.int k) = some (.str (tx c)) := by
  intro i k c h1 h2
  cases w with
  | copy a b p =>
    match i with
    | 0 => cases h1; cases h2; rfl
    | i + 1 => simp [lkAt] at h1
  | add a b =>
    match i with
    | 0 => cases h1; cases h2; rfl
    | 1 => cases h1; cases h2; rfl
    | i + 2 => simp [lkAt] at h1
  | tell a =>
    match i with
    | 0 => cases h1; cases h2; rfl
    | i + 1 => simp [lkAt] at h1
  | _ => simp [lk] at h2
theorem lk_none {w : Rw} (h : (!(lk w).isEmpty) = false) : lk w = [] := by simpa using h
theorem lackL_skip {s : Stt} : ∀ {l : List (List Nat)} {i : Nat} {c : List Nat}, (∀ j, j < i → ∀ c, l[j]? = some c → lackM s c = "") → l[i]? = some c → (lackM s c == ("" : Str)) = false → lackL s l = lackM s c
  | [], _, _, _, h, _ => by simp at h
  | x :: r, 0, c, _, h, hc => by
    cases h
    rw [lackL, if_neg (by rw [hc]; decide)]
  | x :: r, i + 1, c, hp, h, hc => by
    have h0 := hp 0 (by omega) x rfl
    rw [lackL, if_pos (by rw [h0]; decide +kernel)]
    exact lackL_skip (i := i) (fun j hj d e => hp (j + 1) (by omega) d (by simpa using e)) (by simpa using h) hc
theorem lackL_all {s : Stt} : ∀ {l : List (List Nat)}, (∀ j, j < l.length → ∀ c, l[j]? = some c → lackM s c = "") → lackL s l = ""
  | [], _ => rfl
  | x :: r, hp => by
    have h0 := hp 0 (by simp) x rfl
    rw [lackL, if_pos (by rw [h0]; decide +kernel)]
    exact lackL_all fun j hj d e => hp (j + 1) (by simp; omega) d (by simpa using e)
theorem in_ups (h : SOk ns s n) {p : Nat} (hp : p < pn ns) : inB (nmD ns p) (.lst ((ups s).map (nmD ns))) = some (isUp s p) := (enc_nm ns).inB hp fun b hb => by
  simp only [ups, List.mem_map] at hb
  obtain ⟨q, hq, rfl⟩ := hb
  exact h.lt q hq
theorem ups_ok (h : SOk ns s n) : ∀ b ∈ ups s, b < pn ns := fun b hb => by
  simp only [ups, List.mem_map] at hb
  obtain ⟨q, hq, rfl⟩ := hb
  exact h.lt q hq
theorem home_lt {l : List (List Nat)} {w : Rw} (hw : RwOk ns l w) (h : (homeOf w).isSome = true) : (homeOf w).getD 0 < pn ns := by
  cases w with
  | lay a p z => exact hw.2
  | copy a b p => exact hw.2.2
  | give p => exact hw
  | _ => exact absurd h Bool.false_ne_true
theorem eq_e (x : Str) (hx : PyData.strOk x = true) : neDD (.str x) (.str "") = some (.bl (!(x == ("" : Str)))) := ne_str hx (by decide +kernel)
/-! ### a deed -/
def putA (l : List (List Nat × Nat)) (a : List Nat) (i : Nat) : List (List Nat × Nat) := if (l.any fun h => decide (h.1 = a)) = true then l.map (fun h => if h.1 = a then (h.1, i) else h) else l ++ [(a, i)]
def heldI (s : Stt) (a : List Nat) : Nat := (s.held.lookup a).getD 0
def numOf (s : Stt) (p : Nat) : Nat := ((s.op.filter fun q => q.1 == p).map (·.2)).headD 0
noncomputable def deedM (ns : List Int) (s : Stt) : Rw → Stt
  | .opn p => { s with op := s.op ++ [(p, s.many)], many := s.many + 1 }
  | .lay a p z => { s with held := putA s.held a s.worth.length, worth := s.worth ++ [(z, numOf s p)] }
  | .copy a b p => { s with held := putA s.held a s.worth.length, worth := s.worth ++ [(valM s (heldI s b), numOf s p)] }
  | .same a b => { s with held := putA s.held a (heldI s b) }
  | .add a b => { s with worth := s.worth.set (heldI s a) (valM s (heldI s a) + valM s (heldI s b), homeM s (heldI s a)) }
  | .tell a => { s with told := s.told ++ [valM s (heldI s a)] }
  | .give p => { s with op := s.op.filter (fun q => !inOut ns p q.1), given := s.given ++ ((s.op.filter fun q => inOut ns p q.1).map (·.2)).reverse }
  | _ => s
theorem putA_K (l : List (List Nat × Nat)) (a : List Nat) (i : Nat) : putG (l.map hdK) (.inr (tx a)) (.int (i : Nat)) = (putA l a i).map hdK := by
  have e : ∀ h : List Nat × Nat, ((hdK h).1 = (.inr (tx a) : Key)) ↔ h.1 = a := fun h => ⟨fun e => tx_inj (Sum.inr.inj e), fun e => by rw [← e]; rfl⟩
  unfold putG putA
  rw [List.any_map]
  have e2 : ((fun kv : Key × D => decide (kv.1 = (.inr (tx a) : Key))) ∘ hdK) = fun h => decide (h.1 = a) := by
    funext h
    simp only [Function.comp, e h]
  rw [e2]
  split
  · rw [List.map_map, List.map_map]
    congr 1
    funext h
    simp only [Function.comp, e h]
    split <;> rfl
  · rw [List.map_append]; rfl
theorem putA_len (l : List (List Nat × Nat)) (a : List Nat) (i : Nat) : (putA l a i).length ≤ l.length + 1 := by
  unfold putA
  split <;> simp
theorem putA_mem {l : List (List Nat × Nat)} {a : List Nat} {i : Nat} {h : List Nat × Nat} (hm : h ∈ putA l a i) : h = (a, i) ∨ h ∈ l := by
  unfold putA at hm
  split at hm
  · simp only [List.mem_map] at hm
    obtain ⟨g, hg, rfl⟩ := hm
    split
    · rename_i q; exact .inl (by rw [q])
    · exact .inr hg
  · rcases List.mem_append.mp hm with hm | hm
    · exact .inr hm
    · exact .inl (by simpa using hm)
theorem lk_map (a : List Nat) (i : Nat) (c : List Nat) : ∀ l : List (List Nat × Nat), (l.map (fun h => if h.1 = a then (h.1, i) else h)).lookup c = if c = a then (l.lookup c).map (fun _ => i) else l.lookup c
  | [] => by simp
  | (b, j) :: r => by
    have ih := lk_map a i c r
    rw [List.map_cons, List.lookup_cons]
    by_cases q : b = a
    · rw [if_pos q, List.lookup_cons]
      by_cases q2 : c = b
      · have : (c == b) = true := by simpa using q2
        rw [this, if_pos (q2.trans q)]; rfl
      · have : (c == b) = false := by simpa using q2
        rw [this]
        exact ih
    · rw [if_neg q, List.lookup_cons]
      by_cases q2 : c = b
      · have : (c == b) = true := by simpa using q2
        rw [this, if_neg (fun e => q (q2.symm.trans e))]
      · have : (c == b) = false := by simpa using q2
        rw [this]
        exact ih
theorem lk_app (a : List Nat) (i : Nat) (c : List Nat) : ∀ l : List (List Nat × Nat), (∀ g ∈ l, g.1 ≠ a) → (l ++ [(a, i)]).lookup c = if c = a then some i else l.lookup c
  | [], _ => by
    show List.lookup c [(a, i)] = _
    rw [List.lookup_cons]
    by_cases q : c = a
    · subst q; simp
    · have q3 : (c == a) = false := by simpa using q
      rw [q3, if_neg q]
  | (b, j) :: r, hn => by
    have ih := lk_app a i c r fun g hg => hn g (by simp [hg])
    rw [List.cons_append, List.lookup_cons, List.lookup_cons]
    by_cases q2 : c = b
    · have h1 : (c == b) = true := by simpa using q2
      have h2 : b ≠ a := hn (b, j) (by simp)
      rw [h1, if_neg (fun e => h2 (q2.symm.trans e))]
    · have h1 : (c == b) = false := by simpa using q2
      rw [h1]
      exact ih
theorem lk_some {a : List Nat} : ∀ {l : List (List Nat × Nat)}, (l.any fun h => decide (h.1 = a)) = true → ∃ j, l.lookup a = some j
  | [], h => by simp at h
  | (b, j) :: r, h => by
    rw [List.lookup_cons]
    by_cases q : a = b
    · subst q; exact ⟨j, by simp⟩
    · have h1 : (a == b) = false := by simpa using q
      have h2 : ¬ b = a := fun e => q e.symm
      rw [h1]
      exact lk_some (l := r) (by simpa [h2] using h)
theorem putA_get (l : List (List Nat × Nat)) (a : List Nat) (i : Nat) (c : List Nat) : (putA l a i).lookup c = if c = a then some i else l.lookup c := by
  unfold putA
  split
  · rename_i h
    rw [lk_map]
    by_cases q : c = a
    · rw [if_pos q, if_pos q, q]
      obtain ⟨j, e⟩ := lk_some h
      rw [e]; rfl
    · rw [if_neg q, if_neg q]
  · rename_i h
    exact lk_app a i c l fun g hg e => h (List.any_eq_true.mpr ⟨g, hg, by simpa using e⟩)
theorem eq_tag (w : Rw) (t : Str) (ht : PyData.strOk t = true) : eqDD (.str w.tag) (.str t) = some (.bl (w.tag == t)) := eq_str (tag_ok w) ht
theorem gs_open (ns : List Int) (s : Stt) : dgets (stD ns s) [.ky (.inr "open")] = some (.lst (opL ns s)) := by kernel_rfl
theorem gs_held (ns : List Int) (s : Stt) : dgets (stD ns s) [.ky (.inr "held")] = some (.dic (hdL s)) := by kernel_rfl
theorem gs_worth (ns : List Int) (s : Stt) : dgets (stD ns s) [.ky (.inr "worth")] = some (.lst (wtL s)) := by kernel_rfl
theorem gs_told (ns : List Int) (s : Stt) : dgets (stD ns s) [.ky (.inr "told")] = some (.lst (tdL s)) := by kernel_rfl
theorem gs_given (ns : List Int) (s : Stt) : dgets (stD ns s) [.ky (.inr "given")] = some (.lst (gvL s)) := by kernel_rfl
theorem rs_open (ns : List Int) (s : Stt) (o : List (Nat × Nat)) : dreps (stD ns s) [.ky (.inr "open")] (.lst (o.map (upD ns))) = stD ns { s with op := o } := by kernel_rfl
theorem rs_held (ns : List Int) (s : Stt) (o : List (List Nat × Nat)) : dreps (stD ns s) [.ky (.inr "held")] (.dic (o.map hdK)) = stD ns { s with held := o } := by kernel_rfl
theorem rs_worth (ns : List Int) (s : Stt) (o : List (Int × Nat)) : dreps (stD ns s) [.ky (.inr "worth")] (.lst (o.map wtD)) = stD ns { s with worth := o } := by kernel_rfl
theorem rs_told (ns : List Int) (s : Stt) (o : List Int) : dreps (stD ns s) [.ky (.inr "told")] (.lst (o.map D.int)) = stD ns { s with told := o } := by kernel_rfl
theorem rs_given (ns : List Int) (s : Stt) (o : List Nat) : dreps (stD ns s) [.ky (.inr "given")] (.lst (o.map fun k : Nat => D.int k)) = stD ns { s with given := o } := by kernel_rfl
theorem wy_st (ns : List Int) (s : Stt) {ρ : Ev} {i : Nat} {k : Str} (h : ownD ρ i = some (stD ns s)) : Wy (wIx i wN (eC (.str k))) ρ [.ky (.inr k)] :=
  wy_ix (p := []) wy_n (wayD_of h rfl) vf_c rfl
theorem SOk.up_of (h : SOk ns s n) {p : Nat} (hp : isUp s p = true) : ∃ k, (s.op.filter fun q => q.1 == p) = [(p, k)] ∧ (p, k) ∈ s.op := by
  have hm : p ∈ ups s := by simpa [isUp] using hp
  have hn := h.nd
  unfold ups at hm hn
  generalize s.op = o at hm hn
  induction o with
  | nil => simp at hm
  | cons q r ih =>
    obtain ⟨b, k⟩ := q
    rw [List.map_cons, List.nodup_cons] at hn
    rw [List.filter_cons]
    by_cases e : b = p
    · subst e
      refine ⟨k, ?_, by simp⟩
      rw [if_pos (by simp), List.filter_eq_nil_iff.mpr]
      intro q hq
      have : q.1 ∈ r.map (·.1) := List.mem_map_of_mem hq
      simp only [beq_iff_eq]
      rintro rfl
      exact hn.1 this
    · rw [if_neg (by simpa using e)]
      have hm' : p ∈ r.map (·.1) := by
        rcases List.mem_cons.mp hm with z | z
        · exact absurd z.symm e
        · exact z
      obtain ⟨k', h1, h2⟩ := ih hm' hn.2
      exact ⟨k', h1, by simp [h2]⟩
theorem SOk.numOf_mem (h : SOk ns s n) {p : Nat} (hp : isUp s p = true) : (p, numOf s p) ∈ s.op ∧ (s.op.filter fun q => q.1 == p) = [(p, numOf s p)] := by
  obtain ⟨k, h1, h2⟩ := h.up_of hp
  have : numOf s p = k := by unfold numOf; rw [h1]; rfl
  rw [this]
  exact ⟨h2, h1⟩
/-- the number of the plot p, as it is looked up -/
theorem SOk.vnum (h : SOk ns s n) {p : Nat} (hlt : p < pn ns) (hp : isUp s p = true) {ρ : Ev} {f : EF} {i j k : Nat} (hf : Vf f ρ (stD ns s)) (hi : i < ρ.length) (hj : j < ρ.length) (hij : i ≠ j) (hk : ρ[k]? = some (.fn (nmD ns p))) (hki : k ≠ i) (hkj : k ≠ j) :
    Vf (eIx ixD (eLc (iE (eIx ixD f (eC (.str "open")))) [i, j] (gT 2 (gsCons i (gsCons j gsNil))) (tE (e2 eqDD (eV i) (eV k))) (eV j)) (eC (.int 0))) ρ (.int (numOf s p : Nat)) := by
  have hw : (wipeE ρ [i, j])[k]? = some (.fn (nmD ns p)) := by
    simp only [wipeE]
    rw [List.getElem?_set_ne (Ne.symm hki), List.getElem?_set_ne (Ne.symm hkj)]; exact hk
  have hx := vn_lc2 (F := fun q : Nat × Nat => D.int (q.2 : Nat)) (fa := upD ns) (ga := fun q => nmD ns q.1) (gb := fun q => .int (q.2 : Nat)) (l := s.op) (p := fun q => q.1 == p) (t := tE (e2 eqDD (eV i) (eV k))) (e := eV j) (h.op_xe hf) (by have := h.op_le; omega) hi hj hij (fun a _ => ⟨rfl, rfl, rfl⟩) (fun a ha => by
    have r1 : (((wipeE ρ [i, j]).set i (.fn (nmD ns a.1))).set j (.fn (.int (a.2 : Nat))))[i]? = some (.fn (nmD ns a.1)) := by
      rw [List.getElem?_set_ne (Ne.symm hij), List.getElem?_set_self]; rw [wipeE_length]; exact hi
    have r2 : (((wipeE ρ [i, j]).set i (.fn (nmD ns a.1))).set j (.fn (.int (a.2 : Nat))))[k]? = some (.fn (nmD ns p)) := by
      rw [List.getElem?_set_ne (Ne.symm hkj), List.getElem?_set_ne (Ne.symm hki)]; exact hw
    have r3 : (((wipeE ρ [i, j]).set i (.fn (nmD ns a.1))).set j (.fn (.int (a.2 : Nat))))[j]? = some (.fn (.int (a.2 : Nat))) := by
      rw [List.getElem?_set_self]; rw [List.length_set, wipeE_length]; exact hj
    exact ⟨tf_v (vf_e2 (vf_fn r1) (vf_fn r2) (eq_nm ns (h.lt a ha) hlt)), fun _ => vf_fn r3⟩) (fun a _ => rfl)
  rw [(h.numOf_mem hp).2] at hx
  exact vf_ix (.of hx) vf_c rfl
end
end K04

namespace K04
open PySem L2 DL
section
variable {ns : List Int} {s : Stt} {n : Nat}
theorem tg (w : Rw) {t : Str} {b : Bool} (ht : PyData.strOk t = true) (hb : (w.tag == t) = b) : eqDD (.str w.tag) (.str t) = some (.bl b) := by rw [eq_tag w t ht, hb]
theorem it_held (h : s.held.length < 16777216) (a : List Nat) (i : Nat) : itemD (.dic (hdL s)) (.str (tx a)) (.int (i : Nat)) = some (.dic ((putA s.held a i).map hdK)) := by
  show (if (hdL s).length < 16777216 ∧ (flat (D.int (i : Nat)) = true ∨ cntK (hdL s) (.inr (tx a)) ≤ 1) then some (D.dic (putG (hdL s) (.inr (tx a)) (.int (i : Nat)))) else none) = _
  rw [if_pos ⟨by simpa [hdL] using h, .inl rfl⟩]
  unfold hdL
  rw [putA_K]
theorem ve_cast {f : EF} {ρ : Ev} {d d' : D} {m : Md} (h : Ve f ρ d m) (e : d = d') : Ve f ρ d' m := by subst e; exact h
theorem ixN_lt {n j : Nat} (hj : j < n) : ixN n (j : Int) = some j := by
  unfold ixN
  rw [if_pos (by omega), if_pos (by omega)]
  simp
theorem it_many (ns : List Int) (s : Stt) (m : Nat) : itemD (stD ns s) (.str "many") (.int (m : Nat)) = some (stD ns { s with many := m }) := by kernel_rfl
theorem it_open (ns : List Int) (s : Stt) (o : List (Nat × Nat)) : itemD (stD ns s) (.str "open") (.lst (o.map (upD ns))) = some (stD ns { s with op := o }) := by kernel_rfl
theorem str_ne : ("not open" : Str) ≠ "" ∧ ("open already" : Str) ≠ "" ∧ ("nothing" : Str) ≠ "" ∧ ("gone" : Str) ≠ "" ∧ ("left" : Str) ≠ "" := ⟨by decide +kernel, by decide +kernel, by decide +kernel, by decide +kernel, by decide +kernel⟩
theorem lack_some {a : List Nat} (h : lackM s a = "") : ∃ i, s.held.lookup a = some i ∧ heldI s a = i ∧ (nums s).contains (homeM s i) = true := by
  unfold lackM at h
  cases e : s.held.lookup a with
  | none => rw [e] at h; exact absurd h str_ne.2.2.1
  | some i =>
    rw [e] at h
    refine ⟨i, rfl, by unfold heldI; rw [e]; rfl, ?_⟩
    simp only at h
    split at h
    · assumption
    · exact absurd h str_ne.2.2.2.1
theorem lackL_mem {l : List (List Nat)} (h : lackL s l = "") : ∀ c ∈ l, lackM s c = "" := by
  induction l with
  | nil => intro c hc; cases hc
  | cons x r ih =>
    rw [lackL] at h
    split at h
    · rename_i q
      intro c hc
      rcases List.mem_cons.mp hc with rfl | hc
      · simpa using q
      · exact ih h c hc
    · rename_i q
      rw [h] at q
      exact absurd (by decide +kernel) q
/-- what a row that does not go wrong finds -/
theorem wrong_home {w : Rw} (h1 : w.isOpn = false) (h2 : w.isSame = false) (h : wrongM ns s w = "") : lackL s (lk w) = "" ∧ homeW s w = "" := by
  have hM : wrongM ns s w = if (lackL s (lk w) == ("" : Str)) = true then homeW s w else lackL s (lk w) := by
    cases w with
    | opn p => cases h1
    | same a b => cases h2
    | _ => rfl
  rw [hM] at h
  split at h
  · rename_i q; exact ⟨by simpa using q, h⟩
  · rename_i q; rw [h] at q; exact absurd (by decide +kernel) q
theorem home_up {w : Rw} {p : Nat} (hp : homeOf w = some p) (h : homeW s w = "") : isUp s p = true := by
  unfold homeW at h
  split at h
  · exact absurd h str_ne.1
  · rename_i q
    rw [hp] at q
    simpa using q
theorem SOk.val_ix (h : SOk ns s n) {a : List Nat} {i : Nat} (e : s.held.lookup a = some i) {ρ : Ev} {f g : EF} (hf : Vf f ρ (stD ns s)) (hg : Vf g ρ (.str (tx a))) :
    Vf (eIx ixD (eIx ixD (eIx ixD f (eC (.str "worth"))) (eIx ixD (eIx ixD f (eC (.str "held"))) g)) (eC (.int 0))) ρ (.int (valM s i)) :=
  vf_ix (vf_ix (vf_ix hf vf_c (st_worth ns s)) (vf_ix (vf_ix hf vf_c (st_held ns s)) hg (hd_ix e)) (wt_ix (h.held_lt e))) vf_c (wtD_0 _)
end
end K04

namespace K04
open PySem L2 DL
section
variable {ns : List Int} {s : Stt} {n : Nat}
theorem SOk.num_lt (h : SOk ns s n) {q : Nat × Nat} (hq : q ∈ s.op) : q.2 < s.many := by
  have h1 : q.2 ∈ s.given ++ nums s := List.mem_append_right _ (List.mem_map_of_mem hq)
  simpa using h.perm.mem_iff.mp h1
theorem SOk.home_lt (h : SOk ns s n) {i : Nat} (hi : i < s.worth.length) : homeM s i < s.many := by
  unfold homeM
  rw [List.getD_eq_getElem?_getD, List.getElem?_eq_getElem hi]
  exact h.home _ (List.getElem_mem hi)
theorem deed_ok {l : List (List Nat)} {w : Rw} (h : SOk ns s n) (hl : NmOk l) (hw : RwOk ns l w) (hg : wrongM ns s w = "") : SOk ns (deedM ns s w) (n + 1) := by
  have b1 := h.hl
  have b2 := h.wl
  have b3 := h.tl
  have b4 := h.ml
  have new : ∀ (a : List Nat) (p : Nat) (z : Int), a ∈ l → isUp s p = true → SOk ns { s with held := putA s.held a s.worth.length, worth := s.worth ++ [(z, numOf s p)] } (n + 1) := fun a p z ha hp => by
    refine ⟨h.lt, h.nd, h.perm, fun g hg => ?_, fun g hg => ?_, ?_, ?_, by show s.told.length ≤ _; omega, by show s.many ≤ _; omega⟩
    · show okC g.1 = true ∧ g.2 < (s.worth ++ [(z, numOf s p)]).length
      rw [List.length_append]
      rcases putA_mem hg with rfl | hg
      · exact ⟨hl.ok _ ha, by simp⟩
      · have := h.hd g hg
        exact ⟨this.1, by simp; omega⟩
    · show g.2 < s.many
      rcases List.mem_append.mp hg with hg | hg
      · exact h.home g hg
      · simp only [List.mem_cons, List.not_mem_nil, or_false] at hg
        subst hg
        exact h.num_lt (h.numOf_mem hp).1
    · have := putA_len s.held a s.worth.length
      show (putA s.held a s.worth.length).length ≤ _
      omega
    · show (s.worth ++ [(z, numOf s p)]).length ≤ _
      rw [List.length_append]
      simp; omega
  have same_ : SOk ns s (n + 1) := ⟨h.lt, h.nd, h.perm, h.hd, h.home, by omega, by omega, by omega, by omega⟩
  cases w with
  | opn p =>
    have hp : p < pn ns := hw
    have hu : isUp s p = false := by
      have hg : (if isUp s p = true then ("open already" : Str) else match ppar ns p with
        | none => ""
        | some j => if isUp s j = true then "" else "not open") = "" := hg
      cases e : isUp s p with
      | false => rfl
      | true => rw [e, if_pos rfl] at hg; exact absurd hg str_ne.2.1
    refine ⟨fun q hq => ?_, ?_, ?_, h.hd, fun z hz => ?_, by show s.held.length ≤ _; omega, by show s.worth.length ≤ _; omega, by show s.told.length ≤ _; omega, by show s.many + 1 ≤ _; omega⟩
    · rcases List.mem_append.mp hq with hq | hq
      · exact h.lt q hq
      · simp only [List.mem_cons, List.not_mem_nil, or_false] at hq
        subst hq; exact hp
    · show ((s.op ++ [(p, s.many)]).map (·.1)).Nodup
      rw [List.map_append]
      refine List.nodup_append.mpr ⟨h.nd, by simp, ?_⟩
      rintro a ha b hb rfl
      simp only [List.map_cons, List.map_nil, List.mem_cons, List.not_mem_nil, or_false] at hb
      subst hb
      have : isUp s a = true := by simpa [isUp] using (show a ∈ ups s from ha)
      rw [hu] at this; cases this
    · show (s.given ++ (s.op ++ [(p, s.many)]).map (·.2)).Perm (List.range (s.many + 1))
      rw [List.map_append, ← List.append_assoc, List.range_succ]
      exact h.perm.append (List.Perm.refl _)
    · exact Nat.lt_succ_of_lt (h.home z hz)
  | lay a p z =>
    obtain ⟨_, g2⟩ := wrong_home rfl rfl hg
    exact new a p z hw.1 (home_up (p := p) rfl g2)
  | copy a b p =>
    obtain ⟨_, g2⟩ := wrong_home rfl rfl hg
    exact new a p _ hw.1 (home_up (p := p) rfl g2)
  | same a b =>
    obtain ⟨i, hi⟩ : ∃ i, s.held.lookup b = some i := by
      have hg : (if (s.held.lookup b).isSome = true then ("" : Str) else "nothing") = "" := hg
      cases e : s.held.lookup b with
      | none => rw [e] at hg; exact absurd hg str_ne.2.2.1
      | some i => exact ⟨i, rfl⟩
    have hi2 : heldI s b = i := by unfold heldI; rw [hi]; rfl
    refine ⟨h.lt, h.nd, h.perm, fun g hg => ?_, h.home, ?_, by show s.worth.length ≤ _; omega, by show s.told.length ≤ _; omega, by show s.many ≤ _; omega⟩
    · rcases putA_mem hg with rfl | hg
      · exact ⟨hl.ok _ hw.1, by rw [hi2]; exact h.held_lt hi⟩
      · exact h.hd g hg
    · have := putA_len s.held a (heldI s b)
      show (putA s.held a (heldI s b)).length ≤ _
      omega
  | add a b =>
    obtain ⟨g1, _⟩ := wrong_home rfl rfl hg
    obtain ⟨i, hi, hi2, _⟩ := lack_some (lackL_mem g1 a (by simp [lk]))
    refine ⟨h.lt, h.nd, h.perm, fun g hg => ?_, fun z hz => ?_, by show s.held.length ≤ _; omega, ?_, by show s.told.length ≤ _; omega, by show s.many ≤ _; omega⟩
    · show okC g.1 = true ∧ g.2 < (s.worth.set _ _).length
      rw [List.length_set]
      exact h.hd g hg
    · rcases List.mem_or_eq_of_mem_set hz with hz | rfl
      · exact h.home z hz
      · rw [hi2]; exact h.home_lt (h.held_lt hi)
    · show (s.worth.set _ _).length ≤ _
      rw [List.length_set]; omega
  | tell a =>
    refine ⟨h.lt, h.nd, h.perm, h.hd, h.home, by show s.held.length ≤ _; omega, by show s.worth.length ≤ _; omega, ?_, by show s.many ≤ _; omega⟩
    show (s.told ++ [_]).length ≤ _
    simp; omega
  | give p =>
    refine ⟨fun q hq => h.lt q (List.mem_filter.mp hq).1, ?_, ?_, h.hd, h.home, by show s.held.length ≤ _; omega, by show s.worth.length ≤ _; omega, by show s.told.length ≤ _; omega, by show s.many ≤ _; omega⟩
    · exact h.nd.sublist (List.filter_sublist.map _)
    · show (s.given ++ ((s.op.filter fun q => inOut ns p q.1).map (·.2)).reverse ++ (s.op.filter fun q => !inOut ns p q.1).map (·.2)).Perm (List.range s.many)
      refine List.Perm.trans ?_ h.perm
      rw [List.append_assoc]
      refine (List.Perm.refl _).append ?_
      refine ((List.reverse_perm _).append (List.Perm.refl _)).trans ?_
      rw [← List.map_append]
      exact (List.filter_append_perm (fun q : Nat × Nat => inOut ns p q.1) s.op).map _
  | fork k => exact same_
  | go k => exact same_
  | fin => exact same_
def st0 : Stt := ⟨[], [], [], [], [], 0⟩
theorem st0_ok (ns : List Int) : SOk ns st0 0 := ⟨(fun _ h => nomatch h), List.nodup_nil, List.Perm.refl _, (fun _ h => nomatch h), (fun _ h => nomatch h), Nat.le_refl _, Nat.le_refl _, Nat.le_refl _, Nat.le_refl _⟩
theorem tag3 (w : Rw) : inB (.str w.tag) (.tup [.str "fork", .str "go", .str "end"]) = some (match w with | .fork _ => true | .go _ => true | .fin => true | _ => false) := by cases w <;> kernel_rfl
def Rw.isDeed : Rw → Bool | .fork _ => false | .go _ => false | .fin => false | _ => true
theorem tag3_deed (w : Rw) : ninD (.str w.tag) (.tup [.str "fork", .str "go", .str "end"]) = some (.bl w.isDeed) := by
  rw [nin_of (tag3 w)]
  cases w <;> rfl
theorem wrong_ok (ns : List Int) (s : Stt) (w : Rw) : PyData.strOk (wrongM ns s w) = true := by
  have hl : ∀ L, PyData.strOk (lackL s L) = true := by
    intro L
    induction L with
    | nil => exact (show PyData.strOk ("" : Str) = true by decide +kernel)
    | cons x r ih => rw [lackL]; split; exact ih; exact lack_ok s x
  have hh : PyData.strOk (homeW s w) = true := by
    unfold homeW
    split
    · decide +kernel
    · split <;> decide +kernel
  unfold wrongM
  split
  · split
    · decide +kernel
    · split
      · decide +kernel
      · split <;> decide +kernel
  · split <;> decide +kernel
  · split
    · exact hh
    · exact hl _
theorem eq_e2 (x : Str) (hx : PyData.strOk x = true) : eqDD (.str x) (.str "") = some (.bl (x == ("" : Str))) := eq_str hx (by decide +kernel)
theorem opn0 (h : SOk ns s n) (he : s.op = []) : wrongM ns s (.opn 0) = "" := by
  have hq : ppar ns 0 = none := by
    cases e : ppar ns 0 with
    | none => rfl
    | some j => exact absurd (ppar_lt ns e) (by omega)
  have hu : isUp s 0 = false := by simp [isUp, ups, he]
  show (if isUp s 0 = true then ("open already" : Str) else match ppar ns 0 with
    | none => ""
    | some j => if isUp s j = true then "" else "not open") = ""
  rw [hu, hq, if_neg (by decide)]
theorem lay_wrong {a : List Nat} {p : Nat} {z : Int} (hp : isUp s p = true) : wrongM ns s (.lay a p z) = "" := by
  show (if (lackL s [] == ("" : Str)) = true then homeW s (.lay a p z) else lackL s []) = _
  rw [if_pos (by show (("" : Str) == "") = true; decide +kernel)]
  show (if (true && !isUp s p) = true then _ else if (false && !s.op.isEmpty) = true then _ else _) = _
  rw [hp]; rfl
end
end K04

namespace K04
open PySem L2 DL
/-! ### the Store holds the law's own state -/
def soF (ns : List Int) (s : Stt) : List (Str × D) := [("plots", .lst (plots ns)), ("there", .lst (opL ns s)), ("worth", .lst (wtL s)), ("held", .dic (hdL s)), ("told", .lst (tdL s)), ("opened", .int (s.many : Nat)), ("given", .lst (gvL s))]
def soD (ns : List Int) (s : Stt) : D := .ins 0 (soF ns s)
theorem so_plots (ns : List Int) (s : Stt) : getF (soF ns s) "plots" = some (.lst (plots ns)) := by kernel_rfl
theorem so_there (ns : List Int) (s : Stt) : getF (soF ns s) "there" = some (.lst (opL ns s)) := by kernel_rfl
theorem so_worth (ns : List Int) (s : Stt) : getF (soF ns s) "worth" = some (.lst (wtL s)) := by kernel_rfl
theorem so_held (ns : List Int) (s : Stt) : getF (soF ns s) "held" = some (.dic (hdL s)) := by kernel_rfl
theorem so_told (ns : List Int) (s : Stt) : getF (soF ns s) "told" = some (.lst (tdL s)) := by kernel_rfl
theorem so_opened (ns : List Int) (s : Stt) : getF (soF ns s) "opened" = some (.int (s.many : Nat)) := by kernel_rfl
theorem so_given (ns : List Int) (s : Stt) : getF (soF ns s) "given" = some (.lst (gvL s)) := by kernel_rfl
theorem go_there (ns : List Int) (s : Stt) : dgets (soD ns s) [.fd "there"] = some (.lst (opL ns s)) := by kernel_rfl
theorem go_worth (ns : List Int) (s : Stt) : dgets (soD ns s) [.fd "worth"] = some (.lst (wtL s)) := by kernel_rfl
theorem go_held (ns : List Int) (s : Stt) : dgets (soD ns s) [.fd "held"] = some (.dic (hdL s)) := by kernel_rfl
theorem go_told (ns : List Int) (s : Stt) : dgets (soD ns s) [.fd "told"] = some (.lst (tdL s)) := by kernel_rfl
theorem go_given (ns : List Int) (s : Stt) : dgets (soD ns s) [.fd "given"] = some (.lst (gvL s)) := by kernel_rfl
theorem ro_there (ns : List Int) (s : Stt) (o : List (Nat × Nat)) : dreps (soD ns s) [.fd "there"] (.lst (o.map (upD ns))) = soD ns { s with op := o } := by kernel_rfl
theorem ro_held (ns : List Int) (s : Stt) (o : List (List Nat × Nat)) : dreps (soD ns s) [.fd "held"] (.dic (o.map hdK)) = soD ns { s with held := o } := by kernel_rfl
theorem ro_worth (ns : List Int) (s : Stt) (o : List (Int × Nat)) : dreps (soD ns s) [.fd "worth"] (.lst (o.map wtD)) = soD ns { s with worth := o } := by kernel_rfl
theorem ro_told (ns : List Int) (s : Stt) (o : List Int) : dreps (soD ns s) [.fd "told"] (.lst (o.map D.int)) = soD ns { s with told := o } := by kernel_rfl
theorem ro_given (ns : List Int) (s : Stt) (o : List Nat) : dreps (soD ns s) [.fd "given"] (.lst (o.map fun k : Nat => D.int k)) = soD ns { s with given := o } := by kernel_rfl
theorem po_there (ns : List Int) (s : Stt) (o : List (Nat × Nat)) : D.ins 0 (putFD "there" (.lst (o.map (upD ns))) (soF ns s)) = soD ns { s with op := o } := by kernel_rfl
theorem po_opened (ns : List Int) (s : Stt) (m : Nat) : D.ins 0 (putFD "opened" (.int (m : Nat)) (soF ns s)) = soD ns { s with many := m } := by kernel_rfl
theorem wy_so (ns : List Int) (s : Stt) {ρ : Ev} {i : Nat} {k : Str} (h : ownD ρ i = some (soD ns s)) : Wy (wFld 0 k i wN) ρ [.fd k] :=
  wy_fld (p := []) wy_n (wayD_of h rfl)
theorem vn_meth {n : Nat} {m : Str} {f : List D → Option D} {fo : EF} {g : AF} {ρ : Ev} {fs : List (Str × D)} {ds : List D} {d : D} (h : Vf fo ρ (.ins n fs)) (hm : getF fs m = none) (hg : Af g ρ ds) (hf : f (.ins n fs :: ds) = some d) : Ve (eMeth n m f fo g) ρ d .new := by
  obtain ⟨mo, h⟩ := h
  obtain ⟨as, hg, rfl⟩ := hg
  unfold Ve Ae at *
  unfold eMeth
  rw [h]
  simp [hm, hg, hf]
theorem vf_meth {n : Nat} {m : Str} {f : List D → Option D} {fo : EF} {g : AF} {ρ : Ev} {fs : List (Str × D)} {ds : List D} {d : D} (h : Vf fo ρ (.ins n fs)) (hm : getF fs m = none) (hg : Af g ρ ds) (hf : f (.ins n fs :: ds) = some d) : Vf (eMeth n m f fo g) ρ d := ⟨_, vn_meth h hm hg hf⟩
theorem wp_lock {i : Nat} {g : SF} {ρ : Ev} {d : D} {Φ : Fl → Prop} (h : ρ[i]? = some (.ow d)) (hg : Wp g (ρ.set i (.fz d)) fun r => relL (ρ.set i (.fz d)) r.st ∧ r.st[i]? = some (.fz d) ∧ Φ (r.put (r.st.set i (.ow d)))) : Wp (sLock i g) ρ Φ := by
  obtain ⟨r, h1, h2, h3, h4⟩ := hg
  exact ⟨_, se_lock h h1 h2 h3, h4⟩
theorem pf_len {f : Str} {x : D} {k : Nat} : ∀ {l : List (Str × D)}, l.length < k → (putFD f x l).length < k + 1
  | [], h => by simp [putFD]; omega
  | (g, d) :: r, h => by
    unfold putFD
    split
    · simp at h ⊢; omega
    · have := pf_len (f := f) (x := x) (k := k - 1) (l := r) (by simp at h; omega)
      simp at h ⊢; omega
section
variable {ns : List Int} {s : Stt} {n : Nat}
def numD (s : Stt) (p : Nat) : D := if isUp s p = true then .int (numOf s p : Nat) else .non
theorem numD_flat (s : Stt) (p : Nat) : flat (numD s p) = true := by unfold numD; split <;> rfl
theorem num_eq {p : Nat} (h : SOk ns s n) (hp : p < pn ns) : f_Store_number_of [soD ns s, nmD ns p] = some (numD s p) := by
  refine fn_is rfl ?_
  unfold b_Store_number_of
  show Wp _ [.fz (soD ns s), .fz (nmD ns p), .emp, .emp] _
  (try simp only [List.set_cons_zero, List.set_cons_succ])
  refine wp_forS (m := .par) (ds := opL ns s) (fun i ρ => (∃ s2 s3, freeS s2 = true ∧ freeS s3 = true ∧ ρ = [.fz (soD ns s), .fz (nmD ns p), s2, s3]) ∧ ∀ j, j < i → ∀ q, s.op[j]? = some q → q.1 ≠ p)
    (xe_seq (ve_fld (ve_fz rfl) (so_there ns s)) rfl) rfl ⟨⟨_, _, rfl, rfl, rfl⟩, fun j hj => absurd hj (by omega)⟩ ?_ ?_
  · rintro i d ρ hd ⟨⟨s2, s3, f2, f3, rfl⟩, hp2⟩
    obtain ⟨q, hq, rfl⟩ : ∃ q, s.op[i]? = some q ∧ d = upD ns q := by
      unfold opL at hd
      rw [List.getElem?_map] at hd
      cases e : s.op[i]? with
      | none => rw [e] at hd; cases hd
      | some q => rw [e] at hd; cases hd; exact ⟨q, rfl, rfl⟩
    have hqm := List.mem_of_getElem? hq
    (try simp only [List.set_cons_zero, List.set_cons_succ])
    refine sg_two rfl f2 rfl rfl f3 rfl ?_
    (try simp only [List.set_cons_zero, List.set_cons_succ])
    refine wp_if (b := (q.1 == p)) (tf_v (vf_e2 (vf_fn (d := nmD ns q.1) rfl) (vf_fz rfl) (eq_nm ns (h.lt q hqm) hp))) (fun hy => ?_) (fun hy => ?_)
    · (try simp only [List.set_cons_zero, List.set_cons_succ])
      refine wp_ret (d := .int (q.2 : Nat)) (vf_fn rfl) rfl ?_
      show D.int _ = numD s p
      have e : q.1 = p := by simpa using hy
      have hu : isUp s p = true := by
        simp only [isUp, ups, List.contains_iff_mem, List.mem_map]
        exact ⟨q, hqm, e⟩
      have hm : q ∈ s.op.filter fun q => q.1 == p := List.mem_filter.mpr ⟨hqm, hy⟩
      rw [(h.numOf_mem hu).2] at hm
      have e2 : q = (p, numOf s p) := by simpa using hm
      unfold numD
      rw [if_pos hu, e2]
    · (try simp only [List.set_cons_zero, List.set_cons_succ])
      refine wp_nil ⟨⟨_, _, rfl, rfl, rfl⟩, fun j hj q' hq' => ?_⟩
      by_cases e : j = i
      · subst e
        rw [hq] at hq'
        cases hq'
        simpa using hy
      · exact hp2 j (by omega) q' hq'
  · rintro ρ' ⟨⟨s2, s3, f2, f3, rfl⟩, hp2⟩
    (try simp only [List.set_cons_zero, List.set_cons_succ])
    refine wp_ret vf_c rfl ?_
    (try first | with_reducible exact rtk_eq | with_reducible exact rtk_now | with_reducible exact rtk_now2)
    show D.non = numD s p
    have hu : ¬ isUp s p = true := fun hu => by
      obtain ⟨h1, _⟩ := h.numOf_mem hu
      obtain ⟨j, hj, e⟩ := List.mem_iff_getElem.mp h1
      exact hp2 j (by unfold opL; rw [List.length_map]; exact hj) _ (by rw [List.getElem?_eq_getElem hj, e]) rfl
    unfold numD
    rw [if_neg hu]
theorem num_up {p : Nat} (h : SOk ns s n) (hp : p < pn ns) (hu : isUp s p = true) : f_Store_number_of [soD ns s, nmD ns p] = some (.int (numOf s p : Nat)) := by rw [num_eq h hp, numD, if_pos hu]
theorem num_dn {p : Nat} (h : SOk ns s n) (hp : p < pn ns) (hu : isUp s p = false) : f_Store_number_of [soD ns s, nmD ns p] = some .non := by rw [num_eq h hp, numD, if_neg (by rw [hu]; decide)]
theorem slack_eq {a : List Nat} (h : SOk ns s n) : f_Store_lack [soD ns s, .str (tx a)] = some (.str (lackM s a)) := by
  refine fn_is rfl ?_
  unfold b_Store_lack
  show Wp _ [.fz (soD ns s), .fz (.str (tx a)), .emp, .emp] _
  (try simp only [List.set_cons_zero, List.set_cons_succ])
  refine wp_g (b := !(s.held.lookup a).isSome) (tf_v (vf_e2 (vf_fz rfl) (vf_fld (vf_fz rfl) (so_held ns s)) (nin_of (hd_in s a)))) (fun hb => ?_) (fun hb => ?_)
  · have hl : s.held.lookup a = none := by simpa using hb
    unfold lackM
    rw [hl]
    (try simp only [List.set_cons_zero, List.set_cons_succ])
    refine wp_now ?_
    (try simp only [List.set_cons_zero, List.set_cons_succ])
    refine wp_ret vf_c rfl ?_
    (try first | with_reducible exact rtk_eq | with_reducible exact rtk_now | with_reducible exact rtk_now2)
  obtain ⟨k, hi⟩ : ∃ i, s.held.lookup a = some i := by
    cases e : s.held.lookup a with
    | none => rw [e] at hb; cases hb
    | some i => exact ⟨i, rfl⟩
  have hlt := h.held_lt hi
  have hL : lackM s a = if (nums s).contains (homeM s k) = true then ("" : Str) else "gone" := by unfold lackM; rw [hi]
  rw [hL]
  (try simp only [List.set_cons_zero, List.set_cons_succ])
  refine wp_forS (m := .par) (ds := opL ns s) (fun i ρ => (∃ s2 s3, freeS s2 = true ∧ freeS s3 = true ∧ ρ = [.fz (soD ns s), .fz (.str (tx a)), s2, s3]) ∧ ∀ j, j < i → ∀ q, s.op[j]? = some q → q.2 ≠ homeM s k)
    (xe_seq (ve_fld (ve_fz rfl) (so_there ns s)) rfl) rfl ⟨⟨_, _, rfl, rfl, rfl⟩, fun j hj => absurd hj (by omega)⟩ ?_ ?_
  · rintro i d ρ hd ⟨⟨s2, s3, f2, f3, rfl⟩, hp2⟩
    obtain ⟨q, hq, rfl⟩ : ∃ q, s.op[i]? = some q ∧ d = upD ns q := by
      unfold opL at hd
      rw [List.getElem?_map] at hd
      cases e : s.op[i]? with
      | none => rw [e] at hd; cases hd
      | some q => rw [e] at hd; cases hd; exact ⟨q, rfl, rfl⟩
    have hqm := List.mem_of_getElem? hq
    (try simp only [List.set_cons_zero, List.set_cons_succ])
    refine sg_two rfl f2 rfl rfl f3 rfl ?_
    (try simp only [List.set_cons_zero, List.set_cons_succ])
    refine wp_if (b := (((q.2 : Nat) : Int) == ((homeM s k : Nat) : Int))) (tf_v (vf_e2 (vf_fn rfl) (vf_ix (vf_ix (vf_fld (vf_fz rfl) (so_worth ns s)) (vf_ix (vf_fld (vf_fz rfl) (so_held ns s)) (vf_fz rfl) (hd_ix hi)) (wt_ix hlt)) vf_c (wtD_1 _)) eq_int)) (fun hy => ?_) (fun hy => ?_)
    · have e0 : ((q.2 : Nat) : Int) = ((homeM s k : Nat) : Int) := by simpa using hy
      have e : q.2 = homeM s k := by omega
      have hc : (nums s).contains (homeM s k) = true := by
        simp only [nums, List.contains_iff_mem, List.mem_map]
        exact ⟨q, hqm, e⟩
      (try simp only [List.set_cons_zero, List.set_cons_succ])
      refine wp_ret vf_c rfl ?_
      show D.str "" = D.str _
      rw [if_pos hc]
    · (try simp only [List.set_cons_zero, List.set_cons_succ])
      refine wp_nil ⟨⟨_, _, rfl, rfl, rfl⟩, fun j hj q' hq' => ?_⟩
      by_cases e : j = i
      · subst e
        rw [hq] at hq'
        cases hq'
        have : ¬ ((q.2 : Nat) : Int) = ((homeM s k : Nat) : Int) := by simpa using hy
        omega
      · exact hp2 j (by omega) q' hq'
  · rintro ρ' ⟨⟨s2, s3, f2, f3, rfl⟩, hp2⟩
    (try simp only [List.set_cons_zero, List.set_cons_succ])
    refine wp_ret vf_c rfl ?_
    show D.str "gone" = D.str _
    have hu : ¬ (nums s).contains (homeM s k) = true := fun hu => by
      simp only [nums, List.contains_iff_mem, List.mem_map] at hu
      obtain ⟨q, h1, h2⟩ := hu
      obtain ⟨j, hj, e⟩ := List.mem_iff_getElem.mp h1
      exact hp2 j (by unfold opL; rw [List.length_map]; exact hj) q (by rw [List.getElem?_eq_getElem hj, e]) h2
    rw [if_neg hu]
theorem worth_eq {a : List Nat} {i : Nat} (h : SOk ns s n) (hi : s.held.lookup a = some i) : f_Store_worth_of [soD ns s, .str (tx a)] = some (.int (valM s i)) := by
  refine fn_is rfl ?_
  unfold b_Store_worth_of
  show Wp _ [.fz (soD ns s), .fz (.str (tx a))] _
  (try simp only [List.set_cons_zero, List.set_cons_succ])
  refine wp_ret (d := .int (valM s i)) (vf_ix (vf_ix (vf_fld (vf_fz rfl) (so_worth ns s)) (vf_ix (vf_fld (vf_fz rfl) (so_held ns s)) (vf_fz rfl) (hd_ix hi)) (wt_ix (h.held_lt hi))) vf_c (wtD_0 _)) rfl rfl
theorem init_eq (ns : List Int) : f_Store___init__ [.ins 0 [], .lst (plots ns)] = some (.non, [soD ns st0, .non]) := by
  refine fnc_is rfl ?_
  unfold b_Store___init__
  show Wp _ [.ow (D.ins 0 []), .fz (.lst (plots ns))] _
  (try simp only [List.set_cons_zero, List.set_cons_succ])
  refine wp_nx (se_fldY (ye_n (ne_lstc (af_cons (vf_fz rfl) af_nil) (plots_flat ns))) wy_n (wayD_of rfl rfl) (by repeat' (first | apply pf_len | decide)) (putW_of rfl rfl)) ?_
  (try simp only [List.set_cons_zero, List.set_cons_succ])
  refine wp_nx (se_fldY (ye_n (ne_lst ne_nil (by simp))) wy_n (wayD_of rfl rfl) (by repeat' (first | apply pf_len | decide)) (putW_of rfl rfl)) ?_
  (try simp only [List.set_cons_zero, List.set_cons_succ])
  refine wp_nx (se_fldY (ye_n (ne_lst ne_nil (by simp))) wy_n (wayD_of rfl rfl) (by repeat' (first | apply pf_len | decide)) (putW_of rfl rfl)) ?_
  (try simp only [List.set_cons_zero, List.set_cons_succ])
  refine wp_nx (se_fldY (ye_n ne_dic0) wy_n (wayD_of rfl rfl) (by repeat' (first | apply pf_len | decide)) (putW_of rfl rfl)) ?_
  (try simp only [List.set_cons_zero, List.set_cons_succ])
  refine wp_nx (se_fldY (ye_n (ne_lst ne_nil (by simp))) wy_n (wayD_of rfl rfl) (by repeat' (first | apply pf_len | decide)) (putW_of rfl rfl)) ?_
  (try simp only [List.set_cons_zero, List.set_cons_succ])
  refine wp_nx (se_fldY (ye_n (nf_flat vf_c rfl)) wy_n (wayD_of rfl rfl) (by repeat' (first | apply pf_len | decide)) (putW_of rfl rfl)) ?_
  exact wp_end (se_fldY (ye_n (ne_lst ne_nil (by simp))) wy_n (wayD_of rfl rfl) (by repeat' (first | apply pf_len | decide)) (putW_of rfl rfl)) ⟨_, rfl, rfl, rfl⟩
/-! ### the deeds upon the Store -/
theorem laid_up {a : List Nat} {p : Nat} {z : Int} (h : SOk ns s n) (hn : n ≤ 1000000) (hp : p < pn ns) (hu : isUp s p = true) :
    f_Store_laid [soD ns s, .str (tx a), nmD ns p, .int z] = some (.str "", [soD ns (deedM ns s (.lay a p z)), .non, .non, .non]) := by
  have hhl := h.hl
  have hwl := h.wl
  refine fnc_is rfl ?_
  unfold b_Store_laid
  show Wp _ [.ow (soD ns s), .fz (.str (tx a)), .fz (nmD ns p), .fz (.int z), .emp] _
  (try simp only [List.set_cons_zero, List.set_cons_succ])
  refine wp_nx (sf_set (d := .int (numOf s p : Nat)) (vf_meth (vf_ow rfl) (by kernel_rfl) (af_cons (vf_fz rfl) af_nil) (num_up h hp hu)) rfl rfl rfl) ?_
  (try simp only [List.set_cons_zero, List.set_cons_succ])
  refine wp_g (b := false) (tf_v (vf_e1 (vf_fn rfl) rfl)) (fun q => by cases q) (fun _ => ?_)
  (try simp only [List.set_cons_zero, List.set_cons_succ])
  refine wp_nx (se_appW (y := wtD (z, numOf s p)) (ρ' := [.ow (soD ns { s with worth := s.worth ++ [(z, numOf s p)] }), .fz (.str (tx a)), .fz (nmD ns p), .fz (.int z), .fn (.int (numOf s p : Nat))]) (wy_so ns s rfl) (wayD_of rfl (go_worth ns s)) (ne_lst (ds := [.int z, .int (numOf s p : Nat)]) (ne_cons (nf_flat (vf_fz rfl) rfl) (ne_cons (nf_flat (vf_fn rfl) rfl) ne_nil)) (by simp)) (by simp [wtL]; omega) ?_) ?_
  · rw [show wtL s ++ [wtD (z, numOf s p)] = (s.worth ++ [(z, numOf s p)]).map wtD by simp [wtL]]
    exact putW_of (d := soD ns s) rfl (ro_worth ns s _)
  (try simp only [List.set_cons_zero, List.set_cons_succ])
  refine wp_nx (se_sub (y := .int (s.worth.length : Nat)) (k := .str (tx a)) (z := .dic ((putA s.held a s.worth.length).map hdK)) (nf_flat ?_ rfl) (wy_so ns { s with worth := s.worth ++ [(z, numOf s p)] } rfl) (wayD_of rfl (go_held ns _)) (ve_fz rfl) (it_held (s := s) (by omega) a _) (putW_of (d := soD ns { s with worth := s.worth ++ [(z, numOf s p)] }) rfl (ro_held ns _ _))) ?_
  · refine vf_e2 (a := .int ((s.worth.length + 1 : Nat) : Int)) (vf_call (ds := [.lst (wtL { s with worth := s.worth ++ [(z, numOf s p)] })]) (af_cons (vf_fld (vf_ow rfl) (so_worth ns _)) af_nil) (by simp [lenD, wtL])) vf_c ?_
    rw [sub_int]
    congr 2
    omega
  exact wp_ret vf_c rfl ⟨_, rfl, rfl, rfl⟩
theorem laid_dn {a : List Nat} {p : Nat} {z : Int} (h : SOk ns s n) (hp : p < pn ns) (hu : isUp s p = false) :
    f_Store_laid [soD ns s, .str (tx a), nmD ns p, .int z] = some (.str "not open", [soD ns s, .non, .non, .non]) := by
  refine fnc_is rfl ?_
  unfold b_Store_laid
  show Wp _ [.ow (soD ns s), .fz (.str (tx a)), .fz (nmD ns p), .fz (.int z), .emp] _
  (try simp only [List.set_cons_zero, List.set_cons_succ])
  refine wp_nx (sf_set (d := .non) (vf_meth (vf_ow rfl) (by kernel_rfl) (af_cons (vf_fz rfl) af_nil) (num_dn h hp hu)) rfl rfl rfl) ?_
  (try simp only [List.set_cons_zero, List.set_cons_succ])
  refine wp_g (b := true) (tf_v (vf_e1 (vf_fn rfl) rfl)) (fun _ => ?_) (fun q => by cases q)
  (try simp only [List.set_cons_zero, List.set_cons_succ])
  refine wp_now ?_
  exact wp_ret vf_c rfl ⟨_, _, rfl, _, rfl, rfl, rfl⟩
/-- what a row leaves -/
noncomputable def stepM (ns : List Int) (s : Stt) (w : Rw) : Stt := if (wrongM ns s w == ("" : Str)) = true then deedM ns s w else s
theorem step_ok {w : Rw} (h : wrongM ns s w = "") : stepM ns s w = deedM ns s w := by unfold stepM; rw [h, if_pos (by decide +kernel)]
theorem step_no {w : Rw} (h : wrongM ns s w ≠ "") : stepM ns s w = s := by unfold stepM; rw [if_neg (by simpa using h)]
theorem lay_dn {a : List Nat} {p : Nat} {z : Int} (hp : isUp s p = false) : wrongM ns s (.lay a p z) = "not open" := by
  show (if (lackL s [] == ("" : Str)) = true then homeW s (.lay a p z) else lackL s []) = _
  rw [if_pos (by show (("" : Str) == "") = true; decide +kernel)]
  show (if (true && !isUp s p) = true then _ else if (false && !s.op.isEmpty) = true then _ else _) = _
  rw [hp]; rfl
theorem laid_eq {a : List Nat} {p : Nat} {z : Int} (h : SOk ns s n) (hn : n ≤ 1000000) (hp : p < pn ns) :
    f_Store_laid [soD ns s, .str (tx a), nmD ns p, .int z] = some (.str (wrongM ns s (.lay a p z)), [soD ns (stepM ns s (.lay a p z)), .non, .non, .non]) := by
  cases hu : isUp s p with
  | true => rw [laid_up h hn hp hu, step_ok (lay_wrong hu), lay_wrong hu]
  | false =>
    have e := lay_dn (ns := ns) (s := s) (a := a) (z := z) hu
    rw [laid_dn h hp hu, step_no (by rw [e]; exact str_ne.1), e]
end
end K04

namespace K04
open PySem L2 DL
section
variable {ns : List Int} {s : Stt} {n : Nat}
theorem lackL1 (s : Stt) (a : List Nat) : lackL s [a] = lackM s a := by
  rw [lackL]
  split
  · rename_i h
    have : lackM s a = "" := by simpa using h
    rw [this]; rfl
  · rfl
theorem wrong_of {w : Rw} (h1 : w.isOpn = false) (h2 : w.isSame = false) : wrongM ns s w = if (lackL s (lk w) == ("" : Str)) = true then homeW s w else lackL s (lk w) := by
  cases w with
  | opn p => cases h1
  | same a b => cases h2
  | _ => rfl
theorem begun_eq {p : Nat} (h : SOk ns s n) (hp : p < pn ns) : f_Store_begun [soD ns s, nmD ns p] = some (.str (wrongM ns s (.opn p)), [soD ns (stepM ns s (.opn p)), .non]) := by
  have hop := h.op_le
  refine fnc_is rfl ?_
  unfold b_Store_begun
  show Wp _ [.ow (soD ns s), .fz (nmD ns p), .emp] _
  cases hu : isUp s p with
  | true =>
    have e : wrongM ns s (.opn p) = "open already" := by
      show (if isUp s p = true then ("open already" : Str) else _) = _
      rw [if_pos hu]
    (try simp only [List.set_cons_zero, List.set_cons_succ])
    refine wp_g (b := true) (tf_v (vf_e1 (vf_meth (vf_ow rfl) (by kernel_rfl) (af_cons (vf_fz rfl) af_nil) (num_up h hp hu)) rfl)) (fun _ => ?_) (fun q => by cases q)
    (try simp only [List.set_cons_zero, List.set_cons_succ])
    refine wp_now ?_
    exact wp_ret vf_c rfl ⟨_, _, rfl, _, rfl, by rw [e], by rw [step_no (by rw [e]; exact str_ne.2.1)]⟩
  | false =>
    (try simp only [List.set_cons_zero, List.set_cons_succ])
    refine wp_g (b := false) (tf_v (vf_e1 (vf_meth (vf_ow rfl) (by kernel_rfl) (af_cons (vf_fz rfl) af_nil) (num_dn h hp hu)) rfl)) (fun q => by cases q) (fun _ => ?_)
    have hW : wrongM ns s (.opn p) = match ppar ns p with
      | none => ""
      | some j => if isUp s j = true then "" else "not open" := by
      show (if isUp s p = true then ("open already" : Str) else _) = _
      exact (if_neg (by rw [hu]; decide)).trans rfl
    (try simp only [List.set_cons_zero, List.set_cons_succ])
    refine wp_nx (sn_set (d := .lst (((chO ns (some p)).drop 1).take (2 - 1))) (vn_sl (vf_call (ds := [.lst (plots ns), nmD ns p]) (af_cons (vf_fld (vf_ow rfl) (so_plots ns s)) (af_cons (vf_fz rfl) af_nil)) (outward_eq ns p hp)) (of_some vf_c) (of_some vf_c) (sl_lst_lh (a := 1) (b := 2) rfl rfl (chO_flat ns _))) rfl rfl) ?_
    have tail : ∀ s2, wrongM ns s (.opn p) = "" → Wp (bSeq (sApp 0 (wFld 0 "there" 0 wN) (nFlat (eDisp .tup (aCons (eV 1) (aCons (eFld 0 "opened" (eV 0)) aNil)))))
        (bSeq (sFldA 0 "opened" 0 wN (eC (.int 1))) (sRet (eC (.str ""))))) [.ow (soD ns s), .fz (nmD ns p), s2] (RcK [true, false] fun c e => c = .str (wrongM ns s (.opn p)) ∧ e = [soD ns (stepM ns s (.opn p)), .non]) := by
      intro s2 e
      (try simp only [List.set_cons_zero, List.set_cons_succ])
      refine wp_nx (se_appW (y := upD ns (p, s.many)) (ρ' := [.ow (soD ns { s with op := s.op ++ [(p, s.many)] }), .fz (nmD ns p), s2]) (wy_so ns s rfl) (wayD_of rfl (go_there ns s)) (nf_flat (vf_disp (ds := [nmD ns p, .int (s.many : Nat)]) (af_cons (vf_fz rfl) (af_cons (vf_fld (vf_ow rfl) (so_opened ns s)) af_nil)) rfl (by simp)) rfl) (by simp [opL]; omega) ?_) ?_
      · rw [show opL ns s ++ [upD ns (p, s.many)] = (s.op ++ [(p, s.many)]).map (upD ns) by simp [opL]]
        exact putW_of (d := soD ns s) rfl (ro_there ns s _)
      (try simp only [List.set_cons_zero, List.set_cons_succ])
      refine wp_nx (se_fldA (ρ' := [.ow (soD ns { s with op := s.op ++ [(p, s.many)], many := s.many + 1 }), .fz (nmD ns p), s2]) (z := .int ((s.many + 1 : Nat) : Int)) wy_n (wayD_of rfl rfl) (so_opened ns { s with op := s.op ++ [(p, s.many)] }) vf_c rfl (by show 7 < 999; decide) (putW_of (d := soD ns { s with op := s.op ++ [(p, s.many)] }) rfl (po_opened ns _ _))) ?_
      exact wp_ret vf_c rfl ⟨_, rfl, by rw [e], by rw [step_ok e]; rfl⟩
    cases hq : ppar ns p with
    | none =>
      rw [hq] at hW
      rw [show ((chO ns (some p)).drop 1).take (2 - 1) = [] by rw [chO_some, hq]; rfl]
      (try simp only [List.set_cons_zero, List.set_cons_succ])
      refine wp_g (b := false) (te_and_f (tf_v (vf_e2 (vf_fn rfl) (vf_disp (mk := .lst) (ds := []) af_nil rfl (by simp)) (by rfl)))) (fun q => by cases q) (fun _ => ?_)
      exact tail _ hW
    | some j =>
      rw [hq] at hW
      have hj : j < pn ns := by have := ppar_lt ns hq; omega
      rw [show ((chO ns (some p)).drop 1).take (2 - 1) = [nmD ns j] by rw [chO_some, hq, chO_some]; rfl]
      have hne : neDD (.lst [nmD ns j]) (.lst []) = some (.bl true) := by
        have := (enc_nm ns).neNil (l := [j]) (by intro b hb; simp at hb; omega)
        exact this
      have hnum : ∀ ρ : Ev, ρ[0]? = some (.ow (soD ns s)) → ρ[2]? = some (.fn (.lst [nmD ns j])) → Vf (eMeth 0 "number_of" f_Store_number_of (eV 0) (aCons (eIx ixD (eV 2) (eC (.int 0))) aNil)) ρ (numD s j) := fun ρ r0 r2 =>
        vf_meth (vf_ow r0) (by kernel_rfl) (af_cons (vf_ix (vf_fn r2) vf_c rfl) af_nil) (num_eq h hj)
      cases huj : isUp s j with
      | true =>
        have e : wrongM ns s (.opn p) = "" := by rw [hW]; show (if isUp s j = true then ("" : Str) else "not open") = _; rw [huj]; rfl
        (try simp only [List.set_cons_zero, List.set_cons_succ])
        refine wp_g (b := false) (te_and_t (b := false) (tf_v (vf_e2 (vf_fn rfl) (vf_disp (mk := .lst) (ds := []) af_nil rfl (by simp)) hne)) (tf_v (vf_e1 (hnum _ rfl rfl) (by unfold numD; rw [if_pos huj]; rfl)))) (fun q => by cases q) (fun _ => ?_)
        exact tail _ e
      | false =>
        have e : wrongM ns s (.opn p) = "not open" := by rw [hW]; show (if isUp s j = true then ("" : Str) else "not open") = _; rw [huj]; rfl
        (try simp only [List.set_cons_zero, List.set_cons_succ])
        refine wp_g (b := true) (te_and_t (b := true) (tf_v (vf_e2 (vf_fn rfl) (vf_disp (mk := .lst) (ds := []) af_nil rfl (by simp)) hne)) (tf_v (vf_e1 (hnum _ rfl rfl) (by unfold numD; rw [if_neg (by rw [huj]; decide)]; rfl)))) (fun _ => ?_) (fun q => by cases q)
        (try simp only [List.set_cons_zero, List.set_cons_succ])
        refine wp_now ?_
        exact wp_ret vf_c rfl ⟨_, _, rfl, _, rfl, by rw [e], by rw [step_no (by rw [e]; exact str_ne.1)]⟩
theorem ce_so {i : Nat} {m : Str} {g : CF} {ρ : Ev} {as : List Ag} (h : ownD ρ i = some (soD ns s)) (hn : getF (soF ns s) m = none) (h2 : Ce g ρ as) : Ce (insC 0 m i g) ρ (.own i :: as) := ce_ins h hn h2
theorem ds_par {ρ : Ev} {d : D} {r : List Ag} {ds : List D} (h2 : dsOf ρ r = some ds) : dsOf ρ (.rd d .par :: r) = some (d :: ds) := by rw [dsOf, if_pos (by simp [notOwn]), h2]; rfl
theorem copied_eq {a b : List Nat} {p : Nat} (h : SOk ns s n) (hn : n ≤ 1000000) (hp : p < pn ns) :
    f_Store_copied [soD ns s, .str (tx a), .str (tx b), nmD ns p] = some (.str (wrongM ns s (.copy a b p)), [soD ns (stepM ns s (.copy a b p)), .non, .non, .non]) := by
  have hW : wrongM ns s (.copy a b p) = if (lackM s b == ("" : Str)) = true then homeW s (.copy a b p) else lackM s b := by
    rw [wrong_of rfl rfl]
    show (if (lackL s [b] == ("" : Str)) = true then _ else lackL s [b]) = _
    rw [lackL1]
  refine fnc_is rfl ?_
  unfold b_Store_copied
  show Wp _ [.ow (soD ns s), .fz (.str (tx a)), .fz (.str (tx b)), .fz (nmD ns p), .emp] _
  (try simp only [List.set_cons_zero, List.set_cons_succ])
  refine wp_nx (sf_set (d := .str (lackM s b)) (vf_meth (vf_ow rfl) (by kernel_rfl) (af_cons (vf_fz rfl) af_nil) (slack_eq h)) rfl rfl rfl) ?_
  (try simp only [List.set_cons_zero, List.set_cons_succ])
  refine wp_g (b := !(lackM s b == ("" : Str))) (tf_v (vf_e2 (vf_fn rfl) vf_c (eq_e _ (lack_ok s b)))) (fun hb => ?_) (fun hb => ?_)
  · have hb' : (lackM s b == ("" : Str)) = false := by simpa using hb
    rw [hb', if_neg (by decide)] at hW
    (try simp only [List.set_cons_zero, List.set_cons_succ])
    refine wp_now ?_
    exact wp_ret (vf_fn rfl) rfl ⟨_, _, rfl, _, rfl, by rw [hW], by rw [step_no (by rw [hW]; simpa using hb')]⟩
  · have hb' : lackM s b = "" := by simpa using hb
    rw [hb', if_pos (by decide +kernel)] at hW
    obtain ⟨i, hi, hi2, _⟩ := lack_some hb'
    have e1 : homeW s (.copy a b p) = wrongM ns s (.lay a p (valM s i)) := by
      rw [wrong_of rfl rfl]
      show _ = if (lackL s [] == ("" : Str)) = true then homeW s (.lay a p (valM s i)) else lackL s []
      rw [if_pos (by show (("" : Str) == "") = true; decide +kernel)]
      rfl
    have e2 : deedM ns s (.copy a b p) = deedM ns s (.lay a p (valM s i)) := by
      show ({ s with held := putA s.held a s.worth.length, worth := s.worth ++ [(valM s (heldI s b), numOf s p)] } : Stt) = { s with held := putA s.held a s.worth.length, worth := s.worth ++ [(valM s i, numOf s p)] }
      rw [hi2]
    have e3 : stepM ns s (.copy a b p) = stepM ns s (.lay a p (valM s i)) := by unfold stepM; rw [hW, e1, e2]
    rw [hW, e1, e3]
    (try simp only [List.set_cons_zero, List.set_cons_succ])
    refine wp_retM (vm_call (ce_so rfl (by kernel_rfl) (ce_rd (ve_fz rfl) (ce_rd (ve_fz rfl) (ce_rd (vn_meth (vf_ow rfl) (by kernel_rfl) (af_cons (vf_fz rfl) af_nil) (worth_eq h hi)) ce_nil)))) rfl (ds_own rfl (ds_par (ds_par (ds_new ds_nil)))) (laid_eq h hn hp) ((backC_one (i := 0) (j := 0) (s := .ow (soD ns s)) rfl rfl rfl rfl).trans rfl)) ⟨_, rfl, rfl, rfl⟩
theorem shared_eq {a b : List Nat} (h : SOk ns s n) (hn : n ≤ 1000000) :
    f_Store_shared [soD ns s, .str (tx a), .str (tx b)] = some (.str (wrongM ns s (.same a b)), [soD ns (stepM ns s (.same a b)), .non, .non]) := by
  have hhl := h.hl
  have hW : wrongM ns s (.same a b) = if (s.held.lookup b).isSome = true then ("" : Str) else "nothing" := rfl
  refine fnc_is rfl ?_
  unfold b_Store_shared
  show Wp _ [.ow (soD ns s), .fz (.str (tx a)), .fz (.str (tx b))] _
  (try simp only [List.set_cons_zero, List.set_cons_succ])
  refine wp_g (b := !(s.held.lookup b).isSome) (tf_v (vf_e2 (vf_fz rfl) (vf_fld (vf_ow rfl) (so_held ns s)) (nin_of (hd_in s b)))) (fun hb => ?_) (fun hb => ?_)
  · have hb' : (s.held.lookup b).isSome = false := by simpa using hb
    rw [hb', if_neg (by decide)] at hW
    (try simp only [List.set_cons_zero, List.set_cons_succ])
    refine wp_now ?_
    exact wp_ret vf_c rfl ⟨_, _, rfl, _, rfl, by rw [hW], by rw [step_no (by rw [hW]; exact str_ne.2.2.1)]⟩
  · have hb' : (s.held.lookup b).isSome = true := by simpa using hb
    rw [hb', if_pos rfl] at hW
    obtain ⟨i, hi⟩ := Option.isSome_iff_exists.mp hb'
    have hi2 : heldI s b = i := by unfold heldI; rw [hi]; rfl
    (try simp only [List.set_cons_zero, List.set_cons_succ])
    refine wp_nx (se_sub (y := .int (i : Nat)) (k := .str (tx a)) (z := .dic ((putA s.held a (heldI s b)).map hdK)) (nf_flat (vf_ix (vf_fld (vf_ow rfl) (so_held ns s)) (vf_fz rfl) (hd_ix hi)) rfl) (wy_so ns s rfl) (wayD_of rfl (go_held ns s)) (ve_fz rfl) (by rw [hi2]; exact it_held (by omega) a _) (putW_of (d := soD ns s) rfl (ro_held ns s _))) ?_
    exact wp_ret vf_c rfl ⟨_, rfl, by rw [hW], by rw [step_ok hW]; rfl⟩
theorem said_eq {a : List Nat} (h : SOk ns s n) (hn : n ≤ 1000000) :
    f_Store_said [soD ns s, .str (tx a)] = some (.str (wrongM ns s (.tell a)), [soD ns (stepM ns s (.tell a)), .non]) := by
  have htl := h.tl
  have hW : wrongM ns s (.tell a) = lackM s a := by
    rw [wrong_of rfl rfl]
    show (if (lackL s [a] == ("" : Str)) = true then _ else lackL s [a]) = _
    rw [lackL1]
    split
    · rename_i e
      have e : lackM s a = "" := by simpa using e
      rw [e]; rfl
    · rfl
  refine fnc_is rfl ?_
  unfold b_Store_said
  show Wp _ [.ow (soD ns s), .fz (.str (tx a)), .emp] _
  (try simp only [List.set_cons_zero, List.set_cons_succ])
  refine wp_nx (sf_set (d := .str (lackM s a)) (vf_meth (vf_ow rfl) (by kernel_rfl) (af_cons (vf_fz rfl) af_nil) (slack_eq h)) rfl rfl rfl) ?_
  by_cases hb : lackM s a = ""
  · obtain ⟨i, hi, hi2, _⟩ := lack_some hb
    have hW' := hW.trans hb
    (try simp only [List.set_cons_zero, List.set_cons_succ])
    refine wp_nx (se_if_t (b := true) (tf_v (vf_e2 (vf_fn rfl) vf_c (by rw [eq_e2 _ (lack_ok s a), hb]; rfl))) rfl (se_appW (y := .int (valM s i)) (ρ' := [.ow (soD ns { s with told := s.told ++ [valM s i] }), .fz (.str (tx a)), .fn (.str (lackM s a))]) (wy_so ns s rfl) (wayD_of rfl (go_told ns s)) (nf_flat (vf_meth (vf_ow rfl) (by kernel_rfl) (af_cons (vf_fz rfl) af_nil) (worth_eq h hi)) rfl) (by simp [tdL]; omega) ?_)) ?_
    · rw [show tdL s ++ [D.int (valM s i)] = (s.told ++ [valM s i]).map D.int by simp [tdL]]
      exact putW_of (d := soD ns s) rfl (ro_told ns s _)
    (try simp only [List.set_cons_zero, List.set_cons_succ])
    refine wp_ret (vf_fn rfl) rfl ⟨_, rfl, by rw [hW], ?_⟩
    rw [step_ok hW']
    show _ = [soD ns { s with told := s.told ++ [valM s (heldI s a)] }, _]
    rw [hi2]
  · (try simp only [List.set_cons_zero, List.set_cons_succ])
    refine wp_nx (se_if_f (b := false) (tf_v (vf_e2 (vf_fn rfl) vf_c (by rw [eq_e2 _ (lack_ok s a)]; simpa using hb))) rfl se_nil) ?_
    exact wp_ret (vf_fn rfl) rfl ⟨_, rfl, by rw [hW], by rw [step_no (by rw [hW]; exact hb)]⟩
end
end K04

namespace K04
open PySem L2 DL
section
variable {ns : List Int} {s : Stt} {n : Nat}
theorem grown_eq {a b : List Nat} (h : SOk ns s n) :
    f_Store_grown [soD ns s, .str (tx a), .str (tx b)] = some (.str (wrongM ns s (.add a b)), [soD ns (stepM ns s (.add a b)), .non, .non]) := by
  have hW : wrongM ns s (.add a b) = lackL s [a, b] := by
    rw [wrong_of rfl rfl]
    show (if (lackL s [a, b] == ("" : Str)) = true then _ else lackL s [a, b]) = _
    split
    · rename_i e
      have e : lackL s [a, b] = "" := by simpa using e
      rw [e]; rfl
    · rfl
  refine fnc_is rfl ?_
  unfold b_Store_grown
  show Wp _ [.ow (soD ns s), .fz (.str (tx a)), .fz (.str (tx b)), .emp, .emp] _
  (try simp only [List.set_cons_zero, List.set_cons_succ])
  refine wp_forS (m := .new) (ds := [.str (tx a), .str (tx b)]) (fun i ρ => (∃ s3 s4, freeS s3 = true ∧ freeS s4 = true ∧ ρ = [.ow (soD ns s), .fz (.str (tx a)), .fz (.str (tx b)), s3, s4]) ∧ ∀ j, j < i → ∀ c, [a, b][j]? = some c → lackM s c = "")
    (xe_seq (vn_disp (mk := .tup) (ds := [.str (tx a), .str (tx b)]) (af_cons (vf_fz rfl) (af_cons (vf_fz rfl) af_nil)) rfl (by simp)) rfl) rfl ⟨⟨_, _, rfl, rfl, rfl⟩, fun j hj => absurd hj (by omega)⟩ ?_ ?_
  · rintro i d ρ hd ⟨⟨s3, s4, f3, f4, rfl⟩, hp⟩
    obtain ⟨c, hc, rfl⟩ : ∃ c, [a, b][i]? = some c ∧ d = .str (tx c) := by
      match i with
      | 0 => cases hd; exact ⟨a, rfl, rfl⟩
      | 1 => cases hd; exact ⟨b, rfl, rfl⟩
      | i + 2 => simp at hd
    (try simp only [List.set_cons_zero, List.set_cons_succ])
    refine sg_flat rfl f3 rfl ?_
    (try simp only [List.set_cons_zero, List.set_cons_succ])
    refine wp_nx (sf_set (d := .str (lackM s c)) (vf_meth (vf_ow rfl) (by kernel_rfl) (af_cons (vf_fn rfl) af_nil) (slack_eq h)) rfl f4 rfl) ?_
    (try simp only [List.set_cons_zero, List.set_cons_succ])
    refine wp_if (b := !(lackM s c == ("" : Str))) (tf_v (vf_e2 (vf_fn rfl) vf_c (eq_e _ (lack_ok s c)))) (fun hy => ?_) (fun hy => ?_)
    · have hy' : (lackM s c == ("" : Str)) = false := by simpa using hy
      have e := hW.trans (lackL_skip hp hc hy')
      exact wp_ret (vf_fn rfl) rfl ⟨_, rfl, by rw [e], by rw [step_no (by rw [e]; simpa using hy')]⟩
    · (try simp only [List.set_cons_zero, List.set_cons_succ])
      refine wp_nil ⟨⟨_, _, rfl, rfl, rfl⟩, fun j hj c' hc' => ?_⟩
      by_cases q : j = i
      · subst q
        rw [hc] at hc'
        cases hc'
        simpa using hy
      · exact hp j (by omega) c' hc'
  · rintro ρ' ⟨⟨s3, s4, f3, f4, rfl⟩, hp⟩
    have hL : lackL s [a, b] = "" := lackL_all fun j hj c hc => hp j hj c hc
    have e := hW.trans hL
    have g1 := lackL_mem hL
    obtain ⟨i, hi, hi2, _⟩ := lack_some (g1 a (by simp))
    obtain ⟨j, hj, hj2, _⟩ := lack_some (g1 b (by simp))
    have hlt := h.held_lt hi
    have hix : (wtL s)[i]? = some (wtD (valM s i, homeM s i)) := by
      unfold wtL valM homeM
      rw [List.getElem?_map, List.getD_eq_getElem?_getD, List.getElem?_eq_getElem hlt]; rfl
    have hw2 : dgets (soD ns s) [.fd "worth", .ix i] = some (wtD (valM s i, homeM s i)) := by
      show (dgets (soD ns s) [.fd "worth"]).bind (fun e => (dget e (.ix i)).bind fun e => some e) = _
      rw [go_worth]
      show ((wtL s)[i]?).bind some = _
      rw [hix]; rfl
    have hst : soD ns (stepM ns s (.add a b)) = soD ns { s with worth := s.worth.set i (valM s i + valM s j, homeM s i) } := by
      rw [step_ok e]
      show soD ns { s with worth := s.worth.set (heldI s a) (valM s (heldI s a) + valM s (heldI s b), homeM s (heldI s a)) } = _
      rw [hi2, hj2]
    (try simp only [List.set_cons_zero, List.set_cons_succ])
    refine wp_nx (se_augP (p := [.fd "worth", .ix i]) (k := .int 0) (b := .int (valM s j)) (wy_ix (p := [.fd "worth"]) (wy_so ns s rfl) (wayD_of rfl (go_worth ns s)) (vf_ix (vf_fld (vf_ow rfl) (so_held ns s)) (vf_fz rfl) (hd_ix hi)) (s := .ix i) ?_) (wayD_of rfl hw2) vf_c (wtD_0 _) (vf_meth (vf_ow rfl) (by kernel_rfl) (af_cons (vf_fz rfl) af_nil) (worth_eq h hj)) rfl (d' := wtD (valM s i + valM s j, homeM s i)) rfl
      (ρ' := [.ow (soD ns { s with worth := s.worth.set i (valM s i + valM s j, homeM s i) }), .fz (.str (tx a)), .fz (.str (tx b)), s3, s4]) ?_) ?_
    · show (ixN (wtL s).length (i : Int)).map _ = _
      rw [ixN_lt (by simpa [wtL] using hlt)]; rfl
    · refine putW_of (d := soD ns s) rfl ?_
      show (match dget (soD ns s) (.fd "worth") with
        | some e => drep (soD ns s) (.fd "worth") (dreps e [.ix i] (wtD (valM s i + valM s j, homeM s i)))
        | none => soD ns s) = _
      have e1 : dget (soD ns s) (.fd "worth") = some (.lst (wtL s)) := by kernel_rfl
      rw [e1]
      show drep (soD ns s) (.fd "worth") (match dget (.lst (wtL s)) (.ix i) with
        | some e => drep (.lst (wtL s)) (.ix i) (wtD (valM s i + valM s j, homeM s i))
        | none => .lst (wtL s)) = _
      rw [show dget (.lst (wtL s)) (.ix i) = some (wtD (valM s i, homeM s i)) from hix]
      show drep (soD ns s) (.fd "worth") (.lst ((wtL s).set i (wtD (valM s i + valM s j, homeM s i)))) = _
      rw [show (wtL s).set i (wtD (valM s i + valM s j, homeM s i)) = (s.worth.set i (valM s i + valM s j, homeM s i)).map wtD by unfold wtL; rw [List.map_set]]
      exact ro_worth ns s _
    exact wp_ret vf_c rfl ⟨_, rfl, by rw [e], by rw [hst]⟩
def quiet (t : Sl) : Prop := t = .emp ∨ ∃ d, t = .fn d
theorem quiet_free {t : Sl} (h : quiet t) : freeS t = true := by
  rcases h with rfl | ⟨d, rfl⟩ <;> rfl
theorem gone_eq {p : Nat} (h : SOk ns s n) (hn : n ≤ 1000000) (hp : p < pn ns) :
    f_Store_gone [soD ns s, nmD ns p] = some (.str (wrongM ns s (.give p)), [soD ns (stepM ns s (.give p)), .non]) := by
  have hop := h.op_le
  have hgl : s.given.length ≤ s.many := by
    have := h.perm.length_eq
    simp at this
    omega
  have hml := h.ml
  have hW : wrongM ns s (.give p) = if isUp s p = true then ("" : Str) else "not open" := by
    rw [wrong_of rfl rfl]
    show (if (lackL s [] == ("" : Str)) = true then homeW s (.give p) else lackL s []) = _
    rw [if_pos (by show (("" : Str) == "") = true; decide +kernel)]
    show (if (true && !isUp s p) = true then _ else if (false && !s.op.isEmpty) = true then _ else _) = _
    cases isUp s p <;> rfl
  refine fnc_is rfl ?_
  unfold b_Store_gone
  show Wp _ [.ow (soD ns s), .fz (nmD ns p), .emp, .emp, .emp, .emp] _
  cases hu : isUp s p with
  | false =>
    rw [hu, if_neg (by decide)] at hW
    (try simp only [List.set_cons_zero, List.set_cons_succ])
    refine wp_g (b := true) (tf_v (vf_e1 (vf_meth (vf_ow rfl) (by kernel_rfl) (af_cons (vf_fz rfl) af_nil) (num_dn h hp hu)) rfl)) (fun _ => ?_) (fun q => by cases q)
    (try simp only [List.set_cons_zero, List.set_cons_succ])
    refine wp_now ?_
    exact wp_ret vf_c rfl ⟨_, _, rfl, _, rfl, by rw [hW], by rw [step_no (by rw [hW]; exact str_ne.1)]⟩
  | true =>
    rw [hu, if_pos rfl] at hW
    (try simp only [List.set_cons_zero, List.set_cons_succ])
    refine wp_g (b := false) (tf_v (vf_e1 (vf_meth (vf_ow rfl) (by kernel_rfl) (af_cons (vf_fz rfl) af_nil) (num_up h hp hu)) rfl)) (fun q => by cases q) (fun _ => ?_)
    (try simp only [List.set_cons_zero, List.set_cons_succ])
    refine wp_nx (se_setN (ne_lst ne_nil (by simp)) rfl rfl) ?_
    (try simp only [List.set_cons_zero, List.set_cons_succ])
    refine wp_nx (se_setN (ne_lst ne_nil (by simp)) rfl rfl) ?_
    (try simp only [List.set_cons_zero, List.set_cons_succ])
    (try simp only [List.set_cons_zero, List.set_cons_succ])
    refine wp_mid (fun ρ => ∃ s4 s5, quiet s4 ∧ quiet s5 ∧ ρ = [.ow (soD ns s), .fz (nmD ns p), .on (.lst ((s.op.filter fun q => !inOut ns p q.1).map (upD ns))), .on (.lst ((s.op.filter fun q => inOut ns p q.1).map fun q => D.int (q.2 : Nat))), s4, s5]) (wp_lock rfl ?_) ?_
    · (try simp only [List.set_cons_zero, List.set_cons_succ])
      refine wp_for (m := .par) (ds := opL ns s) (fun i ρ => ∃ s4 s5, quiet s4 ∧ quiet s5 ∧ ρ = [.fz (soD ns s), .fz (nmD ns p), .on (.lst (((s.op.take i).filter fun q => !inOut ns p q.1).map (upD ns))), .on (.lst (((s.op.take i).filter fun q => inOut ns p q.1).map fun q => D.int (q.2 : Nat))), s4, s5])
        (xe_seq (ve_fld (ve_fz rfl) (so_there ns s)) rfl) rfl ⟨_, _, .inl rfl, .inl rfl, rfl⟩ ?_ ?_
      · rintro i d ρ hd ⟨s4, s5, f4, f5, rfl⟩
        obtain ⟨q, hq, rfl⟩ : ∃ q, s.op[i]? = some q ∧ d = upD ns q := by
          unfold opL at hd
          rw [List.getElem?_map] at hd
          cases e : s.op[i]? with
          | none => rw [e] at hd; cases hd
          | some q => rw [e] at hd; cases hd; exact ⟨q, rfl, rfl⟩
        have hqm := List.mem_of_getElem? hq
        have hql := h.lt q hqm
        have hi : i < s.op.length := (List.getElem?_eq_some_iff.mp hq).1
        have htk : s.op.take (i + 1) = s.op.take i ++ [q] := by
          rw [List.take_succ, hq]; rfl
        have hlen : ∀ f : Nat × Nat → Bool, ((s.op.take i).filter f).length ≤ 12 := fun f => by
          have := List.length_filter_le f (s.op.take i)
          have := List.length_take_le i s.op
          simp only [List.length_take] at *
          omega
        (try simp only [List.set_cons_zero, List.set_cons_succ])
        refine sg_two rfl (quiet_free f4) rfl rfl (quiet_free f5) rfl ?_
        (try simp only [List.set_cons_zero, List.set_cons_succ])
        refine wp_if (b := inOut ns p q.1) (tf_v (vf_e2 (vf_fz rfl) (vf_call (ds := [.lst (plots ns), nmD ns q.1]) (af_cons (vf_fld (vf_fz rfl) (so_plots ns s)) (af_cons (vf_fn rfl) af_nil)) (outward_eq ns q.1 hql)) (in_of (in_chO ns hp hql)))) (fun hy => ?_) (fun hy => ?_)
        · (try simp only [List.set_cons_zero, List.set_cons_succ])
          refine wp_end (se_app rfl (way_on0 rfl) (nf_flat (vf_fn (d := .int (q.2 : Nat)) rfl) rfl) (by rw [List.length_map]; have := hlen fun q => inOut ns p q.1; omega) (put_on0 rfl)) ⟨.fn (nmD ns q.1), .fn (.int (q.2 : Nat)), .inr ⟨_, rfl⟩, .inr ⟨_, rfl⟩, ?_⟩
          rw [htk, List.filter_append, List.filter_append]
          simp [hy]
        · (try simp only [List.set_cons_zero, List.set_cons_succ])
          refine wp_end (se_app rfl (way_on0 rfl) (nf_flat (vf_disp (mk := .tup) (ds := [nmD ns q.1, .int (q.2 : Nat)]) (af_cons (vf_fn rfl) (af_cons (vf_fn rfl) af_nil)) rfl (by simp)) rfl) (by rw [List.length_map]; have := hlen fun q => !inOut ns p q.1; omega) (put_on0 rfl)) ⟨.fn (nmD ns q.1), .fn (.int (q.2 : Nat)), .inr ⟨_, rfl⟩, .inr ⟨_, rfl⟩, ?_⟩
          rw [htk, List.filter_append, List.filter_append]
          simp [hy, upD]
      · rintro ρ' ⟨s4, s5, f4, f5, rfl⟩
        have hL : (opL ns s).length = s.op.length := by simp [opL]
        rw [hL, List.take_length]
        refine ⟨?_, rfl, _, rfl, s4, s5, f4, f5, rfl⟩
        show relL [.fz (soD ns s), .fz (nmD ns p), _, _, _, _] [.fz (soD ns s), .fz (nmD ns p), _, _, s4, s5]
        refine ⟨rfl, rfl, trivial, trivial, ?_, ?_, trivial⟩
        · rcases f4 with rfl | ⟨d, rfl⟩ <;> trivial
        · rcases f5 with rfl | ⟨d, rfl⟩ <;> trivial
    · rintro ρ' ⟨s4, s5, f4, f5, rfl⟩
      have hlg : ((s.op.filter fun q => inOut ns p q.1).map fun q : Nat × Nat => D.int (q.2 : Nat)).length ≤ 12 := by
        rw [List.length_map]
        have := List.length_filter_le (fun q : Nat × Nat => inOut ns p q.1) s.op
        omega
      have hfl : flats ((s.op.filter fun q => inOut ns p q.1).map fun q : Nat × Nat => D.int (q.2 : Nat)) = true := flats_map (fun _ => rfl) _
      have hy1 : Ye (yMv 2) [.ow (soD ns s), .fz (nmD ns p), .on (.lst ((s.op.filter fun q => !inOut ns p q.1).map (upD ns))), .on (.lst ((s.op.filter fun q => inOut ns p q.1).map fun q => D.int (q.2 : Nat))), s4, s5] (.lst ((s.op.filter fun q => !inOut ns p q.1).map (upD ns))) [.ow (soD ns s), .fz (nmD ns p), .emp, .on (.lst ((s.op.filter fun q => inOut ns p q.1).map fun q => D.int (q.2 : Nat))), s4, s5] := ye_mv rfl
      have hy2 : putW [.ow (soD ns s), .fz (nmD ns p), .emp, .on (.lst ((s.op.filter fun q => inOut ns p q.1).map fun q => D.int (q.2 : Nat))), s4, s5] 0 [] (.ins 0 (putFD "there" (.lst ((s.op.filter fun q => !inOut ns p q.1).map (upD ns))) (soF ns s))) = some [.ow (soD ns { s with op := s.op.filter fun q => !inOut ns p q.1 }), .fz (nmD ns p), .emp, .on (.lst ((s.op.filter fun q => inOut ns p q.1).map fun q => D.int (q.2 : Nat))), s4, s5] := by
        rw [po_there]
        rfl
      have hy3 : wayD [.ow (soD ns s), .fz (nmD ns p), .emp, .on (.lst ((s.op.filter fun q => inOut ns p q.1).map fun q => D.int (q.2 : Nat))), s4, s5] 0 [] = some (.ins 0 (soF ns s)) := rfl
      (try simp only [List.set_cons_zero, List.set_cons_succ])
      refine wp_nx (se_fldY hy1 wy_n hy3 (by show 7 < 1000; decide) hy2) ?_
      have hrev : revD (.lst ((s.op.filter fun q => inOut ns p q.1).map fun q : Nat × Nat => D.int (q.2 : Nat))) = some (.lst ((((s.op.filter fun q => inOut ns p q.1).map (·.2)).reverse).map fun k : Nat => D.int k)) := by
        show (if flats _ = true then some (D.lst (List.reverse _)) else none) = _
        rw [if_pos hfl]
        congr 2
        rw [List.map_reverse, List.map_map]; rfl
      (try simp only [List.set_cons_zero, List.set_cons_succ])
      refine wp_nx (se_ext (ρ' := [.ow (soD ns (deedM ns s (.give p))), .fz (nmD ns p), .emp, .on (.lst ((s.op.filter fun q => inOut ns p q.1).map fun q => D.int (q.2 : Nat))), s4, s5]) (wy_so ns { s with op := s.op.filter fun q => !inOut ns p q.1 } rfl) (wayD_of rfl (go_given ns _)) (ve_e1 (ve_on rfl) hrev) (flats_map (fun _ => rfl) _) ?_ ?_) ?_
      · rw [List.length_map, List.length_reverse, List.length_map]
        rw [List.length_map] at hlg
        show (s.given.map _).length + _ ≤ _
        rw [List.length_map]
        omega
      · rw [show gvL { s with op := s.op.filter fun q => !inOut ns p q.1 } ++ (((s.op.filter fun q => inOut ns p q.1).map (·.2)).reverse).map (fun k : Nat => D.int k) = (s.given ++ ((s.op.filter fun q => inOut ns p q.1).map (·.2)).reverse).map fun k : Nat => D.int k by simp [gvL]]
        exact putW_of (d := soD ns { s with op := s.op.filter fun q => !inOut ns p q.1 }) rfl (ro_given ns _ _)
      exact wp_ret vf_c rfl ⟨_, rfl, by rw [hW], by rw [step_ok hW]⟩
def Rw.isGo : Rw → Bool | .fork _ => true | .go _ => true | _ => false
theorem do_eq {l : List (List Nat)} {w : Rw} (h : SOk ns s n) (hn : n ≤ 1000000) (hw : RwOk ns l w) (hg : w.isGo = false) :
    f_Store_do [soD ns s, rwD ns w] = some (.str (wrongM ns s w), [soD ns (stepM ns s w), .non]) := by
  have hb : ∀ {e : D} {s' : Stt} {r : List D} {as : List Ag} {r2 : Ev}, ixOf (.own 0 :: as) 0 = some 0 → osl (.own 0 :: as) = [0] → backC (.ow (soD ns s) :: r2) (.own 0 :: as) (soD ns s' :: r) = .ow (soD ns s') :: r2 := fun a b => (backC_one (i := 0) (j := 0) (s := .ow (soD ns s)) rfl a b rfl).trans rfl
  refine fnc_is rfl ?_
  unfold b_Store_do
  show Wp _ [.ow (soD ns s), .fz (rwD ns w), .emp] _
  (try simp only [List.set_cons_zero, List.set_cons_succ])
  refine wp_nx (sf_set (d := .str w.tag) (vf_ix (vf_fz rfl) vf_c (rwD_tag ns w)) rfl rfl rfl) ?_
  (try simp only [List.set_cons_zero, List.set_cons_succ])
  cases w with
  | opn p =>
    (try simp only [List.set_cons_zero, List.set_cons_succ])
    refine wp_g (b := true) (tf_v (vf_e2 (vf_fn rfl) vf_c (tg _ (by decide +kernel) (by kernel_rfl)))) (fun _ => ?_) (fun q => by cases q)
    (try simp only [List.set_cons_zero, List.set_cons_succ])
    refine wp_now (wp_retM (vm_call (ce_so rfl (by kernel_rfl) (ce_rd (ve_ix (ve_fz rfl) ve_c rfl) ce_nil)) rfl (ds_own rfl (ds_new ds_nil)) (begun_eq h hw) (hb (e := .non) rfl rfl)) ⟨_, _, rfl, _, rfl, rfl, rfl⟩)
  | lay a p z =>
    (try simp only [List.set_cons_zero, List.set_cons_succ])
    refine wp_g (b := false) (tf_v (vf_e2 (vf_fn rfl) vf_c (tg _ (by decide +kernel) (by kernel_rfl)))) (fun q => by cases q) (fun _ => ?_)
    (try simp only [List.set_cons_zero, List.set_cons_succ])
    refine wp_g (b := true) (tf_v (vf_e2 (vf_fn rfl) vf_c (tg _ (by decide +kernel) (by kernel_rfl)))) (fun _ => ?_) (fun q => by cases q)
    (try simp only [List.set_cons_zero, List.set_cons_succ])
    refine wp_now (wp_retM (vm_call (ce_so rfl (by kernel_rfl) (ce_rd (ve_ix (ve_fz rfl) ve_c rfl) (ce_rd (ve_ix (ve_fz rfl) ve_c rfl) (ce_rd (ve_ix (ve_fz rfl) ve_c rfl) ce_nil)))) rfl (ds_own rfl (ds_new (ds_new (ds_new ds_nil)))) (laid_eq h hn hw.2) (hb (e := .non) rfl rfl)) ⟨_, _, rfl, _, rfl, rfl, rfl⟩)
  | copy a b p =>
    iterate 2 refine wp_g (b := false) (tf_v (vf_e2 (vf_fn rfl) vf_c (tg _ (by decide +kernel) (by kernel_rfl)))) (fun q => by cases q) (fun _ => ?_)
    (try simp only [List.set_cons_zero, List.set_cons_succ])
    refine wp_g (b := true) (tf_v (vf_e2 (vf_fn rfl) vf_c (tg _ (by decide +kernel) (by kernel_rfl)))) (fun _ => ?_) (fun q => by cases q)
    (try simp only [List.set_cons_zero, List.set_cons_succ])
    refine wp_now (wp_retM (vm_call (ce_so rfl (by kernel_rfl) (ce_rd (ve_ix (ve_fz rfl) ve_c rfl) (ce_rd (ve_ix (ve_fz rfl) ve_c rfl) (ce_rd (ve_ix (ve_fz rfl) ve_c rfl) ce_nil)))) rfl (ds_own rfl (ds_new (ds_new (ds_new ds_nil)))) (copied_eq h hn hw.2.2) (hb (e := .non) rfl rfl)) ⟨_, _, rfl, _, rfl, rfl, rfl⟩)
  | same a b =>
    iterate 3 refine wp_g (b := false) (tf_v (vf_e2 (vf_fn rfl) vf_c (tg _ (by decide +kernel) (by kernel_rfl)))) (fun q => by cases q) (fun _ => ?_)
    (try simp only [List.set_cons_zero, List.set_cons_succ])
    refine wp_g (b := true) (tf_v (vf_e2 (vf_fn rfl) vf_c (tg _ (by decide +kernel) (by kernel_rfl)))) (fun _ => ?_) (fun q => by cases q)
    (try simp only [List.set_cons_zero, List.set_cons_succ])
    refine wp_now (wp_retM (vm_call (ce_so rfl (by kernel_rfl) (ce_rd (ve_ix (ve_fz rfl) ve_c rfl) (ce_rd (ve_ix (ve_fz rfl) ve_c rfl) ce_nil))) rfl (ds_own rfl (ds_new (ds_new ds_nil))) (shared_eq h hn) (hb (e := .non) rfl rfl)) ⟨_, _, rfl, _, rfl, rfl, rfl⟩)
  | add a b =>
    iterate 4 refine wp_g (b := false) (tf_v (vf_e2 (vf_fn rfl) vf_c (tg _ (by decide +kernel) (by kernel_rfl)))) (fun q => by cases q) (fun _ => ?_)
    (try simp only [List.set_cons_zero, List.set_cons_succ])
    refine wp_g (b := true) (tf_v (vf_e2 (vf_fn rfl) vf_c (tg _ (by decide +kernel) (by kernel_rfl)))) (fun _ => ?_) (fun q => by cases q)
    (try simp only [List.set_cons_zero, List.set_cons_succ])
    refine wp_now (wp_retM (vm_call (ce_so rfl (by kernel_rfl) (ce_rd (ve_ix (ve_fz rfl) ve_c rfl) (ce_rd (ve_ix (ve_fz rfl) ve_c rfl) ce_nil))) rfl (ds_own rfl (ds_new (ds_new ds_nil))) (grown_eq h) (hb (e := .non) rfl rfl)) ⟨_, _, rfl, _, rfl, rfl, rfl⟩)
  | tell a =>
    iterate 5 refine wp_g (b := false) (tf_v (vf_e2 (vf_fn rfl) vf_c (tg _ (by decide +kernel) (by kernel_rfl)))) (fun q => by cases q) (fun _ => ?_)
    (try simp only [List.set_cons_zero, List.set_cons_succ])
    refine wp_g (b := true) (tf_v (vf_e2 (vf_fn rfl) vf_c (tg _ (by decide +kernel) (by kernel_rfl)))) (fun _ => ?_) (fun q => by cases q)
    (try simp only [List.set_cons_zero, List.set_cons_succ])
    refine wp_now (wp_retM (vm_call (ce_so rfl (by kernel_rfl) (ce_rd (ve_ix (ve_fz rfl) ve_c rfl) ce_nil)) rfl (ds_own rfl (ds_new ds_nil)) (said_eq h hn) (hb (e := .non) rfl rfl)) ⟨_, _, rfl, _, rfl, rfl, rfl⟩)
  | give p =>
    iterate 6 refine wp_g (b := false) (tf_v (vf_e2 (vf_fn rfl) vf_c (tg _ (by decide +kernel) (by kernel_rfl)))) (fun q => by cases q) (fun _ => ?_)
    (try simp only [List.set_cons_zero, List.set_cons_succ])
    refine wp_g (b := true) (tf_v (vf_e2 (vf_fn rfl) vf_c (tg _ (by decide +kernel) (by kernel_rfl)))) (fun _ => ?_) (fun q => by cases q)
    (try simp only [List.set_cons_zero, List.set_cons_succ])
    refine wp_now (wp_retM (vm_call (ce_so rfl (by kernel_rfl) (ce_rd (ve_ix (ve_fz rfl) ve_c rfl) ce_nil)) rfl (ds_own rfl (ds_new ds_nil)) (gone_eq h hn hw) (hb (e := .non) rfl rfl)) ⟨_, _, rfl, _, rfl, rfl, rfl⟩)
  | fork k => cases hg
  | go k => cases hg
  | fin =>
    iterate 7 refine wp_g (b := false) (tf_v (vf_e2 (vf_fn rfl) vf_c (tg _ (by decide +kernel) (by kernel_rfl)))) (fun q => by cases q) (fun _ => ?_)
    have hW : wrongM ns s .fin = if (!s.op.isEmpty) = true then ("left" : Str) else "" := by
      rw [wrong_of rfl rfl]
      show (if (lackL s [] == ("" : Str)) = true then homeW s .fin else lackL s []) = _
      rw [if_pos (by show (("" : Str) == "") = true; decide +kernel)]
      show (if (false && _) = true then _ else if (true && !s.op.isEmpty) = true then _ else _) = _
      cases s.op.isEmpty <;> rfl
    have hS : stepM ns s .fin = s := by
      unfold stepM
      split <;> rfl
    rw [hS]
    have hne : neDD (.lst (opL ns s)) (.lst []) = some (.bl (!s.op.isEmpty)) := by
      have := (enc_pair (enc_nm ns) enc_nat).neNil (l := s.op) (fun q hq => ⟨h.lt q hq, trivial⟩)
      exact this
    (try simp only [List.set_cons_zero, List.set_cons_succ])
    refine wp_g (b := !s.op.isEmpty) (tf_v (vf_e2 (vf_fld (vf_ow rfl) (so_there ns s)) (vf_disp (mk := .lst) (ds := []) af_nil rfl (by simp)) hne)) (fun hy => ?_) (fun hy => ?_)
    · rw [hy, if_pos rfl] at hW
      (try simp only [List.set_cons_zero, List.set_cons_succ])
      refine wp_now ?_
      exact wp_ret vf_c rfl ⟨_, _, rfl, _, rfl, by rw [hW], rfl⟩
    · rw [hy, if_neg (by decide)] at hW
      exact wp_ret vf_c rfl ⟨_, rfl, by rw [hW], rfl⟩
end
end K04

namespace K04
open PySem L2 DL
/-! ### k04: the law's own words -/
inductive Kd | opn | give | fin
def Kd.tag : Kd → Str | .opn => "open" | .give => "give" | .fin => "end"
def Kd.row (p : Nat) : Kd → Rw | .opn => .opn p | .give => .give p | .fin => .fin
def Kd.isO : Kd → Bool | .opn => true | _ => false
def Kd.isG : Kd → Bool | .give => true | _ => false
def Kd.isF : Kd → Bool | .fin => true | _ => false
theorem Kd.tag_ok (t : Kd) : PyData.strOk t.tag = true := by cases t <;> kernel_rfl
theorem Kd.eqO (t : Kd) : eqDD (.str t.tag) (.str "open") = some (.bl t.isO) := by rw [eq_str t.tag_ok (by decide +kernel)]; cases t <;> kernel_rfl
theorem Kd.eqG (t : Kd) : eqDD (.str t.tag) (.str "give") = some (.bl t.isG) := by rw [eq_str t.tag_ok (by decide +kernel)]; cases t <;> kernel_rfl
theorem Kd.eqF (t : Kd) : eqDD (.str t.tag) (.str "end") = some (.bl t.isF) := by rw [eq_str t.tag_ok (by decide +kernel)]; cases t <;> kernel_rfl
section
variable {ns : List Int} {s : Stt} {n : Nat}
/-- the plots that are open -/
theorem SOk.vups2 (h : SOk ns s n) {ρ : Ev} {f : EF} {i j : Nat} (hf : Vf f ρ (.lst (opL ns s))) (hi : i < ρ.length) (hj : j < ρ.length) (hij : i ≠ j) :
    Ve (eLc (iE f) [i, j] (gT 2 (gsCons i (gsCons j gsNil))) (fun _ => some true) (eV i)) ρ (.lst ((ups s).map (nmD ns))) .new := by
  have := vn_lc2M (F := fun q : Nat × Nat => nmD ns q.1) (fa := upD ns) (ga := fun q => nmD ns q.1) (gb := fun q => .int (q.2 : Nat)) (l := s.op) (e := eV i) (xe_of hf rfl) (by have := h.op_le; omega) hi hj hij (fun a _ => ⟨rfl, rfl, rfl⟩) (fun a _ => vf_fn (by
    rw [List.getElem?_set_ne (Ne.symm hij), List.getElem?_set_self]; rw [wipeE_length]; exact hi)) (fun a _ => rfl)
  rw [show (ups s).map (nmD ns) = s.op.map (fun q => nmD ns q.1) by simp [ups]]
  exact this
theorem give_wrong (ns : List Int) (s : Stt) (p : Nat) : wrongM ns s (.give p) = if isUp s p = true then ("" : Str) else "not open" := by
  rw [wrong_of rfl rfl]
  show (if (lackL s [] == ("" : Str)) = true then homeW s (.give p) else lackL s []) = _
  rw [if_pos (by show (("" : Str) == "") = true; decide +kernel)]
  show (if (true && !isUp s p) = true then _ else if (false && !s.op.isEmpty) = true then _ else _) = _
  cases isUp s p <;> rfl
theorem fin_wrong (ns : List Int) (s : Stt) : wrongM ns s .fin = if (!s.op.isEmpty) = true then ("left" : Str) else "" := by
  rw [wrong_of rfl rfl]
  show (if (lackL s [] == ("" : Str)) = true then homeW s .fin else lackL s []) = _
  rw [if_pos (by show (("" : Str) == "") = true; decide +kernel)]
  show (if (false && _) = true then _ else if (true && !s.op.isEmpty) = true then _ else _) = _
  cases s.op.isEmpty <;> rfl
theorem word_of_eq {t : Kd} {p : Nat} (h : SOk ns s n) (hp : p < pn ns) : f__law_word_of [.lst (plots ns), .lst (opL ns s), .str t.tag, nmD ns p] = some (.str (wrongM ns s (t.row p))) := by
  refine fn_is rfl ?_
  unfold b__law_word_of
  show Wp _ [.fz (.lst (plots ns)), .fz (.lst (opL ns s)), .fz (.str t.tag), .fz (nmD ns p), .emp, .emp, .emp] _
  (try simp only [List.set_cons_zero, List.set_cons_succ])
  refine wp_nx (sn_set (d := .lst ((ups s).map (nmD ns))) (h.vups2 (vf_fz rfl) (show 5 < 7 by decide) (show 6 < 7 by decide) (by decide)) rfl rfl) ?_
  have hout : ∀ ρ : Ev, ρ[0]? = some (.fz (.lst (plots ns))) → ρ[3]? = some (.fz (nmD ns p)) → Vf (eCall f__law_outward (aCons (eV 0) (aCons (eV 3) aNil))) ρ (.lst (chO ns (some p))) := fun ρ r0 r3 =>
    vf_call (ds := [.lst (plots ns), nmD ns p]) (af_cons (vf_fz r0) (af_cons (vf_fz r3) af_nil)) (lout_eq ns p hp)
  (try simp only [List.set_cons_zero, List.set_cons_succ])
  refine wp_g (b := t.isO && isUp s p) (te_and (tf_v (vf_e2 (vf_fz rfl) vf_c t.eqO)) (fun _ => tf_v (vf_e2 (vf_fz rfl) (vf_fn rfl) (in_of (in_ups h hp))))) (fun hb => ?_) (fun hb => ?_)
  · rw [Bool.and_eq_true] at hb
    cases t with
    | opn =>
      (try simp only [List.set_cons_zero, List.set_cons_succ])
      refine wp_now (wp_ret vf_c rfl ⟨_, _, rfl, ?_⟩)
      show D.str _ = D.str (if isUp s p = true then ("open already" : Str) else _)
      rw [if_pos hb.2]
    | _ => exact absurd hb.1 Bool.false_ne_true
  have hOne : ∀ j, ppar ns p = some j → neDD (.lst (((chO ns (some p)).drop 1).take (2 - 1))) (.lst []) = some (.bl true) := fun j hq => by
    have hj : j < pn ns := by have := ppar_lt ns hq; omega
    rw [show ((chO ns (some p)).drop 1).take (2 - 1) = [nmD ns j] by rw [chO_some, hq, chO_some]; rfl]
    exact (enc_nm ns).neNil (l := [j]) (by intro b hb; simp at hb; omega)
  have hsl : ∀ ρ : Ev, ρ[0]? = some (.fz (.lst (plots ns))) → ρ[3]? = some (.fz (nmD ns p)) → Vf (eSl (eCall f__law_outward (aCons (eV 0) (aCons (eV 3) aNil))) (oSome (eC (.int 1))) (oSome (eC (.int 2)))) ρ (.lst (((chO ns (some p)).drop 1).take (2 - 1))) := fun ρ r0 r3 =>
    vf_sl (hout ρ r0 r3) (of_some vf_c) (of_some vf_c) (sl_lst_lh (a := 1) (b := 2) rfl rfl (chO_flat ns _))
  cases t with
  | opn =>
    have hu : isUp s p = false := by simpa [Kd.isO] using hb
    have hW : wrongM ns s (.opn p) = match ppar ns p with
      | none => ""
      | some j => if isUp s j = true then "" else "not open" := (if_neg (by rw [hu]; decide)).trans rfl
    have tail : wrongM ns s (.opn p) = "" → Wp (bSeq (sIf (tAndD (tE (e2 eqDD (eV 2) (eC (.str "give")))) (tE (e2 ninD (eV 3) (eV 4)))) (sRet (eC (.str "not open"))) bNil)
        (bSeq (sIf (tAndD (tE (e2 eqDD (eV 2) (eC (.str "end")))) (tE (e2 neDD (eV 1) (eDisp .lst aNil)))) (sRet (eC (.str "left"))) bNil) (sRet (eC (.str "")))))
        [.fz (.lst (plots ns)), .fz (.lst (opL ns s)), .fz (.str Kd.opn.tag), .fz (nmD ns p), .fn (.lst ((ups s).map (nmD ns))), .emp, .emp] (RtK fun c => c = .str (wrongM ns s (.opn p))) := fun e => by
      rw [e]
      (try simp only [List.set_cons_zero, List.set_cons_succ])
      refine wp_g (b := false) (te_and_f (tf_v (vf_e2 (vf_fz rfl) vf_c (Kd.eqG .opn)))) (fun q => by cases q) (fun _ => ?_)
      (try simp only [List.set_cons_zero, List.set_cons_succ])
      refine wp_g (b := false) (te_and_f (tf_v (vf_e2 (vf_fz rfl) vf_c (Kd.eqF .opn)))) (fun q => by cases q) (fun _ => ?_)
      exact wp_ret vf_c rfl rfl
    cases hq : ppar ns p with
    | none =>
      rw [hq] at hW
      (try simp only [List.set_cons_zero, List.set_cons_succ])
      refine wp_g (b := false) (te_and_t (b := false) (tf_v (vf_e2 (vf_fz rfl) vf_c (Kd.eqO .opn))) (te_and_f (tf_v (vf_e2 (hsl _ rfl rfl) (vf_disp (mk := .lst) (ds := []) af_nil rfl (by simp)) (by rw [chO_some, hq]; rfl))))) (fun q => by cases q) (fun _ => ?_)
      exact tail hW
    | some j =>
      rw [hq] at hW
      have hj : j < pn ns := by have := ppar_lt ns hq; omega
      have e1 : ixD (.lst (chO ns (some p))) (.int 1) = some (nmD ns j) := by rw [chO_some, hq, chO_some]; exact ixl_nat (by omega) rfl
      (try simp only [List.set_cons_zero, List.set_cons_succ])
      refine wp_g (b := !isUp s j) (te_and_t (b := !isUp s j) (tf_v (vf_e2 (vf_fz rfl) vf_c (Kd.eqO .opn))) (te_and_t (b := !isUp s j) (tf_v (vf_e2 (hsl _ rfl rfl) (vf_disp (mk := .lst) (ds := []) af_nil rfl (by simp)) (hOne j hq))) (tf_v (vf_e2 (vf_ix (hout _ rfl rfl) vf_c e1) (vf_fn rfl) (nin_of (in_ups h hj)))))) (fun hy => ?_) (fun hy => ?_)
      · have huj : isUp s j = false := by simpa using hy
        (try simp only [List.set_cons_zero, List.set_cons_succ])
        refine wp_now (wp_ret vf_c rfl ⟨_, _, rfl, ?_⟩)
        show D.str _ = D.str (wrongM ns s (.opn p))
        rw [hW]
        show D.str _ = D.str (if isUp s j = true then ("" : Str) else "not open")
        rw [if_neg (by rw [huj]; decide)]
      · have huj : isUp s j = true := by simpa using hy
        exact tail (by rw [hW]; exact if_pos huj)
  | give =>
    (try simp only [List.set_cons_zero, List.set_cons_succ])
    refine wp_g (b := false) (te_and_f (tf_v (vf_e2 (vf_fz rfl) vf_c (Kd.eqO .give)))) (fun q => by cases q) (fun _ => ?_)
    have hW := give_wrong ns s p
    (try simp only [List.set_cons_zero, List.set_cons_succ])
    refine wp_g (b := !isUp s p) (te_and_t (b := !isUp s p) (tf_v (vf_e2 (vf_fz rfl) vf_c (Kd.eqG .give))) (tf_v (vf_e2 (vf_fz rfl) (vf_fn rfl) (nin_of (in_ups h hp))))) (fun hy => ?_) (fun hy => ?_)
    · have hu : isUp s p = false := by simpa using hy
      (try simp only [List.set_cons_zero, List.set_cons_succ])
      refine wp_now (wp_ret vf_c rfl ⟨_, _, rfl, ?_⟩)
      show D.str _ = D.str (wrongM ns s (.give p))
      rw [hW, hu]; rfl
    · have hu : isUp s p = true := by simpa using hy
      (try simp only [List.set_cons_zero, List.set_cons_succ])
      refine wp_g (b := false) (te_and_f (tf_v (vf_e2 (vf_fz rfl) vf_c (Kd.eqF .give)))) (fun q => by cases q) (fun _ => ?_)
      (try simp only [List.set_cons_zero, List.set_cons_succ])
      refine wp_ret vf_c rfl ?_
      show D.str _ = D.str (wrongM ns s (.give p))
      rw [hW, hu]; rfl
  | fin =>
    have hW := fin_wrong ns s
    have hne : neDD (.lst (opL ns s)) (.lst []) = some (.bl (!s.op.isEmpty)) := by
      have := (enc_pair (enc_nm ns) enc_nat).neNil (l := s.op) (fun q hq => ⟨h.lt q hq, trivial⟩)
      exact this
    (try simp only [List.set_cons_zero, List.set_cons_succ])
    refine wp_g (b := false) (te_and_f (tf_v (vf_e2 (vf_fz rfl) vf_c (Kd.eqO .fin)))) (fun q => by cases q) (fun _ => ?_)
    (try simp only [List.set_cons_zero, List.set_cons_succ])
    refine wp_g (b := false) (te_and_f (tf_v (vf_e2 (vf_fz rfl) vf_c (Kd.eqG .fin)))) (fun q => by cases q) (fun _ => ?_)
    (try simp only [List.set_cons_zero, List.set_cons_succ])
    refine wp_g (b := !s.op.isEmpty) (te_and_t (b := !s.op.isEmpty) (tf_v (vf_e2 (vf_fz rfl) vf_c (Kd.eqF .fin))) (tf_v (vf_e2 (vf_fz rfl) (vf_disp (mk := .lst) (ds := []) af_nil rfl (by simp)) hne))) (fun hy => ?_) (fun hy => ?_)
    · (try simp only [List.set_cons_zero, List.set_cons_succ])
      refine wp_now (wp_ret vf_c rfl ⟨_, _, rfl, ?_⟩)
      show D.str _ = D.str (wrongM ns s .fin)
      rw [hW, hy]; rfl
    · (try simp only [List.set_cons_zero, List.set_cons_succ])
      refine wp_ret vf_c rfl ?_
      show D.str _ = D.str (wrongM ns s .fin)
      rw [hW, hy]; rfl
noncomputable def goneOf (ns : List Int) (s : Stt) (p : Nat) : List (Nat × Nat) := s.op.filter fun q => inOut ns p q.1
theorem given_eq {p : Nat} (h : SOk ns s n) (hp : p < pn ns) : f__law_given [.lst (plots ns), .lst (opL ns s), nmD ns p] = some (.lst ((goneOf ns s p).map (upD ns))) := by
  have hop := h.op_le
  refine fn_is rfl ?_
  unfold b__law_given
  show Wp _ [.fz (.lst (plots ns)), .fz (.lst (opL ns s)), .fz (nmD ns p), .emp] _
  (try simp only [List.set_cons_zero, List.set_cons_succ])
  refine wp_retn ?_ rfl
  apply vn_lc1 (fa := upD ns) (l := s.op)
  case hx => exact xe_of (vf_fz rfl) rfl
  case hn => omega
  case hi => exact (show 3 < 4 by decide)
  case hfa => exact fun a _ => rfl
  case hf => exact fun a _ => rfl
  case h => exact fun q hq => ⟨tf_v (vf_e2 (vf_fz rfl) (vf_call (ds := [.lst (plots ns), nmD ns q.1]) (af_cons (vf_fz rfl) (af_cons (vf_ix (vf_fn rfl) vf_c rfl) af_nil)) (lout_eq ns q.1 (h.lt q hq))) (in_of (in_chO ns hp (h.lt q hq)))), fun _ => vf_fn rfl⟩
end
end K04

namespace K04
open PySem L2 DL
section
variable {ns : List Int} {s : Stt} {n : Nat}
/-! ### the last rows give all back -/
def Closed (ns : List Int) (s : Stt) : Prop := ∀ p ∈ ups s, ∀ j, ppar ns p = some j → j ∈ ups s
theorem inOut_iff (ns : List Int) (q p : Nat) : inOut ns q p = true ↔ q ∈ chn ns (p + 1) p := by
  rw [inOut_def, List.any_eq_true]
  constructor
  · rintro ⟨o, ho, e⟩
    simp only [List.mem_map] at ho
    obtain ⟨j, hj, rfl⟩ := ho
    have e1 : (some (pnm ns j) : Option (List Nat)) = some (pnm ns q) := by simpa using e
    have := pnm_inj ns (Option.some.inj e1)
    rw [← this]; exact hj
  · intro h
    exact ⟨some (pnm ns q), List.mem_map.mpr ⟨q, h, rfl⟩, by simp⟩
theorem chn_up (hc : Closed ns s) : ∀ (f p : Nat), p ∈ ups s → ∀ q ∈ chn ns f p, q ∈ ups s
  | 0, _, _, q, h => by cases h
  | f + 1, p, hp, q, h => by
    cases e : ppar ns p with
    | none => rw [chn_none ns e] at h; simp at h; rw [h]; exact hp
    | some j =>
      rw [chn_some ns e] at h
      rcases List.mem_cons.mp h with rfl | h
      · exact hp
      · exact chn_up hc f j (hc p hp j e) q h
theorem root_of (ns : List Int) : ∀ p : Nat, ∃ r, r ∈ chn ns (p + 1) p ∧ ppar ns r = none ∧ r ≤ p := by
  intro p
  induction p using Nat.strongRecOn with
  | ind p ih =>
    cases e : ppar ns p with
    | none => exact ⟨p, by rw [chn_none ns e]; simp, e, Nat.le_refl _⟩
    | some j =>
      have hj := ppar_lt ns e
      obtain ⟨r, h1, h2, h3⟩ := ih j hj
      refine ⟨r, ?_, h2, by omega⟩
      rw [chn_some ns e, chn_stable ns p j hj]
      exact List.mem_cons_of_mem _ h1
theorem st0_closed (ns : List Int) : Closed ns st0 := fun _ h => nomatch h
/-- a row of k04: no values -/
structure Bare (s : Stt) : Prop where
  h : s.held = []
  w : s.worth = []
  t : s.told = []
theorem st0_bare : Bare st0 := ⟨rfl, rfl, rfl⟩
theorem mem_give {p q : Nat} (h : q ∈ ups (deedM ns s (.give p))) : q ∈ ups s ∧ inOut ns p q = false := by
  change q ∈ (s.op.filter fun q => !inOut ns p q.1).map (·.1) at h
  simp only [List.mem_map, List.mem_filter] at h
  obtain ⟨u, ⟨h1, h2⟩, rfl⟩ := h
  exact ⟨by simp only [ups, List.mem_map]; exact ⟨u, h1, rfl⟩, by simpa using h2⟩
theorem give_mem {p q : Nat} (h : q ∈ ups s) (h2 : inOut ns p q = false) : q ∈ ups (deedM ns s (.give p)) := by
  show q ∈ (s.op.filter fun q => !inOut ns p q.1).map (·.1)
  simp only [ups, List.mem_map] at h
  obtain ⟨u, h1, rfl⟩ := h
  simp only [List.mem_map, List.mem_filter]
  exact ⟨u, ⟨h1, by rw [h2]; rfl⟩, rfl⟩
theorem inOut_par {g j q : Nat} (e : ppar ns q = some j) (h : inOut ns g j = true) : inOut ns g q = true := by
  rw [inOut_iff] at h ⊢
  rw [chn_some ns e, chn_stable ns q j (ppar_lt ns e)]
  exact List.mem_cons_of_mem _ h
theorem opn_up (h : wrongM ns s (.opn p) = "") {j : Nat} (e : ppar ns p = some j) : j ∈ ups s := by
  change (if isUp s p = true then ("open already" : Str) else match ppar ns p with
    | none => ""
    | some j => if isUp s j = true then "" else "not open") = "" at h
  by_cases hu : isUp s p = true
  · rw [if_pos hu] at h; exact absurd h str_ne.2.1
  · rw [if_neg hu, e] at h
    by_cases hj : isUp s j = true
    · simpa [isUp, List.contains_iff_mem] using hj
    · exact absurd ((if_neg hj).symm.trans h) str_ne.1
theorem step_closed (t : Kd) (p : Nat) (hc : Closed ns s) : Closed ns (stepM ns s (t.row p)) := by
  by_cases e : wrongM ns s (t.row p) = ""
  · rw [step_ok e]
    cases t with
    | opn =>
      intro q hq j hj
      change q ∈ (s.op ++ [(p, s.many)]).map (·.1) at hq
      show j ∈ (s.op ++ [(p, s.many)]).map (·.1)
      rw [List.map_append, List.mem_append] at hq ⊢
      rcases hq with hq | hq
      · exact .inl (hc q hq j hj)
      · have hq : q = p := by simpa using hq
        subst hq
        exact .inl (opn_up (p := q) e hj)
    | give =>
      intro q hq j hj
      obtain ⟨h1, h2⟩ := mem_give hq
      refine give_mem (hc q h1 j hj) ?_
      cases e2 : inOut ns p j with
      | false => rfl
      | true => rw [inOut_par hj e2] at h2; cases h2
    | fin => exact hc
  · rw [step_no e]; exact hc
theorem step_bare (t : Kd) (p : Nat) (hb : Bare s) : Bare (stepM ns s (t.row p)) := by
  by_cases e : wrongM ns s (t.row p) = ""
  · rw [step_ok e]
    cases t with
    | opn => exact ⟨hb.h, hb.w, hb.t⟩
    | give => exact ⟨hb.h, hb.w, hb.t⟩
    | fin => exact hb
  · rw [step_no e]; exact hb
/-- an outermost plot given back: nothing within it is open -/
theorem give_clear (hc : Closed ns s) (r q : Nat) (hq : q ∈ ups (stepM ns s (.give r))) : inOut ns r q = false := by
  by_cases e : wrongM ns s (.give r) = ""
  · rw [step_ok e] at hq
    exact (mem_give hq).2
  · rw [step_no e] at hq
    cases e2 : inOut ns r q with
    | false => rfl
    | true =>
      have := chn_up hc (q + 1) q hq r ((inOut_iff ns r q).mp e2)
      rw [give_wrong, if_pos (by simpa [isUp, List.contains_iff_mem] using this)] at e
      exact absurd rfl e
theorem give_sub {r q : Nat} (hq : q ∈ ups (stepM ns s (.give r))) : q ∈ ups s := by
  by_cases e : wrongM ns s (.give r) = ""
  · rw [step_ok e] at hq; exact (mem_give hq).1
  · rwa [step_no e] at hq
theorem all_gone (h : SOk ns s n) (hr : ∀ r, r < pn ns → ppar ns r = none → ∀ q ∈ ups s, inOut ns r q = false) : s.op = [] := by
  cases e : s.op with
  | nil => rfl
  | cons q r =>
    have hq : q.1 ∈ ups s := by simp [ups, e]
    have hlt := ups_ok h _ hq
    obtain ⟨o, h1, h2, h3⟩ := root_of ns q.1
    have := hr o (by omega) h2 _ hq
    rw [(inOut_iff ns o q.1).mpr h1] at this
    cases this
end
theorem wp_froz {i : Nat} {g : SF} {ρ : Ev} {d : D} {Φ : Fl → Prop} (h : ρ[i]? = some (.on d)) (h2 : Wp g (ρ.set i (.fn d)) Φ) : Wp (bFroz i g) ρ Φ := by
  obtain ⟨r, h3, h4⟩ := h2
  exact ⟨r, by unfold bFroz froz; rw [h]; exact h3, h4⟩
theorem xe_zip {f g : EF} {ρ : Ev} {ds es : List D} (h1 : Ve f ρ (.lst ds) .new) (h2 : Ve g ρ (.lst es) .new) (f1 : flats ds = true) (f2 : flats es = true) : Xe (iZ f g) ρ (zipL ds es) .new := by
  unfold Xe Ve at *
  unfold iZ
  rw [h1, h2]
  simp [f1, f2, mmin]
theorem zip_map {α β : Type} (f : α → D) (g : β → D) : ∀ (l : List α) (m : List β), zipL (l.map f) (m.map g) = (l.zip m).map fun q => .tup [f q.1, g q.2]
  | [], _ => by simp [zipL]
  | _ :: _, [] => by simp [zipL]
  | a :: l, b :: m => by simp [zipL, zip_map f g l m]
theorem whole_int (z : Int) : f__law_whole [.int z] = some (.bl true) := by
  refine fn_is rfl ?_
  unfold b__law_whole
  show Wp _ [.fz (.int z)] _
  (try simp only [List.set_cons_zero, List.set_cons_succ])
  refine wp_ret (d := .bl true) (vf_and_t (vf_e1 (vf_fz rfl) rfl) (vf_e1 (vf_e1 (vf_fz rfl) rfl) rfl)) rfl rfl
end K04

namespace K04
open PySem L2 DL
def kdOf (x : Int) : Kd := match (x % 5).toNat with
  | 0 => .opn
  | 1 => .give
  | 2 => .opn
  | 3 => .fin
  | _ => .give
def wordsL : List D := [.str "open", .str "give", .str "open", .str "end", .str "give"]
theorem words_ix (x : Int) : ixD (.lst wordsL) (.int (x % 5)) = some (.str (kdOf x).tag) := by
  have a0 := Int.emod_nonneg x (show (5 : Int) ≠ 0 by omega)
  have a1 := Int.emod_lt_of_pos x (show (0 : Int) < 5 by omega)
  refine ixl_nat a0 ?_
  unfold kdOf
  obtain ⟨k, hk⟩ : ∃ k, k = (x % 5).toNat := ⟨_, rfl⟩
  have hk5 : k < 5 := by omega
  rw [← hk]
  match k, hk5 with
  | 0, _ => rfl
  | 1, _ => rfl
  | 2, _ => rfl
  | 3, _ => rfl
  | 4, _ => rfl
def kpD (ns : List Int) (q : Kd × Nat) : D := .tup [.str q.1.tag, nmD ns q.2]
theorem zip_self {α β : Type} (f : α → β) : ∀ l : List α, l.zip (l.map f) = l.map fun x => (x, f x)
  | [] => rfl
  | a :: r => by simp [zip_self f r]
theorem xe_zip' (xs : List Int) (g : Int → Int) {f h : EF} {ρ : Ev} (h1 : Ve f ρ (.lst (xs.map D.int)) .new) (h2 : Ve h ρ (.lst ((xs.map g).map D.int)) .new) : Xe (iZ f h) ρ (xs.map fun x => .tup [.int x, .int (g x)]) .new := by
  have := xe_zip h1 h2 (flats_map (fun _ => rfl) _) (flats_map (fun _ => rfl) _)
  rw [zip_map, zip_self, List.map_map] at this
  exact this
def spI (ns : List Int) (x : Int) : Int := x / 5 * 48271 % 10007 % (pn ns : Nat)
theorem spI_ok (ns : List Int) (x : Int) : 0 ≤ spI ns x ∧ (spI ns x).toNat < pn ns := by
  obtain ⟨p0, p1, p2⟩ := pn_eq ns
  have a0 := Int.emod_nonneg (x / 5 * 48271 % 10007) (show ((pn ns : Nat) : Int) ≠ 0 by omega)
  have a1 := Int.emod_lt_of_pos (x / 5 * 48271 % 10007) (show (0 : Int) < ((pn ns : Nat) : Int) by omega)
  unfold spI
  omega
def roots (ns : List Int) : List Nat := (List.range (pn ns)).filter fun i => (ppar ns i).isNone
def rowsA (ns : List Int) (xs : List Int) : List (Kd × Nat) := xs.map fun x => (kdOf x, (spI ns x).toNat)
def rowsB (ns : List Int) : List (Kd × Nat) := (roots ns).map fun i => (.give, i)
theorem rows_lt (ns : List Int) (xs : List Int) : ∀ q ∈ rowsA ns xs ++ rowsB ns, q.2 < pn ns := by
  intro q hq
  rw [List.mem_append] at hq
  rcases hq with h | h
  · simp only [rowsA, List.mem_map] at h
    obtain ⟨x, _, rfl⟩ := h
    exact (spI_ok ns x).2
  · simp only [rowsB, roots, List.mem_map, List.mem_filter, List.mem_range] at h
    obtain ⟨i, ⟨h, _⟩, rfl⟩ := h
    exact h
theorem roots_len (ns : List Int) : (roots ns).length ≤ 12 := by
  have := List.length_filter_le (fun i => (ppar ns i).isNone) (List.range (pn ns))
  have := (pn_eq ns).2.2
  simp [roots] at *
  omega
theorem kd_row (ns : List Int) (t : Kd) (p : Nat) : slD (.tup [.str t.tag, nmD ns p]) none (some (2 - (if t.isF = true then 1 else 0))) = some (rwD ns (t.row p)) := by
  cases t <;> rfl
theorem kd_int (t : Kd) : intC [.bl t.isF] = some (.int (if t.isF = true then 1 else 0)) := by cases t <;> rfl
theorem kd_ok (ns : List Int) (t : Kd) {p : Nat} (hp : p < pn ns) : RwOk ns [[97]] (t.row p) ∧ (t.row p).isGo = false := by
  cases t <;> exact ⟨by first | exact hp | trivial, rfl⟩
theorem nmok : NmOk [[97]] := ⟨by decide, by decide, by decide, by decide⟩
section
variable {ns : List Int} {s : Stt} {n : Nat}
theorem SOk.up (h : SOk ns s n) {m : Nat} (hm : n ≤ m) : SOk ns s m := ⟨h.lt, h.nd, h.perm, h.hd, h.home, Nat.le_trans h.hl hm, Nat.le_trans h.wl hm, Nat.le_trans h.tl hm, Nat.le_trans h.ml hm⟩
theorem step_sok {l : List (List Nat)} {w : Rw} (h : SOk ns s n) (hl : NmOk l) (hw : RwOk ns l w) : SOk ns (stepM ns s w) (n + 1) := by
  by_cases e : wrongM ns s w = ""
  · rw [step_ok e]; exact deed_ok h hl hw e
  · rw [step_no e]; exact h.up (Nat.le_succ n)
theorem gv_ne (s : Stt) : neDD (.lst (gvL s)) (.lst (gvL s)) = some (.bl false) := by
  have := (enc_lst enc_nat).ne (a := s.given) (b := s.given) (fun _ _ => trivial) (fun _ _ => trivial)
  simpa [gvL] using this
theorem many_ne (s : Stt) : neDD (.int (s.many : Nat)) (.int (s.many : Nat)) = some (.bl false) := by rw [ne_int]; simp
theorem nin_up (h : SOk ns s n) {p : Nat} {q : Nat × Nat} (hq : q ∈ s.op) : ninD (upD ns q) (.lst ((goneOf ns s p).map (upD ns))) = some (.bl (!inOut ns p q.1)) := by
  refine (enc_pair (enc_nm ns) enc_nat).ninT (a := q) (l := goneOf ns s p) ⟨h.lt q hq, trivial⟩ (fun b hb => ⟨h.lt b (List.mem_filter.mp hb).1, trivial⟩) ?_
  simp [goneOf, List.mem_filter, hq]
abbrev fr04 (ns : List Int) (xs : List Int) (s : Stt) (s11 s12 s13 s14 s15 s16 : Sl) : Ev :=
  [.fz (.scr ns), .fn (.lst (plots ns)), .fn (.lst (plots ns)), .on (soD ns s), .on (soD ns st0), .on (.lst (opL ns s)), .fn (.int (s.many : Nat)), .fn (.lst (gvL s)), .fn (.lst wordsL), .fn (.lst ((xs.map (spI ns)).map .int)), .fn (.lst ((rowsA ns xs ++ rowsB ns).map (kpD ns))), s11, s12, s13, s14, s15, s16, .emp, .emp, .emp, .emp, .emp, .emp, .emp]
noncomputable def body04 : SF := (bSeq (sSet 13 (eCall f__law_word_of (aCons (eV 1) (aCons (eV 5) (aCons (eV 11) (aCons (eV 12) aNil))))))
    (bSeq (sSet 14 (eSl (eDisp .tup (aCons (eV 11) (aCons (eV 12) aNil))) oNone (oSome (e2 subD (eC (.int 2)) (eCall intC (aCons (e2 eqDD (eV 11) (eC (.str "end"))) aNil))))))
    (bSeq (sSetM 15 (callC [true, false] f_Store_do (insC 0 "do" 3 (cRd (eV 14) cNil))))
    (bSeq (sIf (tOrD (tNotD (tE (e1 (isTy .str) (eV 15)))) (tE (e2 neDD (eV 15) (eV 13)))) (sRet (eC (.bl false))) bNil)
    (bSeq (sIf (tAndD (tE (e2 eqDD (eV 13) (eC (.str "")))) (tE (e2 eqDD (eV 11) (eC (.str "open"))))) (bSeq (sApp 5 wN (nFlat (eDisp .tup (aCons (eV 12) (aCons (eV 6) aNil)))))
    (sSet 6 (e2 addD (eV 6) (eC (.int 1))))) (sIf (tAndD (tE (e2 eqDD (eV 13) (eC (.str "")))) (tE (e2 eqDD (eV 11) (eC (.str "give"))))) (bSeq (sSet 16 (eCall f__law_given (aCons (eV 1) (aCons (eV 5) (aCons (eV 12) aNil)))))
    (bSeq (sSet 7 (e2 addD (eV 7) (e1 revD (eLc (iE (eV 16)) [20, 21] (gT 2 (gsCons 20 (gsCons 21 gsNil))) (fun _ => some true) (eV 21)))))
    (sSetN 5 (nLc (eLc (iE (eV 5)) [22] (gN 22) (tE (e2 ninD (eV 22) (eV 16))) (eV 22)))))) bNil))
    (sIf (tOrD (tNotD (tE (eCall f__law_whole (aCons (eFld 0 "opened" (eV 3)) aNil)))) (tOrD (tE (e2 neDD (eFld 0 "opened" (eV 3)) (eV 6))) (tE (e2 neDD (eFld 0 "given" (eV 3)) (eV 7))))) (sRet (eC (.bl false))) bNil))))))
theorem one04 {xs : List Int} {t : Kd} {p : Nat} (h : SOk ns s n) (hn : n ≤ 1000000) (hp : p < pn ns) {s13 s14 s15 s16 : Sl} (f13 : freeS s13 = true) (f14 : freeS s14 = true) (f15 : freeS s15 = true) (f16 : freeS s16 = true) {Φ : Fl → Prop}
    (hΦ : ∀ t13 t14 t15 t16, freeS t13 = true → freeS t14 = true → freeS t15 = true → freeS t16 = true → Φ (.nx (fr04 ns xs (stepM ns s (t.row p)) (.fn (.str t.tag)) (.fn (nmD ns p)) t13 t14 t15 t16))) :
    Wp body04 (fr04 ns xs s (.fn (.str t.tag)) (.fn (nmD ns p)) s13 s14 s15 s16) Φ := by
  have hop := h.op_le
  have hml := h.ml
  have hwo := wrong_ok ns s (t.row p)
  obtain ⟨hw, hg⟩ := kd_ok ns t hp
  have hgl : s.given.length ≤ s.many := by
    have := h.perm.length_eq
    simp at this
    omega
  unfold body04
  (try simp only [List.set_cons_zero, List.set_cons_succ])
  refine wp_nx (sf_set (d := .str (wrongM ns s (t.row p))) (vf_call (ds := [.lst (plots ns), .lst (opL ns s), .str t.tag, nmD ns p]) (af_cons (vf_fn rfl) (af_cons (vf_on rfl) (af_cons (vf_fn rfl) (af_cons (vf_fn rfl) af_nil)))) (word_of_eq h hp)) rfl f13 rfl) ?_
  (try simp only [List.set_cons_zero, List.set_cons_succ])
  refine wp_nx (sf_set (d := rwD ns (t.row p)) (vf_sl (vf_disp (mk := .tup) (ds := [.str t.tag, nmD ns p]) (af_cons (vf_fn rfl) (af_cons (vf_fn rfl) af_nil)) rfl (by simp)) oe_none (of_some (i := 2 - (if t.isF = true then 1 else 0)) (vf_e2 vf_c (vf_call (ds := [.bl t.isF]) (af_cons (vf_e2 (vf_fn rfl) vf_c t.eqF) af_nil) (kd_int t)) sub_int)) (kd_row ns t p)) rfl f14 (rwD_flat ns _)) ?_
  have hm : Vm (callC [true, false] f_Store_do (insC 0 "do" 3 (cRd (eV 14) cNil))) (fr04 ns xs s (.fn (.str t.tag)) (.fn (nmD ns p)) (.fn (.str (wrongM ns s (t.row p)))) (.fn (rwD ns (t.row p))) s15 s16) (.str (wrongM ns s (t.row p)))
      ((fr04 ns xs s (.fn (.str t.tag)) (.fn (nmD ns p)) (.fn (.str (wrongM ns s (t.row p)))) (.fn (rwD ns (t.row p))) s15 s16).set 3 (.on (soD ns (stepM ns s (t.row p))))) :=
    vm_call (ce_so rfl (by kernel_rfl) (ce_rd (ve_fn rfl) ce_nil)) rfl (ds_own rfl (ds_new ds_nil)) (do_eq h hn hw hg) ((backC_one (i := 3) (j := 0) (s := .on (soD ns s)) (d := soD ns (stepM ns s (t.row p))) rfl rfl rfl rfl).trans rfl)
  (try simp only [List.set_cons_zero, List.set_cons_succ])
  refine wp_nx (se_setM hm (setS_new (s := s15) rfl f15)) ?_
  (try simp only [List.set_cons_zero, List.set_cons_succ])
  refine wp_g (b := false) (te_or_f (b := false) (te_not (b := true) (tf_v (vf_e1 (vf_fn rfl) rfl))) (tf_v (vf_e2 (vf_fn rfl) (vf_fn rfl) (by rw [ne_str hwo hwo]; simp)))) (fun q => by cases q) (fun _ => ?_)
  (try simp only [List.set_cons_zero, List.set_cons_succ])
  refine wp_mid (fun ρ => ∃ t16, freeS t16 = true ∧ ρ = fr04 ns xs (stepM ns s (t.row p)) (.fn (.str t.tag)) (.fn (nmD ns p)) (.fn (.str (wrongM ns s (t.row p)))) (.fn (rwD ns (t.row p))) (.fn (.str (wrongM ns s (t.row p)))) t16) ?_ ?_
  · (try simp only [List.set_cons_zero, List.set_cons_succ])
    refine wp_if (b := (wrongM ns s (t.row p) == ("" : Str)) && t.isO) (te_and (tf_v (vf_e2 (vf_fn rfl) vf_c (eq_e2 _ hwo))) (fun _ => tf_v (vf_e2 (vf_fn rfl) vf_c t.eqO))) (fun hb => ?_) (fun hb => ?_)
    · rw [Bool.and_eq_true] at hb
      have e : wrongM ns s (t.row p) = "" := by simpa using hb.1
      cases t with
      | opn =>
        have hS : stepM ns s (Kd.opn.row p) = { s with op := s.op ++ [(p, s.many)], many := s.many + 1 } := (step_ok e).trans (by rfl)
        rw [hS]
        (try simp only [List.set_cons_zero, List.set_cons_succ])
        refine wp_nx (se_appW (y := upD ns (p, s.many)) (wy_n) (wayD_of (d := .lst (opL ns s)) rfl rfl) (nf_flat (vf_disp (mk := .tup) (ds := [nmD ns p, .int (s.many : Nat)]) (af_cons (vf_fn rfl) (af_cons (vf_fn rfl) af_nil)) rfl (by simp)) rfl) (by simp [opL]; omega) (putW_of (d := .lst (opL ns s)) rfl rfl)) ?_
        (try simp only [List.set_cons_zero, List.set_cons_succ])
        refine wp_end (sf_set (d := .int ((s.many + 1 : Nat) : Int)) (vf_e2 (vf_fn rfl) vf_c (by rw [add_int]; congr 2)) rfl rfl rfl) ⟨_, rfl, s16, f16, ?_⟩
        show [_, _, _, _, _, Sl.on (D.lst (opL ns s ++ [upD ns (p, s.many)])), _, _, _, _, _, _, _, _, _, _, _, _, _, _, _, _, _, _] = _
        rw [show opL ns s ++ [upD ns (p, s.many)] = opL ns { s with op := s.op ++ [(p, s.many)], many := s.many + 1 } by simp [opL]]
        rfl
      | _ => exact absurd hb.2 Bool.false_ne_true
    · (try simp only [List.set_cons_zero, List.set_cons_succ])
      refine wp_if (b := (wrongM ns s (t.row p) == ("" : Str)) && t.isG) (te_and (tf_v (vf_e2 (vf_fn rfl) vf_c (eq_e2 _ hwo))) (fun _ => tf_v (vf_e2 (vf_fn rfl) vf_c t.eqG))) (fun hb2 => ?_) (fun hb2 => ?_)
      · rw [Bool.and_eq_true] at hb2
        have e : wrongM ns s (t.row p) = "" := by simpa using hb2.1
        cases t with
        | give =>
          have hS : stepM ns s (Kd.give.row p) = { s with op := s.op.filter (fun q => !inOut ns p q.1), given := s.given ++ ((goneOf ns s p).map (·.2)).reverse } := (step_ok e).trans (by rfl)
          rw [hS]
          have hgl2 : (goneOf ns s p).length ≤ s.op.length := List.length_filter_le _ _
          (try simp only [List.set_cons_zero, List.set_cons_succ])
          refine wp_nx (sn_set (d := .lst ((goneOf ns s p).map (upD ns))) (vn_call (ds := [.lst (plots ns), .lst (opL ns s), nmD ns p]) (af_cons (vf_fn rfl) (af_cons (vf_on rfl) (af_cons (vf_fn rfl) af_nil))) (given_eq h hp)) rfl f16) ?_
          have hx : ∀ {ρ : Ev} (hρ : ρ[16]? = some (.fn (.lst ((goneOf ns s p).map (upD ns))))) (hl : 21 < ρ.length), Vf (eLc (iE (eV 16)) [20, 21] (gT 2 (gsCons 20 (gsCons 21 gsNil))) (fun _ => some true) (eV 21)) ρ (.lst ((goneOf ns s p).map fun q => .int (q.2 : Nat))) := fun {ρ} hρ hl => by
            refine ⟨_, vn_lc2M (F := fun q : Nat × Nat => .int (q.2 : Nat)) (fa := upD ns) (ga := fun q => nmD ns q.1) (gb := fun q => .int (q.2 : Nat)) (l := goneOf ns s p) (e := eV 21) (xe_of (vf_fn hρ) rfl) (by omega) (by omega) hl (by decide) (fun a _ => ⟨rfl, rfl, rfl⟩) (fun a _ => vf_fn (by
              rw [List.getElem?_set_self]; rw [List.length_set, wipeE_length]; exact hl)) (fun a _ => rfl)⟩
          have hrev : revD (.lst ((goneOf ns s p).map fun q : Nat × Nat => D.int (q.2 : Nat))) = some (.lst ((((goneOf ns s p).map (·.2)).reverse).map fun k : Nat => D.int k)) := by
            show (if flats _ = true then some (D.lst (List.reverse _)) else none) = _
            rw [if_pos (flats_map (fun _ => rfl) _)]
            congr 2
            rw [List.map_reverse, List.map_map]; rfl
          have hadd : addD (.lst (gvL s)) (.lst ((((goneOf ns s p).map (·.2)).reverse).map fun k : Nat => D.int k)) = some (.lst ((s.given ++ ((goneOf ns s p).map (·.2)).reverse).map fun k : Nat => D.int k)) := by
            have ha := add_okl (x := gvL s) (y := (((goneOf ns s p).map (·.2)).reverse).map fun k : Nat => D.int k) (flats_map (fun _ => rfl) _) (flats_map (fun _ => rfl) _) (by simp [gvL]; omega)
            rw [ha]
            simp [gvL]
          have h6 := hx (ρ := ((fr04 ns xs s (.fn (.str Kd.give.tag)) (.fn (nmD ns p)) (.fn (.str (wrongM ns s (Kd.give.row p)))) (.fn (rwD ns (Kd.give.row p))) (.fn (.str (wrongM ns s (Kd.give.row p)))) (.fn (.lst ((goneOf ns s p).map (upD ns))))).set 3 (.on (soD ns { s with op := s.op.filter (fun q => !inOut ns p q.1), given := s.given ++ ((goneOf ns s p).map (·.2)).reverse })))) rfl (show 21 < 24 by decide)
          have h7 : Ve (e2 addD (eV 7) (e1 revD (eLc (iE (eV 16)) [20, 21] (gT 2 (gsCons 20 (gsCons 21 gsNil))) (fun _ => some true) (eV 21)))) ((fr04 ns xs s (.fn (.str Kd.give.tag)) (.fn (nmD ns p)) (.fn (.str (wrongM ns s (Kd.give.row p)))) (.fn (rwD ns (Kd.give.row p))) (.fn (.str (wrongM ns s (Kd.give.row p)))) (.fn (.lst ((goneOf ns s p).map (upD ns))))).set 3 (.on (soD ns { s with op := s.op.filter (fun q => !inOut ns p q.1), given := s.given ++ ((goneOf ns s p).map (·.2)).reverse }))) (.lst ((s.given ++ ((goneOf ns s p).map (·.2)).reverse).map fun k : Nat => D.int k)) .new := by
            obtain ⟨m6, h6⟩ := h6
            exact ve_e2 (ve_fn rfl) (ve_e1 h6 hrev) hadd
          (try simp only [List.set_cons_zero, List.set_cons_succ])
          refine wp_nx (sn_set h7 rfl rfl) ?_
          have h5 : Ve (eLc (iE (eV 5)) [22] (gN 22) (tE (e2 ninD (eV 22) (eV 16))) (eV 22)) (((fr04 ns xs s (.fn (.str Kd.give.tag)) (.fn (nmD ns p)) (.fn (.str (wrongM ns s (Kd.give.row p)))) (.fn (rwD ns (Kd.give.row p))) (.fn (.str (wrongM ns s (Kd.give.row p)))) (.fn (.lst ((goneOf ns s p).map (upD ns))))).set 3 (.on (soD ns { s with op := s.op.filter (fun q => !inOut ns p q.1), given := s.given ++ ((goneOf ns s p).map (·.2)).reverse }))).set 7 (.fn (.lst ((s.given ++ ((goneOf ns s p).map (·.2)).reverse).map fun k : Nat => D.int k)))) (.lst ((s.op.filter fun q => !inOut ns p q.1).map (upD ns))) .new := by
            apply vn_lc1 (fa := upD ns) (l := s.op)
            case hx => exact xe_of (vf_on rfl) rfl
            case hn => omega
            case hi => exact (show 22 < 24 by decide)
            case hfa => exact fun a _ => rfl
            case hf => exact fun a _ => rfl
            case h => exact fun q hq => ⟨tf_v (vf_e2 (vf_fn rfl) (vf_fn rfl) (nin_up h hq)), fun _ => vf_fn rfl⟩
          exact wp_end (se_setN (ne_lc h5 (flats_map (fun _ => rfl) _)) rfl rfl) ⟨_, rfl, _, rfl, rfl⟩
        | _ => exact absurd hb2.2 Bool.false_ne_true
      · have hS : stepM ns s (t.row p) = s := by
          by_cases e : wrongM ns s (t.row p) = ""
          · rw [step_ok e]
            rw [e] at hb hb2
            cases t with
            | opn => exact absurd hb Bool.noConfusion
            | give => exact absurd hb2 Bool.noConfusion
            | fin => rfl
          · exact step_no e
        rw [hS]
        exact wp_nil ⟨_, rfl, s16, f16, rfl⟩
  · rintro ρ ⟨t16, g16, rfl⟩
    (try simp only [List.set_cons_zero, List.set_cons_succ])
    refine wp_if_f (b := false) (te_or_f (b := false) (te_not (b := true) (tf_v (vf_call (ds := [.int ((stepM ns s (t.row p)).many : Nat)]) (af_cons (vf_fld (vf_on rfl) (so_opened ns _)) af_nil) (whole_int _)))) (te_or_f (b := false) (tf_v (vf_e2 (vf_fld (vf_on rfl) (so_opened ns _)) (vf_fn rfl) (many_ne _))) (tf_v (vf_e2 (vf_fld (vf_on rfl) (so_given ns _)) (vf_fn rfl) (gv_ne _))))) rfl ?_
    exact wp_nil (hΦ _ _ _ _ rfl rfl rfl g16)
/-- the state ahead of the k-th row -/
structure St04 (ns : List Int) (xs : List Int) (k : Nat) (s : Stt) : Prop where
  ok : SOk ns s k
  cl : Closed ns s
  gone : ∀ i, i + xs.length < k → ∀ r, (roots ns)[i]? = some r → ∀ q ∈ ups s, inOut ns r q = false
theorem St04.next {xs : List Int} {k : Nat} {t : Kd} {p : Nat} (h : St04 ns xs k s) (hp : p < pn ns) (he : (rowsA ns xs ++ rowsB ns)[k]? = some (t, p)) : St04 ns xs (k + 1) (stepM ns s (t.row p)) where
  ok := step_sok h.ok nmok (kd_ok ns t hp).1
  cl := step_closed t p h.cl
  gone := fun i hi r hr q hq => by
    by_cases hk : k < xs.length
    · omega
    rw [List.getElem?_append_right (by simp [rowsA]; omega)] at he
    simp only [rowsA, List.length_map] at he
    rw [rowsB, List.getElem?_map] at he
    cases e : (roots ns)[k - xs.length]? with
    | none => rw [e] at he; cases he
    | some r0 =>
      rw [e] at he
      cases he
      by_cases hi2 : i + xs.length < k
      · exact h.gone i hi2 r hr q (give_sub hq)
      · have : i = k - xs.length := by omega
        subst this
        rw [e] at hr
        cases hr
        exact give_clear h.cl _ q hq
theorem St04.fin {xs : List Int} (h : St04 ns xs (rowsA ns xs ++ rowsB ns).length s) : s.op = [] ∧ s.given.Perm (List.range s.many) := by
  have e : s.op = [] := by
    refine all_gone h.ok fun r hr hq q hm => ?_
    have hmem : r ∈ roots ns := by simp [roots, hr, hq]
    obtain ⟨i, hi, e⟩ := List.mem_iff_getElem.mp hmem
    refine h.gone i ?_ r (by rw [List.getElem?_eq_getElem hi, e]) q hm
    simp [rowsA, rowsB]
    omega
  refine ⟨e, ?_⟩
  have := h.ok.perm
  simpa [nums, e] using this
theorem fr_eq (s : Stt) : Ne (nLst nNil) ([] : Ev) (.lst []) := ne_lst ne_nil (by simp)
end
theorem law_true (ns : List Int) (hns : ns.length ≤ 63) : f_law [.scr ns] = some (.bl true) := by
  obtain ⟨p0, p1, p2⟩ := pn_eq ns
  refine fn_is rfl ?_
  unfold b_law
  show Wp _ [.fz (.scr ns), .emp, .emp, .emp, .emp, .emp, .emp, .emp, .emp, .emp, .emp, .emp, .emp, .emp, .emp, .emp, .emp, .emp, .emp, .emp, .emp, .emp, .emp, .emp] _
  have hlc : lstC [.lst (plots ns)] = some (.lst (plots ns)) := by show (if flats (plots ns) = true then some (D.lst (plots ns)) else none) = _; rw [if_pos (plots_flat ns)]
  obtain ⟨xs, hxs, hxl⟩ : ∃ xs : List Int, slD (.scr ns) (some 6) none = some (.lst (xs.map D.int)) ∧ xs.length ≤ 63 := by
    refine ⟨cutL ns (some 6) none, rfl, ?_⟩
    unfold cutL
    simp only [List.length_take, List.length_drop]
    omega
  (try simp only [List.set_cons_zero, List.set_cons_succ])
  refine wp_nx (sn_set (d := .lst (plots ns)) (vn_call (af_cons (vf_fz rfl) af_nil) (plots_eq ns)) rfl rfl) ?_
  (try simp only [List.set_cons_zero, List.set_cons_succ])
  refine wp_nx (sn_set (d := .lst (plots ns)) (vn_call (ds := [.lst (plots ns)]) (af_cons (vf_fn rfl) af_nil) hlc) rfl rfl) ?_
  (try simp only [List.set_cons_zero, List.set_cons_succ])
  refine wp_nx (se_setN (d := soD ns st0) (ne_makeN (as := [(.lst (plots ns), .new)]) (ae_cons (ve_fn rfl) ae_nil) (by simp [okNew, isNew]) rfl (init_eq ns)) rfl rfl) ?_
  (try simp only [List.set_cons_zero, List.set_cons_succ])
  refine wp_nx (se_setN (d := soD ns st0) (ne_makeN (as := [(.lst (plots ns), .new)]) (ae_cons (vn_call (ds := [.lst (plots ns)]) (af_cons (vf_fn rfl) af_nil) hlc) ae_nil) (by simp [okNew, isNew]) rfl (init_eq ns)) rfl rfl) ?_
  (try simp only [List.set_cons_zero, List.set_cons_succ])
  refine wp_nx (se_setN (d := .lst []) (ne_lst ne_nil (by simp)) rfl rfl) ?_
  (try simp only [List.set_cons_zero, List.set_cons_succ])
  refine wp_nx (sf_set (d := .int 0) vf_c rfl rfl rfl) ?_
  (try simp only [List.set_cons_zero, List.set_cons_succ])
  refine wp_nx (sn_set (d := .lst []) (vn_disp (mk := .lst) (ds := []) af_nil rfl (by simp)) rfl rfl) ?_
  (try simp only [List.set_cons_zero, List.set_cons_succ])
  refine wp_nx (sn_set (d := .lst wordsL) (vn_disp (mk := .lst) (ds := wordsL) (af_cons vf_c (af_cons vf_c (af_cons vf_c (af_cons vf_c (af_cons vf_c af_nil))))) rfl (by simp [wordsL])) rfl rfl) ?_
  simp only [List.set_cons_zero, List.set_cons_succ]
  have hlen : (plots ns).length = pn ns := plots_len ns
  (try simp only [List.set_cons_zero, List.set_cons_succ])
  refine wp_nx (sn_set (d := .lst ((xs.map (spI ns)).map .int)) ?_ rfl rfl) ?_
  · refine ve_cast (d := .lst (xs.map (D.int ∘ spI ns))) ?_ (by rw [List.map_map])
    apply vn_lc1M (fa := D.int) (l := xs) (F := D.int ∘ spI ns)
    case hx => exact xe_of (vf_sl (vf_fz rfl) (of_some vf_c) oe_none hxs) rfl
    case hn => omega
    case hi => exact (show 17 < 24 by decide)
    case hfa => exact fun a _ => rfl
    case hf => exact fun a _ => rfl
    case h =>
      intro x hx
      refine vf_e2 (a := .int (x / 5 * 48271 % 10007)) (b := .int (pn ns : Nat)) (vf_e2 (vf_e2 (vf_e2 (vf_fn rfl) vf_c (fdiv_ok (by decide) (by decide))) vf_c (mul_okr (by decide) (by decide))) vf_c (mod_ok (by decide))) (vf_call (ds := [.lst (plots ns)]) (af_cons (vf_fn rfl) af_nil) (by simp [lenD, hlen])) (mod_ok (by omega))
  simp only [List.set_cons_zero, List.set_cons_succ]
  (try simp only [List.set_cons_zero, List.set_cons_succ])
  refine wp_nx (se_setN (d := .lst ((rowsA ns xs).map (kpD ns))) (ne_lc (m := .new) ?_ (flats_map (fun _ => rfl) _)) rfl rfl) ?_
  · refine ve_cast (d := .lst (xs.map (kpD ns ∘ fun x => (kdOf x, (spI ns x).toNat)))) ?_ (by rw [rowsA, List.map_map])
    apply vn_lc2M (fa := fun x => .tup [.int x, .int (spI ns x)]) (ga := D.int) (gb := fun x => .int (spI ns x)) (l := xs) (F := kpD ns ∘ fun x => (kdOf x, (spI ns x).toNat))
    case hx =>
      refine ⟨_, xe_zip' xs (spI ns) (vn_sl (vf_fz rfl) (of_some vf_c) oe_none hxs) (ve_fn rfl)⟩
    case hn => omega
    case hi => exact (show 17 < 24 by decide)
    case hj => exact (show 18 < 24 by decide)
    case hij => decide
    case hfa => exact fun a _ => ⟨rfl, rfl, rfl⟩
    case hf => exact fun a _ => rfl
    case h =>
      intro x hx
      obtain ⟨s0, s1⟩ := spI_ok ns x
      refine vf_disp (mk := .tup) (ds := [.str (kdOf x).tag, nmD ns (spI ns x).toNat]) (af_cons (vf_ix (vf_fn rfl) (vf_e2 (vf_fn rfl) vf_c (mod_ok (by decide))) (words_ix x)) (af_cons (vf_ix (a := plot ns (spI ns x).toNat) (vf_ix (vf_fn rfl) (vf_fn rfl) (ixl_nat s0 ?_)) vf_c rfl) af_nil)) rfl (by simp)
      simp [plots, s1]
  simp only [List.set_cons_zero, List.set_cons_succ]
  have hrl := roots_len ns
  (try simp only [List.set_cons_zero, List.set_cons_succ])
  refine wp_nx (se_ext (es := (rowsB ns).map (kpD ns)) (m := .new) wy_n (wayD_of (d := .lst ((rowsA ns xs).map (kpD ns))) rfl rfl) ?_ (flats_map (fun _ => rfl) _) ?_ (putW_of (d := .lst ((rowsA ns xs).map (kpD ns))) rfl rfl)) ?_
  · refine ve_cast (d := .lst (((List.range (pn ns)).filter fun i => (ppar ns i).isNone).map (kpD ns ∘ fun i => (Kd.give, i)))) ?_ (by rw [rowsB, List.map_map]; rfl)
    apply vn_lc2 (fa := plot ns) (ga := nmD ns) (gb := fun i => pD ns (ppar ns i)) (l := List.range (pn ns)) (p := fun i => (ppar ns i).isNone) (F := kpD ns ∘ fun i => (Kd.give, i))
    case hx => exact xe_of (vf_fn rfl) rfl
    case hn => simp; omega
    case hi => exact (show 12 < 24 by decide)
    case hj => exact (show 19 < 24 by decide)
    case hij => decide
    case hfa => exact fun a _ => ⟨rfl, rfl, pD_flat ns _⟩
    case hf => exact fun a _ => rfl
    case h =>
      intro i hi
      exact ⟨tf_v (vf_e1 (vf_fn rfl) (by cases ppar ns i <;> rfl)), fun _ => vf_disp (mk := .tup) (ds := [.str "give", nmD ns i]) (af_cons vf_c (af_cons (vf_fn rfl) af_nil)) rfl (by simp)⟩
  · simp [rowsA, rowsB]; omega
  rw [show (rowsA ns xs).map (kpD ns) ++ (rowsB ns).map (kpD ns) = (rowsA ns xs ++ rowsB ns).map (kpD ns) by simp]
  (try simp only [List.set_cons_zero, List.set_cons_succ])
  refine wp_froz (i := 10) rfl ?_
  (try simp only [List.set_cons_zero, List.set_cons_succ])
  refine wp_forS (m := .new) (ds := (rowsA ns xs ++ rowsB ns).map (kpD ns)) (fun k ρ => ∃ s s11 s12 s13 s14 s15 s16, St04 ns xs k s ∧ freeS s11 = true ∧ freeS s12 = true ∧ freeS s13 = true ∧ freeS s14 = true ∧ freeS s15 = true ∧ freeS s16 = true ∧ ρ = fr04 ns xs s s11 s12 s13 s14 s15 s16)
    (xe_seq (ve_fn rfl) rfl) rfl ⟨st0, _, _, _, _, _, _, ⟨st0_ok ns, st0_closed ns, fun i hi => by omega⟩, rfl, rfl, rfl, rfl, rfl, rfl, rfl⟩ ?_ ?_
  · rintro k d ρ hd ⟨s, s11, s12, s13, s14, s15, s16, hs, f11, f12, f13, f14, f15, f16, rfl⟩
    rw [List.getElem?_map] at hd
    cases e : (rowsA ns xs ++ rowsB ns)[k]? with
    | none => rw [e] at hd; cases hd
    | some q =>
      obtain ⟨t, p⟩ := q
      rw [e] at hd
      cases hd
      have hp := rows_lt ns xs _ (List.mem_of_getElem? e)
      have hk : k < 75 := by
        have := (List.getElem?_eq_some_iff.mp e).1
        simp [rowsA, rowsB] at this
        omega
      (try simp only [List.set_cons_zero, List.set_cons_succ])
      refine sg_two rfl f11 rfl rfl f12 rfl ?_
      exact one04 hs.ok (by omega) hp f13 f14 f15 f16 fun t13 t14 t15 t16 q13 q14 q15 q16 => ⟨_, _, _, _, _, _, _, hs.next hp e, rfl, rfl, q13, q14, q15, q16, rfl⟩
  rintro ρ' ⟨s, s11, s12, s13, s14, s15, s16, hs, f11, f12, f13, f14, f15, f16, rfl⟩
  rw [List.length_map] at hs
  obtain ⟨hop, hpm⟩ := hs.fin
  have hml := hs.ok.ml
  have hgl : s.given.length = s.many := by simpa using hpm.length_eq
  have hml2 : s.many ≤ 75 := by
    simp [rowsA, rowsB] at hml
    omega
  have hx : Ve (eLc (iE (eFld 0 "given" (eV 3))) [23] (gN 23) (tNotD (tE (eCall f__law_whole (aCons (eV 23) aNil)))) (eV 23)) (fr04 ns xs s s11 s12 s13 s14 s15 s16) (.lst ((s.given.filter fun _ => false).map fun k : Nat => D.int k)) .new := by
    apply vn_lc1 (fa := fun k : Nat => D.int k) (l := s.given)
    case hx => exact xe_of (vf_fld (vf_on rfl) (so_given ns s)) rfl
    case hn => omega
    case hi => exact (show 23 < 24 by decide)
    case hfa => exact fun a _ => rfl
    case hf => exact fun a _ => rfl
    case h => exact fun z hz => ⟨te_not (b := true) (tf_v (vf_call (ds := [.int (z : Nat)]) (af_cons (vf_fn rfl) af_nil) (whole_int z))), fun q => by cases q⟩
  rw [show s.given.filter (fun _ => false) = [] from List.filter_eq_nil_iff.mpr fun _ _ => by simp] at hx
  (try simp only [List.set_cons_zero, List.set_cons_succ])
  refine wp_g (b := false) (te_or_f (b := false) (te_not (b := true) (tf_v (vf_e1 (vf_fld (vf_on rfl) (so_given ns s)) rfl))) (tf_v (vf_e2 ⟨_, hx⟩ (vf_disp (mk := .lst) (ds := []) af_nil rfl (by simp)) rfl))) (fun q => by cases q) (fun _ => ?_)
  have hsrt : srtD [.lst (gvL s)] = some (.lst (((List.range s.many).map fun k : Nat => (k : Int)).map D.int)) := by
    rw [show gvL s = (s.given.map fun k : Nat => (k : Int)).map D.int by simp [gvL]]
    refine srt_ints ((hpm.symm).map _) ?_
    rw [List.pairwise_map]
    exact (List.pairwise_lt_range (n := s.many)).imp fun h => by omega
  have hrg : lrgD (.int (s.many : Nat)) = some (.lst (((List.range s.many).map fun k : Nat => (k : Int)).map D.int)) := by
    show (if 0 ≤ ((s.many : Nat) : Int) ∧ ((s.many : Nat) : Int) ≤ 16777216 then some (D.lst (rangeL _)) else none) = _
    rw [if_pos ⟨by omega, by omega⟩, rangeL, List.map_map]
    rfl
  have heq : eqDD (.lst (((List.range s.many).map fun k : Nat => (k : Int)).map D.int)) (.lst (((List.range s.many).map fun k : Nat => (k : Int)).map D.int)) = some (.bl true) := by
    have := (enc_lst enc_int).eq (a := (List.range s.many).map fun k : Nat => (k : Int)) (b := (List.range s.many).map fun k : Nat => (k : Int)) (fun _ _ => trivial) (fun _ _ => trivial)
    simpa using this
  have hpl : eqDD (.lst (plots ns)) (.lst (plots ns)) = some (.bl true) := eq_refl (dk_plots ns 62)
  exact wp_ret (d := .bl true) (vf_and_t (vf_e2 (vf_call (ds := [.lst (gvL s)]) (af_cons (vf_fld (vf_on rfl) (so_given ns s)) af_nil) hsrt) (vf_e1 (vf_fn rfl) hrg) heq) (vf_and_t (vf_e2 (vf_fld (vf_on rfl) (so_opened ns st0)) vf_c eq_int) (vf_and_t (vf_e2 (vf_fld (vf_on rfl) (so_given ns st0)) (vf_disp (mk := .lst) (ds := []) af_nil rfl (by simp)) rfl) (vf_e2 (vf_fn rfl) (vf_fn rfl) hpl)))) rfl rfl
end K04

namespace K04
open PySem L2 DL
def top (i : Nat) : Stmt := PySem.Challenge.pw_plotfree_k04_plots_opened_and_given.main.body.getD i (.Pass ⟨0, 0, 0, 0⟩)
abbrev s_Store___init__ : Stmt := inClass (top 3) 0
abbrev N_Store___init__ : List Str := ["self", "plots"]
theorem sc_Store___init__ : FnScope N_Store___init__ ["self", "plots"] (defScope s_Store___init__) := ⟨rfl, rfl, rfl, by decide +kernel, rfl, by decide +kernel, by decide +kernel⟩
abbrev s_Store_number_of : Stmt := inClass (top 3) 1
abbrev N_Store_number_of : List Str := ["self", "plot", "name", "number"]
theorem sc_Store_number_of : FnScope N_Store_number_of ["self", "plot"] (defScope s_Store_number_of) := ⟨rfl, rfl, rfl, by decide +kernel, rfl, by decide +kernel, by decide +kernel⟩
abbrev s_Store_laid : Stmt := inClass (top 3) 3
abbrev N_Store_laid : List Str := ["self", "name", "plot", "worth", "number"]
theorem sc_Store_laid : FnScope N_Store_laid ["self", "name", "plot", "worth"] (defScope s_Store_laid) := ⟨rfl, rfl, rfl, by decide +kernel, rfl, by decide +kernel, by decide +kernel⟩
abbrev s_outward : Stmt := top 1
abbrev N_outward : List Str := ["plots", "plot", "outers", "name", "outer", "found"]
theorem sc_outward : FnScope N_outward ["plots", "plot"] (defScope s_outward) := ⟨rfl, rfl, rfl, by decide +kernel, rfl, by decide +kernel, by decide +kernel⟩
abbrev s_Store_begun : Stmt := inClass (top 3) 5
abbrev N_Store_begun : List Str := ["self", "plot", "around"]
theorem sc_Store_begun : FnScope N_Store_begun ["self", "plot"] (defScope s_Store_begun) := ⟨rfl, rfl, rfl, by decide +kernel, rfl, by decide +kernel, by decide +kernel⟩
abbrev s_Store_lack : Stmt := inClass (top 3) 2
abbrev N_Store_lack : List Str := ["self", "name", "plot", "number"]
theorem sc_Store_lack : FnScope N_Store_lack ["self", "name"] (defScope s_Store_lack) := ⟨rfl, rfl, rfl, by decide +kernel, rfl, by decide +kernel, by decide +kernel⟩
abbrev s_Store_worth_of : Stmt := inClass (top 3) 4
abbrev N_Store_worth_of : List Str := ["self", "name"]
theorem sc_Store_worth_of : FnScope N_Store_worth_of ["self", "name"] (defScope s_Store_worth_of) := ⟨rfl, rfl, rfl, by decide +kernel, rfl, by decide +kernel, by decide +kernel⟩
abbrev s_Store_copied : Stmt := inClass (top 3) 6
abbrev N_Store_copied : List Str := ["self", "name", "other", "plot", "word"]
theorem sc_Store_copied : FnScope N_Store_copied ["self", "name", "other", "plot"] (defScope s_Store_copied) := ⟨rfl, rfl, rfl, by decide +kernel, rfl, by decide +kernel, by decide +kernel⟩
abbrev s_Store_shared : Stmt := inClass (top 3) 7
abbrev N_Store_shared : List Str := ["self", "name", "other"]
theorem sc_Store_shared : FnScope N_Store_shared ["self", "name", "other"] (defScope s_Store_shared) := ⟨rfl, rfl, rfl, by decide +kernel, rfl, by decide +kernel, by decide +kernel⟩
abbrev s_Store_grown : Stmt := inClass (top 3) 8
abbrev N_Store_grown : List Str := ["self", "name", "other", "one", "word"]
theorem sc_Store_grown : FnScope N_Store_grown ["self", "name", "other"] (defScope s_Store_grown) := ⟨rfl, rfl, rfl, by decide +kernel, rfl, by decide +kernel, by decide +kernel⟩
abbrev s_Store_said : Stmt := inClass (top 3) 9
abbrev N_Store_said : List Str := ["self", "name", "word"]
theorem sc_Store_said : FnScope N_Store_said ["self", "name"] (defScope s_Store_said) := ⟨rfl, rfl, rfl, by decide +kernel, rfl, by decide +kernel, by decide +kernel⟩
abbrev s_Store_gone : Stmt := inClass (top 3) 10
abbrev N_Store_gone : List Str := ["self", "plot", "left", "gone", "name", "number"]
theorem sc_Store_gone : FnScope N_Store_gone ["self", "plot"] (defScope s_Store_gone) := ⟨rfl, rfl, rfl, by decide +kernel, rfl, by decide +kernel, by decide +kernel⟩
abbrev s_Store_do : Stmt := inClass (top 3) 11
abbrev N_Store_do : List Str := ["self", "row", "word"]
theorem sc_Store_do : FnScope N_Store_do ["self", "row"] (defScope s_Store_do) := ⟨rfl, rfl, rfl, by decide +kernel, rfl, by decide +kernel, by decide +kernel⟩
abbrev s__law_whole : Stmt := top 6
abbrev N__law_whole : List Str := ["_law_thing"]
theorem sc__law_whole : FnScope N__law_whole ["_law_thing"] (defScope s__law_whole) := ⟨rfl, rfl, rfl, by decide +kernel, rfl, by decide +kernel, by decide +kernel⟩
abbrev s__law_at : Stmt := top 5
abbrev N__law_at : List Str := ["_law_script", "_law_k"]
theorem sc__law_at : FnScope N__law_at ["_law_script", "_law_k"] (defScope s__law_at) := ⟨rfl, rfl, rfl, by decide +kernel, rfl, by decide +kernel, by decide +kernel⟩
abbrev s__law_called : Stmt := top 7
abbrev N__law_called : List Str := ["_law_cell", "_law_k", "_law_signs", "_law_letters", "_law_turned", "_law_size", "_law_tail", "_law_at_here", "_law_j"]
theorem sc__law_called : FnScope N__law_called ["_law_cell", "_law_k", "_law_signs"] (defScope s__law_called) := ⟨rfl, rfl, rfl, by decide +kernel, rfl, by decide +kernel, by decide +kernel⟩
abbrev s__law_plots : Stmt := top 8
abbrev N__law_plots : List Str := ["_law_script", "_law_many", "_law_plots_here", "_law_k", "_law_pick", "_law_outer"]
theorem sc__law_plots : FnScope N__law_plots ["_law_script"] (defScope s__law_plots) := ⟨rfl, rfl, rfl, by decide +kernel, rfl, by decide +kernel, by decide +kernel⟩
abbrev s__law_outward : Stmt := top 9
abbrev N__law_outward : List Str := ["_law_plots_here", "_law_plot", "_law_found", "_law_name", "_law_outer"]
theorem sc__law_outward : FnScope N__law_outward ["_law_plots_here", "_law_plot"] (defScope s__law_outward) := ⟨rfl, rfl, rfl, by decide +kernel, rfl, by decide +kernel, by decide +kernel⟩
abbrev s__law_word_of : Stmt := top 10
abbrev N__law_word_of : List Str := ["_law_plots_here", "_law_up", "_law_word", "_law_plot", "_law_there", "_law_name", "_law_number"]
theorem sc__law_word_of : FnScope N__law_word_of ["_law_plots_here", "_law_up", "_law_word", "_law_plot"] (defScope s__law_word_of) := ⟨rfl, rfl, rfl, by decide +kernel, rfl, by decide +kernel, by decide +kernel⟩
abbrev s__law_given : Stmt := top 11
abbrev N__law_given : List Str := ["_law_plots_here", "_law_up", "_law_plot", "_law_pair"]
theorem sc__law_given : FnScope N__law_given ["_law_plots_here", "_law_up", "_law_plot"] (defScope s__law_given) := ⟨rfl, rfl, rfl, by decide +kernel, rfl, by decide +kernel, by decide +kernel⟩
abbrev s_law : Stmt := top 12
abbrev N_law : List Str := ["_law_script", "_law_plots_here", "_law_handed", "_law_store", "_law_other", "_law_up", "_law_many", "_law_given_here", "_law_words", "_law_spots", "_law_rows", "_law_word", "_law_plot", "_law_due", "_law_row", "_law_found", "_law_gone", "_law_cell", "_law_spot", "_law_outer", "_law_name", "_law_number", "_law_pair", "_law_one"]
theorem sc_law : FnScope N_law ["_law_script"] (defScope s_law) := ⟨rfl, rfl, rfl, by decide +kernel, rfl, by decide +kernel, by decide +kernel⟩
/-- the classes: their attributes are fields -/
structure Cm (K : PySem.W.Frag) (cm : Nat → Addr) : Prop where
  c0 : Cls K (cm 0)
  a0_plots : NoAttr K (cm 0) "plots"
  a0_there : NoAttr K (cm 0) "there"
  a0_worth : NoAttr K (cm 0) "worth"
  a0_held : NoAttr K (cm 0) "held"
  a0_told : NoAttr K (cm 0) "told"
  a0_opened : NoAttr K (cm 0) "opened"
  a0_given : NoAttr K (cm 0) "given"
section
variable {P : Program} {w : World} {K : PySem.W.Frag} {mg : Str → Option Value} {base : Heap} {cm : Nat → Addr}
theorem ok_Store___init__ {f : Addr} {fd : FuncData} (F : Fun K "__init__" "Store.__init__" s_Store___init__ f fd) (T : Bm mg) (TC : Cm K cm) : FnOk P w K mg base CX0 1 f fd ["self", "plots"] (spC K cm [true, false] f_Store___init__) := by
  have key := @fn_chg P w K mg base cm "__init__" "Store.__init__" s_Store___init__ f fd N_Store___init__ ["self", "plots"] 0 [true, false] b_Store___init__ F sc_Store___init__ (by decide) rfl
  refine key fun cdv A outer s H E hr => ?_
  have NN := sc_Store___init__.nd
  exact (pub_cons (pus_fldY 0 TC.c0 TC.a0_plots (puy_new (pn_lstc T.list (pua_cons (pu_var 1) pua_nil))) (pul_name 0))
    (pub_cons (pus_fldY 0 TC.c0 TC.a0_there (puy_new (pn_lst pns_nil)) (pul_name 0))
    (pub_cons (pus_fldY 0 TC.c0 TC.a0_worth (puy_new (pn_lst pns_nil)) (pul_name 0))
    (pub_cons (pus_fldY 0 TC.c0 TC.a0_held (puy_new pn_dic0) (pul_name 0))
    (pub_cons (pus_fldY 0 TC.c0 TC.a0_told (puy_new (pn_lst pns_nil)) (pul_name 0))
    (pub_cons (pus_fldY 0 TC.c0 TC.a0_opened (puy_new (pn_flat pu_int)) (pul_name 0))
    (pub_one (pus_fldY 0 TC.c0 TC.a0_given (puy_new (pn_lst pns_nil)) (pul_name 0)))))))))
theorem ok_Store_number_of {f : Addr} {fd : FuncData} (F : Fun K "number_of" "Store.number_of" s_Store_number_of f fd) (T : Bm mg) (TC : Cm K cm) : FnOk P w K mg base CX0 1 f fd ["self", "plot"] (spP K cm f_Store_number_of) := by
  have key := @fn_pure P w K mg base cm "number_of" "Store.number_of" s_Store_number_of f fd N_Store_number_of ["self", "plot"] 0 b_Store_number_of F sc_Store_number_of (by decide)
  refine key fun cdv A outer s H E hr => ?_
  have NN := sc_Store_number_of.nd
  exact (pub_cons (pus_for (pui_seq (pu_fld 0 TC.c0 TC.a0_there (pu_var 0))) (pug_tup (pugs_cons 2 NN (pugs_cons 3 NN pugs_nil))) (pub_one (pus_if (put_eq (hu64 hr) (pu_var 2) (pu_var 1)) (pub_one (pus_ret (pu_var 3))) pub_nil)))
    (pub_one (pus_ret pu_non)))
theorem ok_Store_laid {f : Addr} {fd : FuncData} (F : Fun K "laid" "Store.laid" s_Store_laid f fd) (T : Bm mg) (TC : Cm K cm) (C_Store_number_of : MetP P w K mg base cm 1 0 "number_of" f_Store_number_of) : FnOk P w K mg base CX0 2 f fd ["self", "name", "plot", "worth"] (spC K cm [true, false, false, false] f_Store_laid) := by
  have key := @fn_chg P w K mg base cm "laid" "Store.laid" s_Store_laid f fd N_Store_laid ["self", "name", "plot", "worth"] 1 [true, false, false, false] b_Store_laid F sc_Store_laid (by decide) rfl
  refine key fun cdv A outer s H E hr => ?_
  have NN := sc_Store_laid.nd
  exact (pub_cons (pus_set 4 NN (pu_meth _ C_Store_number_of hr (by decide) (pu_var 0) (pua_cons (pu_var 2) pua_nil)))
    (pub_cons (pus_if (put_isN (pu_var 4)) (pub_one (pus_ret pu_str)) pub_nil)
    (pub_cons (pus_app (pul_fld 0 TC.c0 TC.a0_worth (pul_name 0)) (pn_lst (pns_cons (pn_flat (pu_var 3)) (pns_cons (pn_flat (pu_var 4)) pns_nil))))
    (pub_cons (pus_sub (hu1 hr) (pn_flat (pu_sub (pu_len T.len (pua_cons (pu_fld 0 TC.c0 TC.a0_worth (pu_var 0)) pua_nil)) pu_int)) (pul_fld 0 TC.c0 TC.a0_held (pul_name 0)) (pu_var 1))
    (pub_one (pus_ret pu_str))))))
theorem ok_outward {f : Addr} {fd : FuncData} (F : Fun K "outward" "outward" s_outward f fd) (T : Bm mg) (TC : Cm K cm) : FnOk P w K mg base CX0 1 f fd ["plots", "plot"] (spP K cm f_outward) := by
  have key := @fn_pure P w K mg base cm "outward" "outward" s_outward f fd N_outward ["plots", "plot"] 0 b_outward F sc_outward (by decide)
  refine key fun cdv A outer s H E hr => ?_
  have NN := sc_outward.nd
  exact (pub_cons (pus_setN 2 NN pn_dic0)
    (pub_cons (pus_for (pui_seq (pu_var 0)) (pug_tup (pugs_cons 3 NN (pugs_cons 4 NN pugs_nil))) (pub_one (pus_sub (hu1 hr) (pn_flat (pu_var 4)) (pul_name 2) (pu_var 3))))
    (pub_cons (pus_setN 5 NN (pn_lst pns_nil))
    (pub_cons (pus_while (put_notN (pu_var 1)) (pub_cons (pus_app (pul_name 5) (pn_flat (pu_var 1)))
    (pub_one (pus_set 1 NN (pu_ix (hu1 hr) (pu_var 2) (pu_var 1))))))
    (pub_one (pus_retOn 5))))))
theorem ok_Store_begun {f : Addr} {fd : FuncData} (F : Fun K "begun" "Store.begun" s_Store_begun f fd) (T : Bm mg) (TC : Cm K cm) (C_Store_number_of : MetP P w K mg base cm 1 0 "number_of" f_Store_number_of) (C_outward : CalP P w K mg base cm 1 "outward" f_outward) : FnOk P w K mg base CX0 2 f fd ["self", "plot"] (spC K cm [true, false] f_Store_begun) := by
  have key := @fn_chg P w K mg base cm "begun" "Store.begun" s_Store_begun f fd N_Store_begun ["self", "plot"] 1 [true, false] b_Store_begun F sc_Store_begun (by decide) rfl
  refine key fun cdv A outer s H E hr => ?_
  have NN := sc_Store_begun.nd
  exact (pub_cons (pus_if (put_notN (pu_meth _ C_Store_number_of hr (by decide) (pu_var 0) (pua_cons (pu_var 1) pua_nil))) (pub_one (pus_ret pu_str)) pub_nil)
    (pub_cons (pus_set 2 NN (pu_sl (pu_call C_outward hr (by decide) (pua_cons (pu_fld 0 TC.c0 TC.a0_plots (pu_var 0)) (pua_cons (pu_var 1) pua_nil))) (puo_some pu_int) (puo_some pu_int)))
    (pub_cons (pus_if (putw_and (put_ne (hu64 hr) (pu_var 2) (pu_lst pua_nil)) (putw_one_and (put_isN (pu_meth _ C_Store_number_of hr (by decide) (pu_var 0) (pua_cons (pu_ix (hu1 hr) (pu_var 2) pu_int) pua_nil))))).pt (pub_one (pus_ret pu_str)) pub_nil)
    (pub_cons (pus_app (pul_fld 0 TC.c0 TC.a0_there (pul_name 0)) (pn_flat (pu_tup (pua_cons (pu_var 1) (pua_cons (pu_fld 0 TC.c0 TC.a0_opened (pu_var 0)) pua_nil)))))
    (pub_cons (pus_fldA 0 TC.c0 TC.a0_opened pu_int (pul_name 0))
    (pub_one (pus_ret pu_str)))))))
theorem ok_Store_lack {f : Addr} {fd : FuncData} (F : Fun K "lack" "Store.lack" s_Store_lack f fd) (T : Bm mg) (TC : Cm K cm) : FnOk P w K mg base CX0 1 f fd ["self", "name"] (spP K cm f_Store_lack) := by
  have key := @fn_pure P w K mg base cm "lack" "Store.lack" s_Store_lack f fd N_Store_lack ["self", "name"] 0 b_Store_lack F sc_Store_lack (by decide)
  refine key fun cdv A outer s H E hr => ?_
  have NN := sc_Store_lack.nd
  exact (pub_cons (pus_if (put_nin (hu65 hr) (pu_var 1) (pu_fld 0 TC.c0 TC.a0_held (pu_var 0))) (pub_one (pus_ret pu_str)) pub_nil)
    (pub_cons (pus_for (pui_seq (pu_fld 0 TC.c0 TC.a0_there (pu_var 0))) (pug_tup (pugs_cons 2 NN (pugs_cons 3 NN pugs_nil))) (pub_one (pus_if (put_eq (hu64 hr) (pu_var 3) (pu_ix (hu1 hr) (pu_ix (hu1 hr) (pu_fld 0 TC.c0 TC.a0_worth (pu_var 0)) (pu_ix (hu1 hr) (pu_fld 0 TC.c0 TC.a0_held (pu_var 0)) (pu_var 1))) pu_int)) (pub_one (pus_ret pu_str)) pub_nil)))
    (pub_one (pus_ret pu_str))))
theorem ok_Store_worth_of {f : Addr} {fd : FuncData} (F : Fun K "worth_of" "Store.worth_of" s_Store_worth_of f fd) (T : Bm mg) (TC : Cm K cm) : FnOk P w K mg base CX0 1 f fd ["self", "name"] (spP K cm f_Store_worth_of) := by
  have key := @fn_pure P w K mg base cm "worth_of" "Store.worth_of" s_Store_worth_of f fd N_Store_worth_of ["self", "name"] 0 b_Store_worth_of F sc_Store_worth_of (by decide)
  refine key fun cdv A outer s H E hr => ?_
  have NN := sc_Store_worth_of.nd
  exact (pub_one (pus_ret (pu_ix (hu1 hr) (pu_ix (hu1 hr) (pu_fld 0 TC.c0 TC.a0_worth (pu_var 0)) (pu_ix (hu1 hr) (pu_fld 0 TC.c0 TC.a0_held (pu_var 0)) (pu_var 1))) pu_int)))
theorem ok_Store_copied {f : Addr} {fd : FuncData} (F : Fun K "copied" "Store.copied" s_Store_copied f fd) (T : Bm mg) (TC : Cm K cm) (C_Store_lack : MetP P w K mg base cm 1 0 "lack" f_Store_lack) (C_Store_laid : MetC P w K mg base cm 2 0 "laid" [true, false, false, false] f_Store_laid) (C_Store_worth_of : MetP P w K mg base cm 1 0 "worth_of" f_Store_worth_of) : FnOk P w K mg base CX0 3 f fd ["self", "name", "other", "plot"] (spC K cm [true, false, false, false] f_Store_copied) := by
  have key := @fn_chg P w K mg base cm "copied" "Store.copied" s_Store_copied f fd N_Store_copied ["self", "name", "other", "plot"] 2 [true, false, false, false] b_Store_copied F sc_Store_copied (by decide) rfl
  refine key fun cdv A outer s H E hr => ?_
  have NN := sc_Store_copied.nd
  exact (pub_cons (pus_set 4 NN (pu_meth _ C_Store_lack hr (by decide) (pu_var 0) (pua_cons (pu_var 2) pua_nil)))
    (pub_cons (pus_if (put_ne (hu64 hr) (pu_var 4) pu_str) (pub_one (pus_ret (pu_var 4))) pub_nil)
    (pub_one (pus_retM (pum_meth 0 _ C_Store_laid hr (by decide) (puc_rd (pu_var 1) (puc_rd (pu_var 3) (puc_rd (pu_meth _ C_Store_worth_of hr (by decide) (pu_var 0) (pua_cons (pu_var 2) pua_nil)) puc_nil))))))))
theorem ok_Store_shared {f : Addr} {fd : FuncData} (F : Fun K "shared" "Store.shared" s_Store_shared f fd) (T : Bm mg) (TC : Cm K cm) : FnOk P w K mg base CX0 1 f fd ["self", "name", "other"] (spC K cm [true, false, false] f_Store_shared) := by
  have key := @fn_chg P w K mg base cm "shared" "Store.shared" s_Store_shared f fd N_Store_shared ["self", "name", "other"] 0 [true, false, false] b_Store_shared F sc_Store_shared (by decide) rfl
  refine key fun cdv A outer s H E hr => ?_
  have NN := sc_Store_shared.nd
  exact (pub_cons (pus_if (put_nin (hu65 hr) (pu_var 2) (pu_fld 0 TC.c0 TC.a0_held (pu_var 0))) (pub_one (pus_ret pu_str)) pub_nil)
    (pub_cons (pus_sub (hu1 hr) (pn_flat (pu_ix (hu1 hr) (pu_fld 0 TC.c0 TC.a0_held (pu_var 0)) (pu_var 2))) (pul_fld 0 TC.c0 TC.a0_held (pul_name 0)) (pu_var 1))
    (pub_one (pus_ret pu_str))))
theorem ok_Store_grown {f : Addr} {fd : FuncData} (F : Fun K "grown" "Store.grown" s_Store_grown f fd) (T : Bm mg) (TC : Cm K cm) (C_Store_lack : MetP P w K mg base cm 1 0 "lack" f_Store_lack) (C_Store_worth_of : MetP P w K mg base cm 1 0 "worth_of" f_Store_worth_of) : FnOk P w K mg base CX0 2 f fd ["self", "name", "other"] (spC K cm [true, false, false] f_Store_grown) := by
  have key := @fn_chg P w K mg base cm "grown" "Store.grown" s_Store_grown f fd N_Store_grown ["self", "name", "other"] 1 [true, false, false] b_Store_grown F sc_Store_grown (by decide) rfl
  refine key fun cdv A outer s H E hr => ?_
  have NN := sc_Store_grown.nd
  exact (pub_cons (pus_for (pui_seq (pu_tup (pua_cons (pu_var 1) (pua_cons (pu_var 2) pua_nil)))) (pug_name 3 NN) (pub_cons (pus_set 4 NN (pu_meth _ C_Store_lack hr (by decide) (pu_var 0) (pua_cons (pu_var 3) pua_nil)))
    (pub_one (pus_if (put_ne (hu64 hr) (pu_var 4) pu_str) (pub_one (pus_ret (pu_var 4))) pub_nil))))
    (pub_cons (pus_augP (hu1 hr) (pul_ix (hu1 hr) (pul_fld 0 TC.c0 TC.a0_worth (pul_name 0)) (pu_ix (hu1 hr) (pu_fld 0 TC.c0 TC.a0_held (pu_var 0)) (pu_var 1))) pu_int (pu_meth _ C_Store_worth_of hr (by decide) (pu_var 0) (pua_cons (pu_var 2) pua_nil)))
    (pub_one (pus_ret pu_str))))
theorem ok_Store_said {f : Addr} {fd : FuncData} (F : Fun K "said" "Store.said" s_Store_said f fd) (T : Bm mg) (TC : Cm K cm) (C_Store_lack : MetP P w K mg base cm 1 0 "lack" f_Store_lack) (C_Store_worth_of : MetP P w K mg base cm 1 0 "worth_of" f_Store_worth_of) : FnOk P w K mg base CX0 2 f fd ["self", "name"] (spC K cm [true, false] f_Store_said) := by
  have key := @fn_chg P w K mg base cm "said" "Store.said" s_Store_said f fd N_Store_said ["self", "name"] 1 [true, false] b_Store_said F sc_Store_said (by decide) rfl
  refine key fun cdv A outer s H E hr => ?_
  have NN := sc_Store_said.nd
  exact (pub_cons (pus_set 2 NN (pu_meth _ C_Store_lack hr (by decide) (pu_var 0) (pua_cons (pu_var 1) pua_nil)))
    (pub_cons (pus_if (put_eq (hu64 hr) (pu_var 2) pu_str) (pub_one (pus_app (pul_fld 0 TC.c0 TC.a0_told (pul_name 0)) (pn_flat (pu_meth _ C_Store_worth_of hr (by decide) (pu_var 0) (pua_cons (pu_var 1) pua_nil))))) pub_nil)
    (pub_one (pus_ret (pu_var 2)))))
theorem ok_Store_gone {f : Addr} {fd : FuncData} (F : Fun K "gone" "Store.gone" s_Store_gone f fd) (T : Bm mg) (TC : Cm K cm) (C_Store_number_of : MetP P w K mg base cm 1 0 "number_of" f_Store_number_of) (C_outward : CalP P w K mg base cm 1 "outward" f_outward) : FnOk P w K mg base CX0 2 f fd ["self", "plot"] (spC K cm [true, false] f_Store_gone) := by
  have key := @fn_chg P w K mg base cm "gone" "Store.gone" s_Store_gone f fd N_Store_gone ["self", "plot"] 1 [true, false] b_Store_gone F sc_Store_gone (by decide) rfl
  refine key fun cdv A outer s H E hr => ?_
  have NN := sc_Store_gone.nd
  exact (pub_cons (pus_if (put_isN (pu_meth _ C_Store_number_of hr (by decide) (pu_var 0) (pua_cons (pu_var 1) pua_nil))) (pub_one (pus_ret pu_str)) pub_nil)
    (pub_cons (pus_setN 2 NN (pn_lst pns_nil))
    (pub_cons (pus_setN 3 NN (pn_lst pns_nil))
    (pub_cons (pus_lock 0 (pus_for (pui_seq (pu_fld 0 TC.c0 TC.a0_there (pu_var 0))) (pug_tup (pugs_cons 4 NN (pugs_cons 5 NN pugs_nil))) (pub_one (pus_if (put_in (hu65 hr) (pu_var 1) (pu_call C_outward hr (by decide) (pua_cons (pu_fld 0 TC.c0 TC.a0_plots (pu_var 0)) (pua_cons (pu_var 4) pua_nil)))) (pub_one (pus_app (pul_name 3) (pn_flat (pu_var 5)))) (pub_one (pus_app (pul_name 2) (pn_flat (pu_tup (pua_cons (pu_var 4) (pua_cons (pu_var 5) pua_nil))))))))))
    (pub_cons (pus_fldY 0 TC.c0 TC.a0_there (puy_mv 2) (pul_name 0))
    (pub_cons (pus_ext (pul_fld 0 TC.c0 TC.a0_given (pul_name 0)) (pu_rev (pu_var 3)))
    (pub_one (pus_ret pu_str))))))))
theorem ok_Store_do {f : Addr} {fd : FuncData} (F : Fun K "do" "Store.do" s_Store_do f fd) (T : Bm mg) (TC : Cm K cm) (C_Store_begun : MetC P w K mg base cm 2 0 "begun" [true, false] f_Store_begun) (C_Store_laid : MetC P w K mg base cm 2 0 "laid" [true, false, false, false] f_Store_laid) (C_Store_copied : MetC P w K mg base cm 3 0 "copied" [true, false, false, false] f_Store_copied) (C_Store_shared : MetC P w K mg base cm 1 0 "shared" [true, false, false] f_Store_shared) (C_Store_grown : MetC P w K mg base cm 2 0 "grown" [true, false, false] f_Store_grown) (C_Store_said : MetC P w K mg base cm 2 0 "said" [true, false] f_Store_said) (C_Store_gone : MetC P w K mg base cm 2 0 "gone" [true, false] f_Store_gone) : FnOk P w K mg base CX0 4 f fd ["self", "row"] (spC K cm [true, false] f_Store_do) := by
  have key := @fn_chg P w K mg base cm "do" "Store.do" s_Store_do f fd N_Store_do ["self", "row"] 3 [true, false] b_Store_do F sc_Store_do (by decide) rfl
  refine key fun cdv A outer s H E hr => ?_
  have NN := sc_Store_do.nd
  exact (pub_cons (pus_set 2 NN (pu_ix (hu1 hr) (pu_var 1) pu_int))
    (pub_cons (pus_if (put_eq (hu64 hr) (pu_var 2) pu_str) (pub_one (pus_retM (pum_meth 0 _ C_Store_begun hr (by decide) (puc_rd (pu_ix (hu1 hr) (pu_var 1) pu_int) puc_nil)))) pub_nil)
    (pub_cons (pus_if (put_eq (hu64 hr) (pu_var 2) pu_str) (pub_one (pus_retM (pum_meth 0 _ C_Store_laid hr (by decide) (puc_rd (pu_ix (hu1 hr) (pu_var 1) pu_int) (puc_rd (pu_ix (hu1 hr) (pu_var 1) pu_int) (puc_rd (pu_ix (hu1 hr) (pu_var 1) pu_int) puc_nil)))))) pub_nil)
    (pub_cons (pus_if (put_eq (hu64 hr) (pu_var 2) pu_str) (pub_one (pus_retM (pum_meth 0 _ C_Store_copied hr (by decide) (puc_rd (pu_ix (hu1 hr) (pu_var 1) pu_int) (puc_rd (pu_ix (hu1 hr) (pu_var 1) pu_int) (puc_rd (pu_ix (hu1 hr) (pu_var 1) pu_int) puc_nil)))))) pub_nil)
    (pub_cons (pus_if (put_eq (hu64 hr) (pu_var 2) pu_str) (pub_one (pus_retM (pum_meth 0 _ C_Store_shared hr (by decide) (puc_rd (pu_ix (hu1 hr) (pu_var 1) pu_int) (puc_rd (pu_ix (hu1 hr) (pu_var 1) pu_int) puc_nil))))) pub_nil)
    (pub_cons (pus_if (put_eq (hu64 hr) (pu_var 2) pu_str) (pub_one (pus_retM (pum_meth 0 _ C_Store_grown hr (by decide) (puc_rd (pu_ix (hu1 hr) (pu_var 1) pu_int) (puc_rd (pu_ix (hu1 hr) (pu_var 1) pu_int) puc_nil))))) pub_nil)
    (pub_cons (pus_if (put_eq (hu64 hr) (pu_var 2) pu_str) (pub_one (pus_retM (pum_meth 0 _ C_Store_said hr (by decide) (puc_rd (pu_ix (hu1 hr) (pu_var 1) pu_int) puc_nil)))) pub_nil)
    (pub_cons (pus_if (put_eq (hu64 hr) (pu_var 2) pu_str) (pub_one (pus_retM (pum_meth 0 _ C_Store_gone hr (by decide) (puc_rd (pu_ix (hu1 hr) (pu_var 1) pu_int) puc_nil)))) pub_nil)
    (pub_cons (pus_if (put_ne (hu64 hr) (pu_fld 0 TC.c0 TC.a0_there (pu_var 0)) (pu_lst pua_nil)) (pub_one (pus_ret pu_str)) pub_nil)
    (pub_one (pus_ret pu_str)))))))))))
theorem ok__law_whole {f : Addr} {fd : FuncData} (F : Fun K "_law_whole" "_law_whole" s__law_whole f fd) (T : Bm mg) (TC : Cm K cm) : FnOk P w K mg base CX0 1 f fd ["_law_thing"] (spP K cm f__law_whole) := by
  have key := @fn_pure P w K mg base cm "_law_whole" "_law_whole" s__law_whole f fd N__law_whole ["_law_thing"] 0 b__law_whole F sc__law_whole (by decide)
  refine key fun cdv A outer s H E hr => ?_
  have NN := sc__law_whole.nd
  exact (pub_one (pus_ret (pu_and (pu_isi .int T.isinstance T.int (by decide +kernel) (pu_var 0)) (pu_one (pu_not (pu_isi .bool T.isinstance T.bool (by decide +kernel) (pu_var 0)))))))
theorem ok__law_at {f : Addr} {fd : FuncData} (F : Fun K "_law_at" "_law_at" s__law_at f fd) (T : Bm mg) (TC : Cm K cm) : FnOk P w K mg base CX0 1 f fd ["_law_script", "_law_k"] (spP K cm f__law_at) := by
  have key := @fn_pure P w K mg base cm "_law_at" "_law_at" s__law_at f fd N__law_at ["_law_script", "_law_k"] 0 b__law_at F sc__law_at (by decide)
  refine key fun cdv A outer s H E hr => ?_
  have NN := sc__law_at.nd
  exact (pub_cons (pus_if (put_lt (pu_var 1) (pu_len T.len (pua_cons (pu_var 0) pua_nil))) (pub_one (pus_ret (pu_ix (hu1 hr) (pu_var 0) (pu_var 1)))) pub_nil)
    (pub_one (pus_ret pu_int)))
theorem ok__law_called {f : Addr} {fd : FuncData} (F : Fun K "_law_called" "_law_called" s__law_called f fd) (T : Bm mg) (TC : Cm K cm) : FnOk P w K mg base CX0 1 f fd ["_law_cell", "_law_k", "_law_signs"] (spP K cm f__law_called) := by
  have key := @fn_pure P w K mg base cm "_law_called" "_law_called" s__law_called f fd N__law_called ["_law_cell", "_law_k", "_law_signs"] 0 b__law_called F sc__law_called (by decide)
  refine key fun cdv A outer s H E hr => ?_
  have NN := sc__law_called.nd
  exact (pub_cons (pus_set 3 NN pu_str)
    (pub_cons (pus_set 4 NN (pu_add (pu_var 0) (pu_mul (pu_mul pu_int (pu_var 1)) (pu_mod (pu_var 0) pu_int))))
    (pub_cons (pus_set 5 NN (pu_mod (pu_fdiv (pu_var 4) pu_int) (pu_sub pu_int (pu_len T.len (pua_cons (pu_var 2) pua_nil)))))
    (pub_cons (pus_set 6 NN (pu_join pu_str (pu_lc (own := [("_law_j", 8)]) NN (pui_range T.range (pu_var 5)) (blkOk_by (own := [("_law_j", 8)]) (N := N__law_called) (sc := defScope s__law_called) (by decide +kernel)) (fun _ _ _ _ _ => (pug_name 8 NN)) (fun _ _ _ _ _ => puts_nil) (fun _ _ _ _ _ => (pu_ix (hu1 hr) (pu_var 3) (pu_mod (pu_add (pu_var 4) (pu_mul (pu_mul pu_int (pu_var 8)) (pu_add pu_int (pu_mod (pu_var 4) pu_int)))) pu_int))))))
    (pub_cons (pus_set 7 NN (pu_var 5))
    (pub_cons (pus_if (put_eq (hu64 hr) (pu_mod (pu_var 0) pu_int) pu_int) (pub_one (pus_set 7 NN (pu_mod (pu_fdiv (pu_var 0) pu_int) (pu_add (pu_var 5) pu_int)))) pub_nil)
    (pub_one (pus_ret (pu_add (pu_add (pu_sl (pu_var 6) puo_none (puo_some (pu_var 7))) (pu_var 2)) (pu_sl (pu_var 6) (puo_some (pu_var 7)) puo_none))))))))))
theorem ok__law_plots {f : Addr} {fd : FuncData} (F : Fun K "_law_plots" "_law_plots" s__law_plots f fd) (T : Bm mg) (TC : Cm K cm) (C__law_at : CalP P w K mg base cm 1 "_law_at" f__law_at) (C__law_called : CalP P w K mg base cm 1 "_law_called" f__law_called) : FnOk P w K mg base CX0 2 f fd ["_law_script"] (spP K cm f__law_plots) := by
  have key := @fn_pure P w K mg base cm "_law_plots" "_law_plots" s__law_plots f fd N__law_plots ["_law_script"] 1 b__law_plots F sc__law_plots (by decide)
  refine key fun cdv A outer s H E hr => ?_
  have NN := sc__law_plots.nd
  exact (pub_cons (pus_set 1 NN (pu_add pu_int (pu_mod (pu_call C__law_at hr (by decide) (pua_cons (pu_var 0) (pua_cons pu_int pua_nil))) pu_int)))
    (pub_cons (pus_if (put_eq (hu64 hr) (pu_mod (pu_fdiv (pu_call C__law_at hr (by decide) (pua_cons (pu_var 0) (pua_cons pu_int pua_nil))) pu_int) pu_int) pu_int) (pub_one (pus_set 1 NN (pu_sub pu_int (pu_mod (pu_fdiv (pu_call C__law_at hr (by decide) (pua_cons (pu_var 0) (pua_cons pu_int pua_nil))) pu_int) pu_int)))) pub_nil)
    (pub_cons (pus_setN 2 NN (pn_lst pns_nil))
    (pub_cons (pus_for (pui_range T.range (pu_var 1)) (pug_name 3 NN) (pub_cons (pus_set 4 NN (pu_mod (pu_mod (pu_mul (pu_add (pu_call C__law_at hr (by decide) (pua_cons (pu_var 0) (pua_cons pu_int pua_nil))) (pu_mul pu_int (pu_var 3))) pu_int) pu_int) (pu_add (pu_var 3) pu_int)))
    (pub_cons (pus_if (putw_and (put_eq (hu64 hr) (pu_mod (pu_call C__law_at hr (by decide) (pua_cons (pu_var 0) (pua_cons pu_int pua_nil))) pu_int) pu_int) (putw_one_and (put_gt (pu_var 3) pu_int))).pt (pub_one (pus_set 4 NN (pu_sub (pu_var 3) pu_int))) pub_nil)
    (pub_cons (pus_set 5 NN pu_non)
    (pub_cons (pus_if (put_lt (pu_var 4) (pu_var 3)) (pub_one (pus_set 5 NN (pu_ix (hu1 hr) (pu_ix (hu1 hr) (pu_var 2) (pu_var 4)) pu_int))) pub_nil)
    (pub_one (pus_app (pul_name 2) (pn_flat (pu_tup (pua_cons (pu_call C__law_called hr (by decide) (pua_cons (pu_fdiv (pu_call C__law_at hr (by decide) (pua_cons (pu_var 0) (pua_cons pu_int pua_nil))) pu_int) (pua_cons (pu_var 3) (pua_cons (pu_ix (hu1 hr) pu_str (pu_var 3)) pua_nil)))) (pua_cons (pu_var 5) pua_nil)))))))))))
    (pub_one (pus_retOn 2))))))
theorem ok__law_outward {f : Addr} {fd : FuncData} (F : Fun K "_law_outward" "_law_outward" s__law_outward f fd) (T : Bm mg) (TC : Cm K cm) : FnOk P w K mg base CX0 1 f fd ["_law_plots_here", "_law_plot"] (spP K cm f__law_outward) := by
  have key := @fn_pure P w K mg base cm "_law_outward" "_law_outward" s__law_outward f fd N__law_outward ["_law_plots_here", "_law_plot"] 0 b__law_outward F sc__law_outward (by decide)
  refine key fun cdv A outer s H E hr => ?_
  have NN := sc__law_outward.nd
  exact (pub_cons (pus_setN 2 NN (pn_lst pns_nil))
    (pub_cons (pus_for (pui_seq (pu_rev (pu_var 0))) (pug_tup (pugs_cons 3 NN (pugs_cons 4 NN pugs_nil))) (pub_one (pus_if (put_eq (hu64 hr) (pu_var 3) (pu_var 1)) (pub_cons (pus_app (pul_name 2) (pn_flat (pu_var 3)))
    (pub_one (pus_set 1 NN (pu_var 4)))) pub_nil)))
    (pub_one (pus_retOn 2))))
theorem ok__law_word_of {f : Addr} {fd : FuncData} (F : Fun K "_law_word_of" "_law_word_of" s__law_word_of f fd) (T : Bm mg) (TC : Cm K cm) (C__law_outward : CalP P w K mg base cm 1 "_law_outward" f__law_outward) : FnOk P w K mg base CX0 2 f fd ["_law_plots_here", "_law_up", "_law_word", "_law_plot"] (spP K cm f__law_word_of) := by
  have key := @fn_pure P w K mg base cm "_law_word_of" "_law_word_of" s__law_word_of f fd N__law_word_of ["_law_plots_here", "_law_up", "_law_word", "_law_plot"] 1 b__law_word_of F sc__law_word_of (by decide)
  refine key fun cdv A outer s H E hr => ?_
  have NN := sc__law_word_of.nd
  exact (pub_cons (pus_setLc 4 (own := [("_law_name", 5), ("_law_number", 6)]) NN (pui_seq (pu_var 1)) (blkOk_by (own := [("_law_name", 5), ("_law_number", 6)]) (N := N__law_word_of) (sc := defScope s__law_word_of) (by decide +kernel)) (fun _ _ _ _ _ => (pug_tup (pugs_cons 5 NN (pugs_cons 6 NN pugs_nil)))) (fun _ _ _ _ _ => puts_nil) (fun _ _ _ _ _ => (pu_var 5)))
    (pub_cons (pus_if (putw_and (put_eq (hu64 hr) (pu_var 2) pu_str) (putw_one_and (put_in (hu65 hr) (pu_var 3) (pu_var 4)))).pt (pub_one (pus_ret pu_str)) pub_nil)
    (pub_cons (pus_if (putw_and (put_eq (hu64 hr) (pu_var 2) pu_str) (putw_and (put_ne (hu64 hr) (pu_sl (pu_call C__law_outward hr (by decide) (pua_cons (pu_var 0) (pua_cons (pu_var 3) pua_nil))) (puo_some pu_int) (puo_some pu_int)) (pu_lst pua_nil)) (putw_one_and (put_nin (hu65 hr) (pu_ix (hu1 hr) (pu_call C__law_outward hr (by decide) (pua_cons (pu_var 0) (pua_cons (pu_var 3) pua_nil))) pu_int) (pu_var 4))))).pt (pub_one (pus_ret pu_str)) pub_nil)
    (pub_cons (pus_if (putw_and (put_eq (hu64 hr) (pu_var 2) pu_str) (putw_one_and (put_nin (hu65 hr) (pu_var 3) (pu_var 4)))).pt (pub_one (pus_ret pu_str)) pub_nil)
    (pub_cons (pus_if (putw_and (put_eq (hu64 hr) (pu_var 2) pu_str) (putw_one_and (put_ne (hu64 hr) (pu_var 1) (pu_lst pua_nil)))).pt (pub_one (pus_ret pu_str)) pub_nil)
    (pub_one (pus_ret pu_str)))))))
theorem ok__law_given {f : Addr} {fd : FuncData} (F : Fun K "_law_given" "_law_given" s__law_given f fd) (T : Bm mg) (TC : Cm K cm) (C__law_outward : CalP P w K mg base cm 1 "_law_outward" f__law_outward) : FnOk P w K mg base CX0 2 f fd ["_law_plots_here", "_law_up", "_law_plot"] (spP K cm f__law_given) := by
  have key := @fn_pure P w K mg base cm "_law_given" "_law_given" s__law_given f fd N__law_given ["_law_plots_here", "_law_up", "_law_plot"] 1 b__law_given F sc__law_given (by decide)
  refine key fun cdv A outer s H E hr => ?_
  have NN := sc__law_given.nd
  exact (pub_one (pus_ret (pu_lc (own := [("_law_pair", 3)]) NN (pui_seq (pu_var 1)) (blkOk_by (own := [("_law_pair", 3)]) (N := N__law_given) (sc := defScope s__law_given) (by decide +kernel)) (fun _ _ _ _ _ => (pug_name 3 NN)) (fun _ _ _ _ _ => (puts_one (put_in (hu65 hr) (pu_var 2) (pu_call C__law_outward hr (by decide) (pua_cons (pu_var 0) (pua_cons (pu_ix (hu1 hr) (pu_var 3) pu_int) pua_nil)))))) (fun _ _ _ _ _ => (pu_var 3)))))
theorem ok_law {f : Addr} {fd : FuncData} (F : Fun K "law" "law" s_law f fd) (T : Bm mg) (TC : Cm K cm) (C__law_plots : CalP P w K mg base cm 2 "_law_plots" f__law_plots) (C_Store___init__ : MakC P w K mg base cm 1 0 "Store" [true, false] f_Store___init__) (C__law_word_of : CalP P w K mg base cm 2 "_law_word_of" f__law_word_of) (C_Store_do : MetC P w K mg base cm 4 0 "do" [true, false] f_Store_do) (C__law_given : CalP P w K mg base cm 2 "_law_given" f__law_given) (C__law_whole : CalP P w K mg base cm 1 "_law_whole" f__law_whole) : FnOk P w K mg base CX0 5 f fd ["_law_script"] (spP K cm f_law) := by
  have key := @fn_pure P w K mg base cm "law" "law" s_law f fd N_law ["_law_script"] 4 b_law F sc_law (by decide)
  refine key fun cdv A outer s H E hr => ?_
  have NN := sc_law.nd
  exact (pub_cons (pus_set 1 NN (pu_call C__law_plots hr (by decide) (pua_cons (pu_var 0) pua_nil)))
    (pub_cons (pus_set 2 NN (pu_lstc T.list (pua_cons (pu_var 1) pua_nil)))
    (pub_cons (pus_setN 3 NN (pn_make C_Store___init__ hr (by decide) (pua_cons (pu_var 2) pua_nil)))
    (pub_cons (pus_setN 4 NN (pn_make C_Store___init__ hr (by decide) (pua_cons (pu_lstc T.list (pua_cons (pu_var 1) pua_nil)) pua_nil)))
    (pub_cons (pus_setN 5 NN (pn_lst pns_nil))
    (pub_cons (pus_set 6 NN pu_int)
    (pub_cons (pus_set 7 NN (pu_lst pua_nil))
    (pub_cons (pus_set 8 NN (pu_lst (pua_cons pu_str (pua_cons pu_str (pua_cons pu_str (pua_cons pu_str (pua_cons pu_str pua_nil)))))))
    (pub_cons (pus_setLc 9 (own := [("_law_cell", 17)]) NN (pui_seq (pu_sl (pu_var 0) (puo_some pu_int) puo_none)) (blkOk_by (own := [("_law_cell", 17)]) (N := N_law) (sc := defScope s_law) (by decide +kernel)) (fun _ _ _ _ _ => (pug_name 17 NN)) (fun _ _ _ _ _ => puts_nil) (fun _ _ _ _ _ => (pu_mod (pu_mod (pu_mul (pu_fdiv (pu_var 17) pu_int) pu_int) pu_int) (pu_len T.len (pua_cons (pu_var 1) pua_nil)))))
    (pub_cons (pus_setNLc 10 (own := [("_law_cell", 17), ("_law_spot", 18)]) NN (pui_zip T.zip (pu_sl (pu_var 0) (puo_some pu_int) puo_none) (pu_var 9)) (blkOk_by (own := [("_law_cell", 17), ("_law_spot", 18)]) (N := N_law) (sc := defScope s_law) (by decide +kernel)) (fun _ _ _ _ _ => (pug_tup (pugs_cons 17 NN (pugs_cons 18 NN pugs_nil)))) (fun _ _ _ _ _ => puts_nil) (fun _ _ _ _ _ => (pu_tup (pua_cons (pu_ix (hu1 hr) (pu_var 8) (pu_mod (pu_var 17) pu_int)) (pua_cons (pu_ix (hu1 hr) (pu_ix (hu1 hr) (pu_var 1) (pu_var 18)) pu_int) pua_nil)))))
    (pub_cons (pus_ext (pul_name 10) (pu_lc (own := [("_law_plot", 12), ("_law_outer", 19)]) NN (pui_seq (pu_var 1)) (blkOk_by (own := [("_law_plot", 12), ("_law_outer", 19)]) (N := N_law) (sc := defScope s_law) (by decide +kernel)) (fun _ _ _ _ _ => (pug_tup (pugs_cons 12 NN (pugs_cons 19 NN pugs_nil)))) (fun _ _ _ _ _ => (puts_one (put_isN (pu_var 19)))) (fun _ _ _ _ _ => (pu_tup (pua_cons pu_str (pua_cons (pu_var 12) pua_nil))))))
    (pub_froz 10 (pub_cons (pus_for (pui_seq (pu_var 10)) (pug_tup (pugs_cons 11 NN (pugs_cons 12 NN pugs_nil))) (pub_cons (pus_set 13 NN (pu_call C__law_word_of hr (by decide) (pua_cons (pu_var 1) (pua_cons (pu_var 5) (pua_cons (pu_var 11) (pua_cons (pu_var 12) pua_nil))))))
    (pub_cons (pus_set 14 NN (pu_sl (pu_tup (pua_cons (pu_var 11) (pua_cons (pu_var 12) pua_nil))) puo_none (puo_some (pu_sub pu_int (pu_intc T.int (pua_cons (pu_eq (hu64 hr) (pu_var 11) pu_str) pua_nil))))))
    (pub_cons (pus_setM 15 NN (pum_meth 3 _ C_Store_do hr (by decide) (puc_rd (pu_var 14) puc_nil)))
    (pub_cons (pus_if (putw_or (put_not (put_val (pu_isi .str T.isinstance T.str (by decide +kernel) (pu_var 15)))) (putw_one_or (put_ne (hu64 hr) (pu_var 15) (pu_var 13)))).pt (pub_one (pus_ret pu_bl)) pub_nil)
    (pub_cons (pus_if (putw_and (put_eq (hu64 hr) (pu_var 13) pu_str) (putw_one_and (put_eq (hu64 hr) (pu_var 11) pu_str))).pt (pub_cons (pus_app (pul_name 5) (pn_flat (pu_tup (pua_cons (pu_var 12) (pua_cons (pu_var 6) pua_nil)))))
    (pub_one (pus_set 6 NN (pu_add (pu_var 6) pu_int)))) (pub_one (pus_if (putw_and (put_eq (hu64 hr) (pu_var 13) pu_str) (putw_one_and (put_eq (hu64 hr) (pu_var 11) pu_str))).pt (pub_cons (pus_set 16 NN (pu_call C__law_given hr (by decide) (pua_cons (pu_var 1) (pua_cons (pu_var 5) (pua_cons (pu_var 12) pua_nil)))))
    (pub_cons (pus_set 7 NN (pu_add (pu_var 7) (pu_rev (pu_lc (own := [("_law_name", 20), ("_law_number", 21)]) NN (pui_seq (pu_var 16)) (blkOk_by (own := [("_law_name", 20), ("_law_number", 21)]) (N := N_law) (sc := defScope s_law) (by decide +kernel)) (fun _ _ _ _ _ => (pug_tup (pugs_cons 20 NN (pugs_cons 21 NN pugs_nil)))) (fun _ _ _ _ _ => puts_nil) (fun _ _ _ _ _ => (pu_var 21))))))
    (pub_one (pus_setNLc 5 (own := [("_law_pair", 22)]) NN (pui_seq (pu_var 5)) (blkOk_by (own := [("_law_pair", 22)]) (N := N_law) (sc := defScope s_law) (by decide +kernel)) (fun _ _ _ _ _ => (pug_name 22 NN)) (fun _ _ _ _ _ => (puts_one (put_nin (hu65 hr) (pu_var 22) (pu_var 16)))) (fun _ _ _ _ _ => (pu_var 22)))))) pub_nil)))
    (pub_one (pus_if (putw_or (put_not (put_val (pu_call C__law_whole hr (by decide) (pua_cons (pu_fld 0 TC.c0 TC.a0_opened (pu_var 3)) pua_nil)))) (putw_or (put_ne (hu64 hr) (pu_fld 0 TC.c0 TC.a0_opened (pu_var 3)) (pu_var 6)) (putw_one_or (put_ne (hu64 hr) (pu_fld 0 TC.c0 TC.a0_given (pu_var 3)) (pu_var 7))))).pt (pub_one (pus_ret pu_bl)) pub_nil))))))))
    (pub_cons (pus_if (putw_or (put_not (put_val (pu_isi .list T.isinstance T.list (by decide +kernel) (pu_fld 0 TC.c0 TC.a0_given (pu_var 3))))) (putw_one_or (put_ne (hu64 hr) (pu_lc (own := [("_law_one", 23)]) NN (pui_seq (pu_fld 0 TC.c0 TC.a0_given (pu_var 3))) (blkOk_by (own := [("_law_one", 23)]) (N := N_law) (sc := defScope s_law) (by decide +kernel)) (fun _ _ _ _ _ => (pug_name 23 NN)) (fun _ _ _ _ _ => (puts_one (put_not (put_val (pu_call C__law_whole hr (by decide) (pua_cons (pu_var 23) pua_nil)))))) (fun _ _ _ _ _ => (pu_var 23))) (pu_lst pua_nil)))).pt (pub_one (pus_ret pu_bl)) pub_nil)
    (pub_one (pus_ret (pu_and (pu_eq (hu64 hr) (pu_sorted T.sorted (pua_cons (pu_fld 0 TC.c0 TC.a0_given (pu_var 3)) pua_nil)) (pu_lrg T.list T.range (pu_var 6))) (pu_and (pu_eq (hu64 hr) (pu_fld 0 TC.c0 TC.a0_opened (pu_var 4)) pu_int) (pu_and (pu_eq (hu64 hr) (pu_fld 0 TC.c0 TC.a0_given (pu_var 4)) (pu_lst pua_nil)) (pu_one (pu_eq (hu64 hr) (pu_var 2) (pu_var 1))))))))))))))))))))))
end
end K04

namespace K04
open PySem L2 DL
theorem all_mk {l : PySem.W.OpenLaw} {w : World} {K : PySem.W.Frag} {h : Heap} {mg : Str → Option Value} {fa fl C0 : Addr} (X : K.In h) (G : h.Ns mainGlobals mg) (hfa : mg "law" = some (.ref fa)) (zB : FactB K) (aC0 : PySem.W.nsIn K mainGlobals "Store" = some (some (.ref C0))) (zC0 : FactC K C0) (A0_plots : PySem.W.findIn K (.ref C0) "plots" = some none) (A0_there : PySem.W.findIn K (.ref C0) "there" = some none) (A0_worth : PySem.W.findIn K (.ref C0) "worth" = some none) (A0_held : PySem.W.findIn K (.ref C0) "held" = some none) (A0_told : PySem.W.findIn K (.ref C0) "told" = some none) (A0_opened : PySem.W.findIn K (.ref C0) "opened" = some none) (A0_given : PySem.W.findIn K (.ref C0) "given" = some none) (D_Store___init__ : FactM K C0 "__init__" "Store.__init__" s_Store___init__) (D_Store_number_of : FactM K C0 "number_of" "Store.number_of" s_Store_number_of) (D_Store_laid : FactM K C0 "laid" "Store.laid" s_Store_laid) (D_outward : FactD K "outward" s_outward) (D_Store_begun : FactM K C0 "begun" "Store.begun" s_Store_begun) (D_Store_lack : FactM K C0 "lack" "Store.lack" s_Store_lack) (D_Store_worth_of : FactM K C0 "worth_of" "Store.worth_of" s_Store_worth_of) (D_Store_copied : FactM K C0 "copied" "Store.copied" s_Store_copied) (D_Store_shared : FactM K C0 "shared" "Store.shared" s_Store_shared) (D_Store_grown : FactM K C0 "grown" "Store.grown" s_Store_grown) (D_Store_said : FactM K C0 "said" "Store.said" s_Store_said) (D_Store_gone : FactM K C0 "gone" "Store.gone" s_Store_gone) (D_Store_do : FactM K C0 "do" "Store.do" s_Store_do) (D__law_whole : FactD K "_law_whole" s__law_whole) (D__law_at : FactD K "_law_at" s__law_at) (D__law_called : FactD K "_law_called" s__law_called) (D__law_plots : FactD K "_law_plots" s__law_plots) (D__law_outward : FactD K "_law_outward" s__law_outward) (D__law_word_of : FactD K "_law_word_of" s__law_word_of) (D__law_given : FactD K "_law_given" s__law_given)
    {od an : Option Addr} {sl : Array (Option Value)} {oc kV dc pm cd ct : Value} (a : PySem.W.nsIn K mainGlobals "law" = some (some (.ref fl))) (lk : K.lookup fl = some ⟨oc, od, .func (PySem.W.fnOf "law" "law" (defArgs s_law) (defBody s_law) (defScope s_law) .none kV dc pm an cd ct), sl⟩) (cc : PySem.W.codeIn K cd "law" = true) (kk : PySem.W.keepIn K (.ref fl) = true) :
    ∃ (cm : Nat → Addr) (fd : FuncData), (∀ (s : Shared) (v : Value), BindsTo s fd ⟨[v], []⟩ [("_law_script", v)]) ∧ ∀ base : Heap, K.In base → base.Ns mainGlobals mg → FnOk l.prog w K mg base CX0 5 fa fd ["_law_script"] (spP K cm f_law) := by
  have e := hfa.symm.trans (PySem.W.mg_of X G a)
  cases e
  have T : Bm mg := zB.bm X G
  have TC : Cm K (clsL [C0]) := ⟨zC0.cls, A0_plots, A0_there, A0_worth, A0_held, A0_told, A0_opened, A0_given⟩
  refine ⟨clsL [C0], PySem.W.fnOf "law" "law" (defArgs s_law) (defBody s_law) (defScope s_law) .none kV dc pm an cd ct, fun s v => .of_eq rfl, fun base _ _ => ?_⟩
  have C_Store___init__ : MakC l.prog w K mg base (clsL [C0]) 1 0 "Store" [true, false] f_Store___init__ := MetAt.mak (cm := (clsL [C0])) (n := 0) (D_Store___init__.at_ (ps := ["self", "plots"]) fun _ _ _ _ _ _ us hl => match us, hl with | [_, _], _ => rfl) zC0 (PySem.W.mg_of X G aC0) fun F => ok_Store___init__ F T TC
  have C_Store_number_of : MetP l.prog w K mg base (clsL [C0]) 1 0 "number_of" f_Store_number_of := MetAt.met (cm := (clsL [C0])) (n := 0) (D_Store_number_of.at_ (ps := ["self", "plot"]) fun _ _ _ _ _ _ us hl => match us, hl with | [_, _], _ => rfl) zC0.cls fun F => ok_Store_number_of F T TC
  have C_Store_laid : MetC l.prog w K mg base (clsL [C0]) 2 0 "laid" [true, false, false, false] f_Store_laid := MetAt.metC (cm := (clsL [C0])) (n := 0) (D_Store_laid.at_ (ps := ["self", "name", "plot", "worth"]) fun _ _ _ _ _ _ us hl => match us, hl with | [_, _, _, _], _ => rfl) zC0.cls fun F => ok_Store_laid F T TC C_Store_number_of
  have C_outward : CalP l.prog w K mg base (clsL [C0]) 1 "outward" f_outward := (D_outward.at_ (ps := ["plots", "plot"]) X G fun _ _ _ _ _ _ us hl => match us, hl with | [_, _], _ => rfl).cal fun F => ok_outward F T TC
  have C_Store_begun : MetC l.prog w K mg base (clsL [C0]) 2 0 "begun" [true, false] f_Store_begun := MetAt.metC (cm := (clsL [C0])) (n := 0) (D_Store_begun.at_ (ps := ["self", "plot"]) fun _ _ _ _ _ _ us hl => match us, hl with | [_, _], _ => rfl) zC0.cls fun F => ok_Store_begun F T TC C_Store_number_of C_outward
  have C_Store_lack : MetP l.prog w K mg base (clsL [C0]) 1 0 "lack" f_Store_lack := MetAt.met (cm := (clsL [C0])) (n := 0) (D_Store_lack.at_ (ps := ["self", "name"]) fun _ _ _ _ _ _ us hl => match us, hl with | [_, _], _ => rfl) zC0.cls fun F => ok_Store_lack F T TC
  have C_Store_worth_of : MetP l.prog w K mg base (clsL [C0]) 1 0 "worth_of" f_Store_worth_of := MetAt.met (cm := (clsL [C0])) (n := 0) (D_Store_worth_of.at_ (ps := ["self", "name"]) fun _ _ _ _ _ _ us hl => match us, hl with | [_, _], _ => rfl) zC0.cls fun F => ok_Store_worth_of F T TC
  have C_Store_copied : MetC l.prog w K mg base (clsL [C0]) 3 0 "copied" [true, false, false, false] f_Store_copied := MetAt.metC (cm := (clsL [C0])) (n := 0) (D_Store_copied.at_ (ps := ["self", "name", "other", "plot"]) fun _ _ _ _ _ _ us hl => match us, hl with | [_, _, _, _], _ => rfl) zC0.cls fun F => ok_Store_copied F T TC C_Store_lack C_Store_laid C_Store_worth_of
  have C_Store_shared : MetC l.prog w K mg base (clsL [C0]) 1 0 "shared" [true, false, false] f_Store_shared := MetAt.metC (cm := (clsL [C0])) (n := 0) (D_Store_shared.at_ (ps := ["self", "name", "other"]) fun _ _ _ _ _ _ us hl => match us, hl with | [_, _, _], _ => rfl) zC0.cls fun F => ok_Store_shared F T TC
  have C_Store_grown : MetC l.prog w K mg base (clsL [C0]) 2 0 "grown" [true, false, false] f_Store_grown := MetAt.metC (cm := (clsL [C0])) (n := 0) (D_Store_grown.at_ (ps := ["self", "name", "other"]) fun _ _ _ _ _ _ us hl => match us, hl with | [_, _, _], _ => rfl) zC0.cls fun F => ok_Store_grown F T TC C_Store_lack C_Store_worth_of
  have C_Store_said : MetC l.prog w K mg base (clsL [C0]) 2 0 "said" [true, false] f_Store_said := MetAt.metC (cm := (clsL [C0])) (n := 0) (D_Store_said.at_ (ps := ["self", "name"]) fun _ _ _ _ _ _ us hl => match us, hl with | [_, _], _ => rfl) zC0.cls fun F => ok_Store_said F T TC C_Store_lack C_Store_worth_of
  have C_Store_gone : MetC l.prog w K mg base (clsL [C0]) 2 0 "gone" [true, false] f_Store_gone := MetAt.metC (cm := (clsL [C0])) (n := 0) (D_Store_gone.at_ (ps := ["self", "plot"]) fun _ _ _ _ _ _ us hl => match us, hl with | [_, _], _ => rfl) zC0.cls fun F => ok_Store_gone F T TC C_Store_number_of C_outward
  have C_Store_do : MetC l.prog w K mg base (clsL [C0]) 4 0 "do" [true, false] f_Store_do := MetAt.metC (cm := (clsL [C0])) (n := 0) (D_Store_do.at_ (ps := ["self", "row"]) fun _ _ _ _ _ _ us hl => match us, hl with | [_, _], _ => rfl) zC0.cls fun F => ok_Store_do F T TC C_Store_begun C_Store_laid C_Store_copied C_Store_shared C_Store_grown C_Store_said C_Store_gone
  have C__law_whole : CalP l.prog w K mg base (clsL [C0]) 1 "_law_whole" f__law_whole := (D__law_whole.at_ (ps := ["_law_thing"]) X G fun _ _ _ _ _ _ us hl => match us, hl with | [_], _ => rfl).cal fun F => ok__law_whole F T TC
  have C__law_at : CalP l.prog w K mg base (clsL [C0]) 1 "_law_at" f__law_at := (D__law_at.at_ (ps := ["_law_script", "_law_k"]) X G fun _ _ _ _ _ _ us hl => match us, hl with | [_, _], _ => rfl).cal fun F => ok__law_at F T TC
  have C__law_called : CalP l.prog w K mg base (clsL [C0]) 1 "_law_called" f__law_called := (D__law_called.at_ (ps := ["_law_cell", "_law_k", "_law_signs"]) X G fun _ _ _ _ _ _ us hl => match us, hl with | [_, _, _], _ => rfl).cal fun F => ok__law_called F T TC
  have C__law_plots : CalP l.prog w K mg base (clsL [C0]) 2 "_law_plots" f__law_plots := (D__law_plots.at_ (ps := ["_law_script"]) X G fun _ _ _ _ _ _ us hl => match us, hl with | [_], _ => rfl).cal fun F => ok__law_plots F T TC C__law_at C__law_called
  have C__law_outward : CalP l.prog w K mg base (clsL [C0]) 1 "_law_outward" f__law_outward := (D__law_outward.at_ (ps := ["_law_plots_here", "_law_plot"]) X G fun _ _ _ _ _ _ us hl => match us, hl with | [_, _], _ => rfl).cal fun F => ok__law_outward F T TC
  have C__law_word_of : CalP l.prog w K mg base (clsL [C0]) 2 "_law_word_of" f__law_word_of := (D__law_word_of.at_ (ps := ["_law_plots_here", "_law_up", "_law_word", "_law_plot"]) X G fun _ _ _ _ _ _ us hl => match us, hl with | [_, _, _, _], _ => rfl).cal fun F => ok__law_word_of F T TC C__law_outward
  have C__law_given : CalP l.prog w K mg base (clsL [C0]) 2 "_law_given" f__law_given := (D__law_given.at_ (ps := ["_law_plots_here", "_law_up", "_law_plot"]) X G fun _ _ _ _ _ _ us hl => match us, hl with | [_, _, _], _ => rfl).cal fun F => ok__law_given F T TC C__law_outward
  exact ok_law (fun_mk (st := s_law) lk cc kk) T TC C__law_plots C_Store___init__ C__law_word_of C_Store_do C__law_given C__law_whole
theorem walk {l : PySem.W.OpenLaw} {q : Program} {loose : List Str} {XP : (Str → Option Value) → Heap → Prop} {YP : World → Heap → Prop} {d : DefRec} {K : Params → PySem.W.Frag} (hn : l.most = some 63) (hdf : d.params.defaults = [])
    (hY : ∀ (w : World) (h : Heap), YP w h → (K w.params).In h)
    (F : ∀ (w : World) (mg : Str → Option Value) (fa : Addr) (h : Heap), (K w.params).In h → h.Ns mainGlobals mg → mg d.name = some (.ref fa) →
      ∃ (cm : Nat → Addr) (fd : FuncData), (∀ (s : Shared) (u : Value), BindsTo s fd ⟨[u], []⟩ [("_law_script", u)]) ∧ ∀ base : Heap, (K w.params).In base → base.Ns mainGlobals mg → FnOk l.prog w (K w.params) mg base CX0 5 fa fd ["_law_script"] (spP (K w.params) cm f_law)) :
    PySem.W.WalkO q loose XP YP l.row.toRowW d [] (fun f vs => PySem.call f vs) :=
  L2.walk_of (n := 63) (k := 5) (x := "_law_script") (CX := fun _ => CX0) (sp := fun w => spAny (K w.params) f_law) hn (by decide) hdf ⟨rfl, by decide, by decide⟩ hY (fun w mg fa h a b c => by
    obtain ⟨cm, fd, h1, h2⟩ := F w mg fa h a b c
    exact ⟨fd, h1, fun base i1 i2 => (h2 base i1 i2).imp fun vs H Q E z => z cm⟩) (fun w H a ns hl _ hS cm => law_sp (law_true ns hl) hS) fun _ _ _ _ _ z => z
end K04
open PySem PySem.W PyProof.Rows in
set_option maxRecDepth 100000 in
set_option maxHeartbeats 0 in
theorem PySem.Challenge.cw_plotfree_k04_plots_opened_and_given_holds : PySem.Challenge.rw_plotfree_k04_plots_opened_and_given.Holds := by
  w_on; o_law; k_head; (case hw => w_witness2)
  k_fill
  refine K04.walk (l := PySem.Challenge.rw_plotfree_k04_plots_opened_and_given) rfl rfl (fun w h Y => PySem.W.kIn_of Y) ?F
  case F =>
    intro w mg fa h KX G hmg
    refine' K04.all_mk KX G hmg ?q0 ?q1 ?q2 ?q3 ?q4 ?q5 ?q6 ?q7 ?q8 ?q9 ?q10 ?q11 ?q12 ?q13 ?q14 ?q15 ?q16 ?q17 ?q18 ?q19 ?q20 ?q21 ?q22 ?q23 ?q24 ?q25 ?q26 ?q27 ?q28 ?q29 ?a ?l ?c ?k
    (case q0 => exact ⟨by k_is, by k_is, by k_is, by k_is, by k_is, by k_is, by k_is, by k_is, by k_is, by k_is, by k_is, by k_is, by k_is⟩)
    (case q1 => k_is)
    (case q2 => exact ⟨by k_is, by k_is, by k_is, by k_is, by k_is, by k_is⟩)
    (case q3 => k_is)
    (case q4 => k_is)
    (case q5 => k_is)
    (case q6 => k_is)
    (case q7 => k_is)
    (case q8 => k_is)
    (case q9 => k_is)
    (case q10 => exact DL.factM_mk (by k_is) (by k_is) (by k_is) (by k_is) (by k_is))
    (case q11 => exact DL.factM_mk (by k_is) (by k_is) (by k_is) (by k_is) (by k_is))
    (case q12 => exact DL.factM_mk (by k_is) (by k_is) (by k_is) (by k_is) (by k_is))
    (case q13 => exact DL.factD_mk (by k_is) (by k_is) (by k_is) (by k_is))
    (case q14 => exact DL.factM_mk (by k_is) (by k_is) (by k_is) (by k_is) (by k_is))
    (case q15 => exact DL.factM_mk (by k_is) (by k_is) (by k_is) (by k_is) (by k_is))
    (case q16 => exact DL.factM_mk (by k_is) (by k_is) (by k_is) (by k_is) (by k_is))
    (case q17 => exact DL.factM_mk (by k_is) (by k_is) (by k_is) (by k_is) (by k_is))
    (case q18 => exact DL.factM_mk (by k_is) (by k_is) (by k_is) (by k_is) (by k_is))
    (case q19 => exact DL.factM_mk (by k_is) (by k_is) (by k_is) (by k_is) (by k_is))
    (case q20 => exact DL.factM_mk (by k_is) (by k_is) (by k_is) (by k_is) (by k_is))
    (case q21 => exact DL.factM_mk (by k_is) (by k_is) (by k_is) (by k_is) (by k_is))
    (case q22 => exact DL.factM_mk (by k_is) (by k_is) (by k_is) (by k_is) (by k_is))
    (case q23 => exact DL.factD_mk (by k_is) (by k_is) (by k_is) (by k_is))
    (case q24 => exact DL.factD_mk (by k_is) (by k_is) (by k_is) (by k_is))
    (case q25 => exact DL.factD_mk (by k_is) (by k_is) (by k_is) (by k_is))
    (case q26 => exact DL.factD_mk (by k_is) (by k_is) (by k_is) (by k_is))
    (case q27 => exact DL.factD_mk (by k_is) (by k_is) (by k_is) (by k_is))
    (case q28 => exact DL.factD_mk (by k_is) (by k_is) (by k_is) (by k_is))
    (case q29 => exact DL.factD_mk (by k_is) (by k_is) (by k_is) (by k_is))
    (case a => k_is)
    (case l => k_is)
    (case c => k_is)
    (case k => k_is)
