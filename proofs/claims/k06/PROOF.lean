import PyProof.Rows.All
import Wide.All
import OpenK.AllK
import Wide.FinOn
import HandS.ForMost
import HandS.IsInst
import HandS.Deep
import HandS.Style
import HandS.SortInts
import HandS.TupAny
import HandS.HeadHook3
import PySem.Challenge.RW_plotfree_k06_facts_at_first
set_option Elab.async false
set_option linter.all false
set_option maxRecDepth 100000
set_option maxHeartbeats 4000000
/-! DL1: values as trees; what stands for them in the abstract heap. -/
namespace DL
open PySem L2

/-- data: flat things, the script, tuples, lists, dicts with keys ints and texts, instances (the class by number) -/
inductive D where
  | non | bl (b : Bool) | int (i : Int) | str (x : Str)
  | scr (ns : List Int) | tup (xs : List D) | lst (xs : List D) | dic (kvs : List (Key × D)) | ins (c : Nat) (fs : List (Str × D))

/-- what the relations lean on: the written part, the classes' addresses by number -/
structure Ga where
  K : PySem.W.Frag
  cm : Nat → Addr

mutual
def Is (Γ : Ga) (H : Hp) : D → V → Prop
  | .non, v => v = .non
  | .bl b, v => v = .bl b
  | .int i, v => v = .int i
  | .str x, v => v = .str x
  | .tup ds, v => ∃ a vs, v = .ref a ∧ H a = some (.tup vs) ∧ Iss Γ H ds vs
  | .scr ns, v => ∃ a, v = .ref a ∧ SqL Γ.K H a (ns.map V.int)
  | .lst ds, v => ∃ a vs, v = .ref a ∧ H a = some (.lst vs) ∧ Iss Γ H ds vs
  | .dic kvs, v => ∃ a vs, v = .ref a ∧ H a = some (.dK vs) ∧ IsK Γ H kvs vs
  | .ins c fs, v => ∃ a dx vs, v = .ref a ∧ H a = some (.ins (Γ.cm c) dx vs) ∧ IsF Γ H fs vs
def Iss (Γ : Ga) (H : Hp) : List D → List V → Prop
  | [], vs => vs = []
  | d :: ds, vs => ∃ v r, vs = v :: r ∧ Is Γ H d v ∧ Iss Γ H ds r
def IsK (Γ : Ga) (H : Hp) : List (Key × D) → List (Key × V) → Prop
  | [], vs => vs = []
  | (k, d) :: ds, vs => ∃ v r, vs = (k, v) :: r ∧ Is Γ H d v ∧ IsK Γ H ds r
def IsF (Γ : Ga) (H : Hp) : List (Str × D) → List (Str × V) → Prop
  | [], vs => vs = []
  | (k, d) :: ds, vs => ∃ v r, vs = (k, v) :: r ∧ Is Γ H d v ∧ IsF Γ H ds r
end

mutual
theorem Is.mono {Γ : Ga} {H H' : Hp} (e : Same H H') : ∀ {d : D} {v : V}, Is Γ H d v → Is Γ H' d v
  | .non, _, h => h
  | .bl _, _, h => h
  | .int _, _, h => h
  | .str _, _, h => h
  | .tup ds, v, h => by
    obtain ⟨a, vs, e1, h1, h2⟩ := h
    exact ⟨a, vs, e1, e _ _ h1, Iss.mono e h2⟩
  | .scr ns, v, h => by
    obtain ⟨a, e1, h1⟩ := h
    exact ⟨a, e1, e.seq h1⟩
  | .lst ds, v, h => by
    obtain ⟨a, vs, e1, h1, h2⟩ := h
    exact ⟨a, vs, e1, e _ _ h1, Iss.mono e h2⟩
  | .dic kvs, v, h => by
    obtain ⟨a, vs, e1, h1, h2⟩ := h
    exact ⟨a, vs, e1, e _ _ h1, IsK.mono e h2⟩
  | .ins c fs, v, h => by
    obtain ⟨a, dx, vs, e1, h1, h2⟩ := h
    exact ⟨a, dx, vs, e1, e _ _ h1, IsF.mono e h2⟩
theorem Iss.mono {Γ : Ga} {H H' : Hp} (e : Same H H') : ∀ {d : List D} {v : List V}, Iss Γ H d v → Iss Γ H' d v
  | [], _, h => h
  | d :: ds, v, h => by
    obtain ⟨a, vs, e1, h1, h2⟩ := h
    exact ⟨a, vs, e1, Is.mono e h1, Iss.mono e h2⟩
theorem IsK.mono {Γ : Ga} {H H' : Hp} (e : Same H H') : ∀ {d : List (Key × D)} {v : List (Key × V)}, IsK Γ H d v → IsK Γ H' d v
  | [], _, h => h
  | (k, d) :: ds, v, h => by
    obtain ⟨a, vs, e1, h1, h2⟩ := h
    exact ⟨a, vs, e1, Is.mono e h1, IsK.mono e h2⟩
theorem IsF.mono {Γ : Ga} {H H' : Hp} (e : Same H H') : ∀ {d : List (Str × D)} {v : List (Str × V)}, IsF Γ H d v → IsF Γ H' d v
  | [], _, h => h
  | (k, d) :: ds, v, h => by
    obtain ⟨a, vs, e1, h1, h2⟩ := h
    exact ⟨a, vs, e1, Is.mono e h1, IsF.mono e h2⟩
end

/-- the tuples of a heap alone -/
def tupOf (H : Hp) : Hp := fun a => match H a with
  | some (.tup xs) => some (.tup xs)
  | _ => none
theorem tupOf_some {H : Hp} {a : Addr} {o : HO} (h : tupOf H a = some o) : H a = some o ∧ ∃ xs, o = .tup xs := by
  unfold tupOf at h
  split at h
  · rename_i xs e
    cases h
    exact ⟨e, xs, rfl⟩
  · cases h
theorem tupOf_tup {H : Hp} {a : Addr} {xs : List V} (h : H a = some (.tup xs)) : tupOf H a = some (.tup xs) := by
  unfold tupOf
  rw [h]
theorem tupOf_same {H : Hp} : Same (tupOf H) H := fun _ _ h => (tupOf_some h).1
theorem tupOf_mono {H H' : Hp} (e : ∀ a xs, H a = some (.tup xs) → H' a = some (.tup xs)) : Same (tupOf H) (tupOf H') := fun a o h => by
  obtain ⟨h1, xs, rfl⟩ := tupOf_some h
  exact tupOf_tup (e a xs h1)

mutual
/-- nothing in it that can be changed -/
def flat : D → Bool
  | .non | .bl _ | .int _ | .str _ => true
  | .tup ds => flats ds
  | _ => false
def flats : List D → Bool
  | [] => true
  | d :: ds => flat d && flats ds
end
mutual
theorem Is.ofFlat {Γ : Ga} {H : Hp} : ∀ {d : D} {v : V}, flat d = true → Is Γ H d v → Is Γ (tupOf H) d v
  | .non, _, _, h => h
  | .bl _, _, _, h => h
  | .int _, _, _, h => h
  | .str _, _, _, h => h
  | .tup ds, v, f, h => by
    obtain ⟨a, vs, e1, h1, h2⟩ := h
    refine ⟨a, vs, e1, ?_, Iss.ofFlat (by rw [flat] at f; exact f) h2⟩
    exact tupOf_tup h1
  | .scr _, _, f, _ => by simp [flat] at f
  | .lst _, _, f, _ => by simp [flat] at f
  | .dic _, _, f, _ => by simp [flat] at f
  | .ins _ _, _, f, _ => by simp [flat] at f
theorem Iss.ofFlat {Γ : Ga} {H : Hp} : ∀ {d : List D} {v : List V}, flats d = true → Iss Γ H d v → Iss Γ (tupOf H) d v
  | [], _, _, h => h
  | d :: ds, v, f, h => by
    rw [flats, Bool.and_eq_true] at f
    obtain ⟨a, vs, e1, h1, h2⟩ := h
    exact ⟨a, vs, e1, Is.ofFlat f.1 h1, Iss.ofFlat f.2 h2⟩
end
end DL

/-! DL2: trees that are owned: their addresses, the way to a part, the part exchanged. -/
namespace DL
open PySem L2

/-- all tuples are kept -/
def TupK (H H' : Hp) : Prop := ∀ a xs, H a = some (.tup xs) → H' a = some (.tup xs)
theorem TupK.refl (H : Hp) : TupK H H := fun _ _ h => h
theorem TupK.trans {H H1 H2 : Hp} (a : TupK H H1) (b : TupK H1 H2) : TupK H H2 := fun c o h => b c o (a c o h)
theorem TupK.of {H H' : Hp} (e : Same H H') : TupK H H' := fun _ _ h => e _ _ h
theorem TupK.same {H H' : Hp} (e : TupK H H') : Same (tupOf H) (tupOf H') := tupOf_mono e
theorem TupK.upd {H : Hp} {a : Addr} {o : HO} (h : ∀ xs, H a ≠ some (.tup xs)) : TupK H (upd H a o) := fun b xs e => by
  rw [upd_ne]
  · exact e
  · rintro rfl
    exact h xs e

mutual
def Own (Γ : Ga) (H : Hp) : D → V → List Addr → Prop
  | .non, v, fp => v = .non ∧ fp = []
  | .bl b, v, fp => v = .bl b ∧ fp = []
  | .int i, v, fp => v = .int i ∧ fp = []
  | .str x, v, fp => v = .str x ∧ fp = []
  | .tup ds, v, fp => Is Γ (tupOf H) (.tup ds) v ∧ fp = []
  | .scr _, _, _ => False
  | .lst ds, v, fp => ∃ a vs fq, v = .ref a ∧ H a = some (.lst vs) ∧ Owns Γ H ds vs fq ∧ fp = a :: fq
  | .dic kvs, v, fp => ∃ a vs fq, v = .ref a ∧ H a = some (.dK vs) ∧ OwnK Γ H kvs vs fq ∧ fp = a :: fq
  | .ins c fs, v, fp => ∃ a dx vs fq, v = .ref a ∧ H a = some (.ins (Γ.cm c) dx vs) ∧ OwnF Γ H fs vs fq ∧ fp = a :: fq
def Owns (Γ : Ga) (H : Hp) : List D → List V → List Addr → Prop
  | [], vs, fp => vs = [] ∧ fp = []
  | d :: ds, vs, fp => ∃ v r f1 f2, vs = v :: r ∧ Own Γ H d v f1 ∧ Owns Γ H ds r f2 ∧ fp = f1 ++ f2
def OwnK (Γ : Ga) (H : Hp) : List (Key × D) → List (Key × V) → List Addr → Prop
  | [], vs, fp => vs = [] ∧ fp = []
  | (k, d) :: ds, vs, fp => ∃ v r f1 f2, vs = (k, v) :: r ∧ Own Γ H d v f1 ∧ OwnK Γ H ds r f2 ∧ fp = f1 ++ f2
def OwnF (Γ : Ga) (H : Hp) : List (Str × D) → List (Str × V) → List Addr → Prop
  | [], vs, fp => vs = [] ∧ fp = []
  | (k, d) :: ds, vs, fp => ∃ v r f1 f2, vs = (k, v) :: r ∧ Own Γ H d v f1 ∧ OwnF Γ H ds r f2 ∧ fp = f1 ++ f2
end

/- what stands in a region that has the tree's own objects and all tuples -/
mutual
theorem Own.isIn {Γ : Ga} {H R : Hp} (ht : Same (tupOf H) R) : ∀ {d : D} {v : V} {fp : List Addr}, (∀ a ∈ fp, R a = H a) → Own Γ H d v fp → Is Γ R d v
  | .non, _, _, _, h => h.1
  | .bl _, _, _, _, h => h.1
  | .int _, _, _, _, h => h.1
  | .str _, _, _, _, h => h.1
  | .tup _, _, _, _, h => Is.mono ht h.1
  | .scr _, _, _, _, h => nomatch (h : False)
  | .lst _, _, _, hf, ⟨a, vs, fq, e, h1, h2, ef⟩ => by
    subst ef
    exact ⟨a, vs, e, by rw [hf a (by simp), h1], Owns.isIn ht (fun b hb => hf b (by simp [hb])) h2⟩
  | .dic _, _, _, hf, ⟨a, vs, fq, e, h1, h2, ef⟩ => by
    subst ef
    exact ⟨a, vs, e, by rw [hf a (by simp), h1], OwnK.isIn ht (fun b hb => hf b (by simp [hb])) h2⟩
  | .ins _ _, _, _, hf, ⟨a, dx, vs, fq, e, h1, h2, ef⟩ => by
    subst ef
    exact ⟨a, dx, vs, e, by rw [hf a (by simp), h1], OwnF.isIn ht (fun b hb => hf b (by simp [hb])) h2⟩
theorem Owns.isIn {Γ : Ga} {H R : Hp} (ht : Same (tupOf H) R) : ∀ {d : List D} {v : List V} {fp : List Addr}, (∀ a ∈ fp, R a = H a) → Owns Γ H d v fp → Iss Γ R d v
  | [], _, _, _, h => h.1
  | _ :: _, _, _, hf, ⟨v, r, f1, f2, e, h1, h2, ef⟩ => by
    subst ef
    exact ⟨v, r, e, Own.isIn ht (fun b hb => hf b (by simp [hb])) h1, Owns.isIn ht (fun b hb => hf b (by simp [hb])) h2⟩
theorem OwnK.isIn {Γ : Ga} {H R : Hp} (ht : Same (tupOf H) R) : ∀ {d : List (Key × D)} {v : List (Key × V)} {fp : List Addr}, (∀ a ∈ fp, R a = H a) → OwnK Γ H d v fp → IsK Γ R d v
  | [], _, _, _, h => h.1
  | (_, _) :: _, _, _, hf, ⟨v, r, f1, f2, e, h1, h2, ef⟩ => by
    subst ef
    exact ⟨v, r, e, Own.isIn ht (fun b hb => hf b (by simp [hb])) h1, OwnK.isIn ht (fun b hb => hf b (by simp [hb])) h2⟩
theorem OwnF.isIn {Γ : Ga} {H R : Hp} (ht : Same (tupOf H) R) : ∀ {d : List (Str × D)} {v : List (Str × V)} {fp : List Addr}, (∀ a ∈ fp, R a = H a) → OwnF Γ H d v fp → IsF Γ R d v
  | [], _, _, _, h => h.1
  | (_, _) :: _, _, _, hf, ⟨v, r, f1, f2, e, h1, h2, ef⟩ => by
    subst ef
    exact ⟨v, r, e, Own.isIn ht (fun b hb => hf b (by simp [hb])) h1, OwnF.isIn ht (fun b hb => hf b (by simp [hb])) h2⟩
end
theorem Own.is {Γ : Ga} {H : Hp} {d : D} {v : V} {fp : List Addr} (h : Own Γ H d v fp) : Is Γ H d v := h.isIn tupOf_same fun _ _ => rfl

mutual
theorem Own.keep {Γ : Ga} {H H' : Hp} (ht : TupK H H') : ∀ {d : D} {v : V} {fp : List Addr}, (∀ a ∈ fp, H' a = H a) → Own Γ H d v fp → Own Γ H' d v fp
  | .non, _, _, _, h => h
  | .bl _, _, _, _, h => h
  | .int _, _, _, _, h => h
  | .str _, _, _, _, h => h
  | .tup _, _, _, _, h => ⟨Is.mono ht.same h.1, h.2⟩
  | .scr _, _, _, _, h => nomatch (h : False)
  | .lst _, _, _, hf, ⟨a, vs, fq, e, h1, h2, ef⟩ => by
    subst ef
    exact ⟨a, vs, fq, e, by rw [hf a (by simp), h1], Owns.keep ht (fun b hb => hf b (by simp [hb])) h2, rfl⟩
  | .dic _, _, _, hf, ⟨a, vs, fq, e, h1, h2, ef⟩ => by
    subst ef
    exact ⟨a, vs, fq, e, by rw [hf a (by simp), h1], OwnK.keep ht (fun b hb => hf b (by simp [hb])) h2, rfl⟩
  | .ins _ _, _, _, hf, ⟨a, dx, vs, fq, e, h1, h2, ef⟩ => by
    subst ef
    exact ⟨a, dx, vs, fq, e, by rw [hf a (by simp), h1], OwnF.keep ht (fun b hb => hf b (by simp [hb])) h2, rfl⟩
theorem Owns.keep {Γ : Ga} {H H' : Hp} (ht : TupK H H') : ∀ {d : List D} {v : List V} {fp : List Addr}, (∀ a ∈ fp, H' a = H a) → Owns Γ H d v fp → Owns Γ H' d v fp
  | [], _, _, _, h => h
  | _ :: _, _, _, hf, ⟨v, r, f1, f2, e, h1, h2, ef⟩ => by
    subst ef
    exact ⟨v, r, f1, f2, e, Own.keep ht (fun b hb => hf b (by simp [hb])) h1, Owns.keep ht (fun b hb => hf b (by simp [hb])) h2, rfl⟩
theorem OwnK.keep {Γ : Ga} {H H' : Hp} (ht : TupK H H') : ∀ {d : List (Key × D)} {v : List (Key × V)} {fp : List Addr}, (∀ a ∈ fp, H' a = H a) → OwnK Γ H d v fp → OwnK Γ H' d v fp
  | [], _, _, _, h => h
  | (_, _) :: _, _, _, hf, ⟨v, r, f1, f2, e, h1, h2, ef⟩ => by
    subst ef
    exact ⟨v, r, f1, f2, e, Own.keep ht (fun b hb => hf b (by simp [hb])) h1, OwnK.keep ht (fun b hb => hf b (by simp [hb])) h2, rfl⟩
theorem OwnF.keep {Γ : Ga} {H H' : Hp} (ht : TupK H H') : ∀ {d : List (Str × D)} {v : List (Str × V)} {fp : List Addr}, (∀ a ∈ fp, H' a = H a) → OwnF Γ H d v fp → OwnF Γ H' d v fp
  | [], _, _, _, h => h
  | (_, _) :: _, _, _, hf, ⟨v, r, f1, f2, e, h1, h2, ef⟩ => by
    subst ef
    exact ⟨v, r, f1, f2, e, Own.keep ht (fun b hb => hf b (by simp [hb])) h1, OwnF.keep ht (fun b hb => hf b (by simp [hb])) h2, rfl⟩
end

/-- what may be changed: a list, a dict, an instance -/
def Box : HO → Prop
  | .lst _ | .dK _ | .ins _ _ _ => True
  | _ => False
theorem Box.notTup {o : HO} (h : Box o) (xs : List V) : o ≠ .tup xs := by rintro rfl; exact h
theorem Box.notFrz {o u : HO} {ob : Obj} (h : Box o) : o ≠ .frz ob u := by rintro rfl; exact h
mutual
theorem Own.box {Γ : Ga} {H : Hp} : ∀ {d : D} {v : V} {fp : List Addr}, Own Γ H d v fp → ∀ a ∈ fp, ∃ o, H a = some o ∧ Box o
  | .non, _, _, h, a, ha => by rw [h.2] at ha; cases ha
  | .bl _, _, _, h, a, ha => by rw [h.2] at ha; cases ha
  | .int _, _, _, h, a, ha => by rw [h.2] at ha; cases ha
  | .str _, _, _, h, a, ha => by rw [h.2] at ha; cases ha
  | .tup _, _, _, h, a, ha => by rw [h.2] at ha; cases ha
  | .scr _, _, _, h, _, _ => nomatch (h : False)
  | .lst _, _, _, ⟨b, vs, fq, e, h1, h2, ef⟩, a, ha => by
    subst ef
    rcases List.mem_cons.mp ha with rfl | ha
    · exact ⟨_, h1, trivial⟩
    · exact Owns.box h2 a ha
  | .dic _, _, _, ⟨b, vs, fq, e, h1, h2, ef⟩, a, ha => by
    subst ef
    rcases List.mem_cons.mp ha with rfl | ha
    · exact ⟨_, h1, trivial⟩
    · exact OwnK.box h2 a ha
  | .ins _ _, _, _, ⟨b, dx, vs, fq, e, h1, h2, ef⟩, a, ha => by
    subst ef
    rcases List.mem_cons.mp ha with rfl | ha
    · exact ⟨_, h1, trivial⟩
    · exact OwnF.box h2 a ha
theorem Owns.box {Γ : Ga} {H : Hp} : ∀ {d : List D} {v : List V} {fp : List Addr}, Owns Γ H d v fp → ∀ a ∈ fp, ∃ o, H a = some o ∧ Box o
  | [], _, _, h, a, ha => by rw [h.2] at ha; cases ha
  | _ :: _, _, _, ⟨v, r, f1, f2, e, h1, h2, ef⟩, a, ha => by
    subst ef
    rcases List.mem_append.mp ha with ha | ha
    · exact Own.box h1 a ha
    · exact Owns.box h2 a ha
theorem OwnK.box {Γ : Ga} {H : Hp} : ∀ {d : List (Key × D)} {v : List (Key × V)} {fp : List Addr}, OwnK Γ H d v fp → ∀ a ∈ fp, ∃ o, H a = some o ∧ Box o
  | [], _, _, h, a, ha => by rw [h.2] at ha; cases ha
  | (_, _) :: _, _, _, ⟨v, r, f1, f2, e, h1, h2, ef⟩, a, ha => by
    subst ef
    rcases List.mem_append.mp ha with ha | ha
    · exact Own.box h1 a ha
    · exact OwnK.box h2 a ha
theorem OwnF.box {Γ : Ga} {H : Hp} : ∀ {d : List (Str × D)} {v : List (Str × V)} {fp : List Addr}, OwnF Γ H d v fp → ∀ a ∈ fp, ∃ o, H a = some o ∧ Box o
  | [], _, _, h, a, ha => by rw [h.2] at ha; cases ha
  | (_, _) :: _, _, _, ⟨v, r, f1, f2, e, h1, h2, ef⟩, a, ha => by
    subst ef
    rcases List.mem_append.mp ha with ha | ha
    · exact Own.box h1 a ha
    · exact OwnF.box h2 a ha
end

/-- a flat thing owns nothing -/
theorem Own.ofFlat {Γ : Ga} {H : Hp} {d : D} {v : V} (f : flat d = true) (h : Is Γ H d v) : Own Γ H d v [] := by
  have q := Is.ofFlat f h
  cases d with
  | non => exact ⟨h, rfl⟩
  | bl => exact ⟨h, rfl⟩
  | int => exact ⟨h, rfl⟩
  | str => exact ⟨h, rfl⟩
  | tup => exact ⟨q, rfl⟩
  | scr => simp [flat] at f
  | lst => simp [flat] at f
  | dic => simp [flat] at f
  | ins => simp [flat] at f
theorem Owns.ofFlat {Γ : Ga} {H : Hp} : ∀ {d : List D} {v : List V}, flats d = true → Iss Γ H d v → Owns Γ H d v []
  | [], _, _, h => ⟨h, rfl⟩
  | _ :: _, _, f, ⟨v, r, e, h1, h2⟩ => by
    rw [flats, Bool.and_eq_true] at f
    exact ⟨v, r, [], [], e, Own.ofFlat f.1 h1, Owns.ofFlat f.2 h2, rfl⟩

/-! ### the way to a part -/
inductive Stp where
  | ix (i : Nat) | ky (k : Key) | fd (f : Str)
def getK : List (Key × D) → Key → Option D
  | [], _ => none
  | (k, d) :: r, j => if k = j then some d else getK r j
def repK : List (Key × D) → Key → D → List (Key × D)
  | [], _, _ => []
  | (k, d) :: r, j, x => if k = j then (k, x) :: r else (k, d) :: repK r j x
def getF : List (Str × D) → Str → Option D
  | [], _ => none
  | (k, d) :: r, j => if k = j then some d else getF r j
def repF : List (Str × D) → Str → D → List (Str × D)
  | [], _, _ => []
  | (k, d) :: r, j, x => if k = j then (k, x) :: r else (k, d) :: repF r j x
def dget : D → Stp → Option D
  | .lst ds, .ix i => ds[i]?
  | .dic kvs, .ky k => getK kvs k
  | .ins _ fs, .fd f => getF fs f
  | _, _ => none
def drep : D → Stp → D → D
  | .lst ds, .ix i, x => .lst (ds.set i x)
  | .dic kvs, .ky k, x => .dic (repK kvs k x)
  | .ins c fs, .fd f, x => .ins c (repF fs f x)
  | d, _, _ => d
def dgets : D → List Stp → Option D
  | d, [] => some d
  | d, s :: r => (dget d s).bind fun e => dgets e r
def dreps : D → List Stp → D → D
  | _, [], x => x
  | d, s :: r, x => match dget d s with
    | some e => drep d s (dreps e r x)
    | none => d
/-- the same in the heap -/
def vget (H : Hp) : V → Stp → Option V
  | .ref a, .ix i => match H a with
    | some (.lst vs) => vs[i]?
    | _ => none
  | .ref a, .ky k => match H a with
    | some (.dK vs) => valV vs k
    | _ => none
  | .ref a, .fd f => match H a with
    | some (.ins _ _ vs) => vs.lookup f
    | _ => none
  | _, _ => none
def vgets (H : Hp) : V → List Stp → Option V
  | v, [] => some v
  | v, s :: r => (vget H v s).bind fun e => vgets H e r

/-- a part d' (value v', addresses fq) of what owns fp: all the rest is l and r -/
structure Part (Γ : Ga) (H : Hp) (d : D) (v : V) (fp : List Addr) (rep : D → D) (d' : D) (v' : V) : Prop where
  ex : ∃ l fq r, fp = l ++ fq ++ r ∧ Own Γ H d' v' fq ∧
    ∀ (H' : Hp) (x : D) (fx : List Addr), (∀ a ∈ l ++ r, H' a = H a) → TupK H H' → Own Γ H' x v' fx → Own Γ H' (rep x) v (l ++ fx ++ r)

theorem Owns.part {Γ : Ga} {H : Hp} : ∀ {ds : List D} {vs : List V} {fp : List Addr} {i : Nat} {d' : D}, Owns Γ H ds vs fp → ds[i]? = some d' →
    ∃ v', vs[i]? = some v' ∧ ∃ l fq r, fp = l ++ fq ++ r ∧ Own Γ H d' v' fq ∧
    ∀ (H' : Hp) (x : D) (fx : List Addr), (∀ a ∈ l ++ r, H' a = H a) → TupK H H' → Own Γ H' x v' fx → Owns Γ H' (ds.set i x) vs (l ++ fx ++ r)
  | [], _, _, i, _, _, e => by simp at e
  | d :: ds, _, _, 0, d', ⟨v, r, f1, f2, e, h1, h2, ef⟩, q => by
    subst e ef
    cases (Option.some.inj q : d = d')
    exact ⟨v, rfl, [], f1, f2, rfl, h1, fun H' x fx hk ht hx => ⟨v, r, fx, f2, rfl, hx, Owns.keep ht (fun a ha => hk a (by simpa using ha)) h2, rfl⟩⟩
  | d :: ds, _, _, i + 1, d', ⟨v, r, f1, f2, e, h1, h2, ef⟩, q => by
    subst e ef
    obtain ⟨v', e', l, fq, r', e2, ho, hk⟩ := Owns.part h2 (i := i) (d' := d') (by simpa using q)
    subst e2
    refine ⟨v', by simpa using e', f1 ++ l, fq, r', by simp, ho, fun H' x fx hh ht hx => ?_⟩
    refine ⟨v, r, f1, l ++ fx ++ r', rfl, Own.keep ht (fun a ha => hh a (by simp [ha])) h1, hk H' x fx (fun a ha => hh a ?_) ht hx, by simp⟩
    rcases List.mem_append.mp ha with ha | ha <;> simp [ha]
theorem OwnK.part {Γ : Ga} {H : Hp} : ∀ {ds : List (Key × D)} {vs : List (Key × V)} {fp : List Addr} {k : Key} {d' : D}, OwnK Γ H ds vs fp → getK ds k = some d' →
    ∃ v', valV vs k = some v' ∧ ∃ l fq r, fp = l ++ fq ++ r ∧ Own Γ H d' v' fq ∧
    ∀ (H' : Hp) (x : D) (fx : List Addr), (∀ a ∈ l ++ r, H' a = H a) → TupK H H' → Own Γ H' x v' fx → OwnK Γ H' (repK ds k x) vs (l ++ fx ++ r)
  | [], _, _, _, _, _, e => by simp [getK] at e
  | (k0, d) :: ds, _, _, k, d', ⟨v, r, f1, f2, e, h1, h2, ef⟩, q => by
    subst e ef
    rw [getK] at q
    by_cases hk0 : k0 = k
    · rw [if_pos hk0] at q
      cases (Option.some.inj q : d = d')
      refine ⟨v, valV_pos (p := (k0, v)) hk0, [], f1, f2, rfl, h1, fun H' x fx hk ht hx => ?_⟩
      rw [repK, if_pos hk0]
      exact ⟨v, r, fx, f2, rfl, hx, OwnK.keep ht (fun a ha => hk a (by simpa using ha)) h2, rfl⟩
    · rw [if_neg hk0] at q
      obtain ⟨v', e', l, fq, r', e2, ho, hk⟩ := OwnK.part h2 q
      subst e2
      refine ⟨v', (valV_neg (p := (k0, v)) hk0).trans e', f1 ++ l, fq, r', by simp, ho, fun H' x fx hh ht hx => ?_⟩
      rw [repK, if_neg hk0]
      refine ⟨v, r, f1, l ++ fx ++ r', rfl, Own.keep ht (fun a ha => hh a (by simp [ha])) h1, hk H' x fx (fun a ha => hh a ?_) ht hx, by simp⟩
      rcases List.mem_append.mp ha with ha | ha <;> simp [ha]
theorem lookup_pos {k : Str} {v : V} {r : List (Str × V)} : List.lookup k ((k, v) :: r) = some v := by rw [List.lookup_cons, beq_self_eq_true]
theorem lookup_neg {k j : Str} {v : V} {r : List (Str × V)} (h : ¬ k = j) : List.lookup j ((k, v) :: r) = List.lookup j r := by
  rw [List.lookup_cons, beq_eq_false_iff_ne.mpr (fun e => h e.symm)]
theorem OwnF.part {Γ : Ga} {H : Hp} : ∀ {ds : List (Str × D)} {vs : List (Str × V)} {fp : List Addr} {k : Str} {d' : D}, OwnF Γ H ds vs fp → getF ds k = some d' →
    ∃ v', vs.lookup k = some v' ∧ ∃ l fq r, fp = l ++ fq ++ r ∧ Own Γ H d' v' fq ∧
    ∀ (H' : Hp) (x : D) (fx : List Addr), (∀ a ∈ l ++ r, H' a = H a) → TupK H H' → Own Γ H' x v' fx → OwnF Γ H' (repF ds k x) vs (l ++ fx ++ r)
  | [], _, _, _, _, _, e => by simp [getF] at e
  | (k0, d) :: ds, _, _, k, d', ⟨v, r, f1, f2, e, h1, h2, ef⟩, q => by
    subst e ef
    rw [getF] at q
    by_cases hk0 : k0 = k
    · rw [if_pos hk0] at q
      cases (Option.some.inj q : d = d')
      refine ⟨v, by rw [hk0]; exact lookup_pos, [], f1, f2, rfl, h1, fun H' x fx hk ht hx => ?_⟩
      rw [repF, if_pos hk0]
      exact ⟨v, r, fx, f2, rfl, hx, OwnF.keep ht (fun a ha => hk a (by simpa using ha)) h2, rfl⟩
    · rw [if_neg hk0] at q
      obtain ⟨v', e', l, fq, r', e2, ho, hk⟩ := OwnF.part h2 q
      subst e2
      refine ⟨v', (lookup_neg hk0).trans e', f1 ++ l, fq, r', by simp, ho, fun H' x fx hh ht hx => ?_⟩
      rw [repF, if_neg hk0]
      refine ⟨v, r, f1, l ++ fx ++ r', rfl, Own.keep ht (fun a ha => hh a (by simp [ha])) h1, hk H' x fx (fun a ha => hh a ?_) ht hx, by simp⟩
      rcases List.mem_append.mp ha with ha | ha <;> simp [ha]

theorem Own.part1 {Γ : Ga} {H : Hp} {d : D} {v : V} {fp : List Addr} {s : Stp} {d' : D} (h : Own Γ H d v fp) (g : dget d s = some d') :
    ∃ v', vget H v s = some v' ∧ Part Γ H d v fp (drep d s) d' v' := by
  cases d with
  | lst ds =>
    cases s with
    | ix i =>
      obtain ⟨a, vs, fq, rfl, h1, h2, rfl⟩ := h
      obtain ⟨v', e', l, fq', r, rfl, ho, hk⟩ := h2.part g
      refine ⟨v', by simp only [vget, h1]; exact e', ⟨a :: l, fq', r, by simp, ho, fun H' x fx hh ht hx => ?_⟩⟩
      exact ⟨a, vs, l ++ fx ++ r, rfl, by rw [hh a (by simp), h1], hk H' x fx (fun b hb => hh b (by simp only [List.cons_append]; exact List.mem_cons_of_mem _ hb)) ht hx, by simp⟩
    | ky => simp [dget] at g
    | fd => simp [dget] at g
  | dic ds =>
    cases s with
    | ky k =>
      obtain ⟨a, vs, fq, rfl, h1, h2, rfl⟩ := h
      obtain ⟨v', e', l, fq', r, rfl, ho, hk⟩ := h2.part g
      refine ⟨v', by simp only [vget, h1]; exact e', ⟨a :: l, fq', r, by simp, ho, fun H' x fx hh ht hx => ?_⟩⟩
      exact ⟨a, vs, l ++ fx ++ r, rfl, by rw [hh a (by simp), h1], hk H' x fx (fun b hb => hh b (by simp only [List.cons_append]; exact List.mem_cons_of_mem _ hb)) ht hx, by simp⟩
    | ix => simp [dget] at g
    | fd => simp [dget] at g
  | ins c ds =>
    cases s with
    | fd k =>
      obtain ⟨a, dx, vs, fq, rfl, h1, h2, rfl⟩ := h
      obtain ⟨v', e', l, fq', r, rfl, ho, hk⟩ := h2.part g
      refine ⟨v', by simp only [vget, h1]; exact e', ⟨a :: l, fq', r, by simp, ho, fun H' x fx hh ht hx => ?_⟩⟩
      exact ⟨a, dx, vs, l ++ fx ++ r, rfl, by rw [hh a (by simp), h1], hk H' x fx (fun b hb => hh b (by simp only [List.cons_append]; exact List.mem_cons_of_mem _ hb)) ht hx, by simp⟩
    | ix => simp [dget] at g
    | ky => simp [dget] at g
  | _ => cases s <;> simp [dget] at g

theorem Own.parts {Γ : Ga} {H : Hp} : ∀ {p : List Stp} {d : D} {v : V} {fp : List Addr} {d' : D}, Own Γ H d v fp → dgets d p = some d' →
    ∃ v', vgets H v p = some v' ∧ Part Γ H d v fp (dreps d p) d' v'
  | [], d, v, fp, d', h, g => by
    cases (Option.some.inj g : d = d')
    exact ⟨v, rfl, ⟨[], fp, [], by simp, h, fun H' x fx _ _ hx => by simpa [dreps] using hx⟩⟩
  | s :: p, d, v, fp, d', h, g => by
    rw [dgets] at g
    cases e : dget d s with
    | none => rw [e] at g; cases g
    | some d1 =>
      rw [e] at g
      obtain ⟨v1, e1, ⟨l, fq, r, rfl, ho, hk⟩⟩ := h.part1 e
      obtain ⟨v', e', ⟨l2, fq2, r2, rfl, ho2, hk2⟩⟩ := Own.parts ho g
      refine ⟨v', by rw [vgets, e1]; exact e', ⟨l ++ l2, fq2, r2 ++ r, by simp, ho2, fun H' x fx hh ht hx => ?_⟩⟩
      rw [dreps, e]
      have a1 := hk2 H' x fx (fun a ha => hh a (by rcases List.mem_append.mp ha with ha | ha <;> simp [ha])) ht hx
      have a2 := hk H' _ _ (fun a ha => hh a (by rcases List.mem_append.mp ha with ha | ha <;> simp [ha])) ht a1
      simpa using a2
end DL

/-! DL3: the slots of a def and what stands in them; expressions as functions of the slots. -/
namespace DL
open PySem L2

/-- a slot: nothing known; an argument that is read; a name for it; a thing made here that is read; an argument that is changed; a thing made here that is changed -/
inductive Sl where
  | emp | fz (d : D) | fa (d : D) | fn (d : D) | ow (d : D) | on (d : D)
abbrev Ev := List Sl
/-- where a value comes from: a part of what is changed here, of an argument that is read, or made here (or flat) -/
inductive Md where
  | own | par | new
/-- what is fixed through a def: the heap at its entry, what of it stays, what may be changed, the slots -/
structure Fx where
  H0 : Hp
  Kp : Hp
  P : Addr → Prop
  s0 : St

def SlotAt (Γ : Ga) (x : Fx) (B H : Hp) (i : Nat) (o : Option (Option V)) (fp : List Addr) : Sl → Prop
  | .emp => fp = []
  | .fz d => fp = [] ∧ ∃ v, o = some (some v) ∧ Is Γ x.Kp d v
  | .fa d => fp = [] ∧ ∃ v, o = some (some v) ∧ Is Γ x.Kp d v
  | .fn d => fp = [] ∧ ∃ v, o = some (some v) ∧ Is Γ B d v
  | .ow d => ∃ v, o = some (some v) ∧ Own Γ H d v fp ∧ x.s0[i]? = some (some v)
  | .on d => ∃ v, o = some (some v) ∧ Own Γ H d v fp ∧ ∀ a ∈ fp, x.H0 a = none

structure Ok (Γ : Ga) (x : Fx) (B : Hp) (F : Nat → List Addr) (ρ : Ev) (σ : St) (H : Hp) : Prop where
  kp : Same x.Kp H
  bh : Same B H
  tup : ∀ a xs, H a = some (.tup xs) → B a = some (.tup xs)
  born : ∀ a o, B a = some o → (∃ xs, o = .tup xs) ∨ x.H0 a = none
  dom : ∀ a, H a = none → x.H0 a = none
  fk : ∀ i a, a ∈ F i → x.Kp a = none ∧ B a = none ∧ (x.P a ∨ x.H0 a = none)
  dj : ∀ i j a, a ∈ F i → a ∈ F j → i = j
  nd : ∀ i, (F i).Nodup
  out : ∀ i, ρ.length ≤ i → F i = []
  len : ρ.length = σ.length
  at_ : ∀ (i : Nat) (s : Sl), ρ[i]? = some s → SlotAt Γ x B H i σ[i]? (F i) s

def Val (Γ : Ga) (x : Fx) (m : Md) (B H : Hp) (d : D) (v : V) : Prop := match m with
  | .own => Is Γ H d v
  | .par => Is Γ x.Kp d v
  | .new => Is Γ B d v

section
variable {Γ : Ga} {x : Fx} {B : Hp} {F : Nat → List Addr} {ρ : Ev} {σ : St} {H H' : Hp}
theorem Ok.box (o : Ok Γ x B F ρ σ H) {i : Nat} {a : Addr} (h : a ∈ F i) : ∃ u, H a = some u ∧ Box u := by
  by_cases hi : i < ρ.length
  · have q := o.at_ i ρ[i] (List.getElem?_eq_getElem hi)
    revert q
    cases ρ[i] with
    | emp => intro q; rw [show F i = [] from q] at h; cases h
    | fz => intro q; rw [q.1] at h; cases h
    | fa => intro q; rw [q.1] at h; cases h
    | fn => intro q; rw [q.1] at h; cases h
    | ow => intro ⟨v, _, q, _⟩; exact q.box a h
    | on => intro ⟨v, _, q, _⟩; exact q.box a h
  · rw [o.out i (by omega)] at h
    cases h
theorem Ok.grow {B' : Hp} (o : Ok Γ x B F ρ σ H) (e : Same H H') (eb : Same B B') (bh : Same B' H') (tup : ∀ a xs, H' a = some (.tup xs) → B' a = some (.tup xs))
    (new : ∀ a u, B' a = some u → (∃ xs, u = .tup xs) ∨ B a = some u ∨ H a = none) : Ok Γ x B' F ρ σ H' where
  kp := o.kp.trans e
  bh := bh
  tup := tup
  born := fun a u h => by
    rcases new a u h with h1 | h1 | h1
    · exact .inl h1
    · exact o.born a u h1
    · exact .inr (o.dom a h1)
  dom := fun a h => o.dom a (e.free h)
  fk := fun i a h => by
    obtain ⟨h1, h2, h3⟩ := o.fk i a h
    obtain ⟨u, hu, bx⟩ := o.box h
    refine ⟨h1, ?_, h3⟩
    cases q : B' a with
    | none => rfl
    | some w =>
      have hw := bh a w q
      rw [e a u hu] at hw
      cases hw
      rcases new a u q with ⟨xs, rfl⟩ | h4 | h4
      · exact bx.elim
      · rw [h2] at h4; cases h4
      · rw [hu] at h4; cases h4
  dj := o.dj
  nd := o.nd
  out := o.out
  len := o.len
  at_ := fun i s h => by
    have q := o.at_ i s h
    have hk : ∀ a ∈ F i, H' a = H a := fun a ha => by
      obtain ⟨u, hu, _⟩ := o.box ha
      rw [hu, e a u hu]
    cases s with
    | emp => exact q
    | fz => exact q
    | fa => exact q
    | fn => obtain ⟨q1, v, q2, q3⟩ := q; exact ⟨q1, v, q2, q3.mono eb⟩
    | ow => obtain ⟨v, q1, q2, q3⟩ := q; exact ⟨v, q1, q2.keep (TupK.of e) hk, q3⟩
    | on => obtain ⟨v, q1, q2, q3⟩ := q; exact ⟨v, q1, q2.keep (TupK.of e) hk, q3⟩

/-- from the region B of the heap H to B' of H': all stays; B' has what is new besides -/
structure Gr (B H B' H' : Hp) : Prop where
  hh : Same H H'
  bb : Same B B'
  new : ∀ a u, B' a = some u → (∃ xs, u = .tup xs) ∨ B a = some u ∨ H a = none
theorem Gr.refl (B H : Hp) : Gr B H B H := ⟨Same.refl H, Same.refl B, fun _ _ h => .inr (.inl h)⟩
theorem Gr.trans {B H B1 H1 B2 H2 : Hp} (a : Gr B H B1 H1) (b : Gr B1 H1 B2 H2) : Gr B H B2 H2 :=
  ⟨a.hh.trans b.hh, a.bb.trans b.bb, fun c u h => by
    rcases b.new c u h with h | h | h
    · exact .inl h
    · exact a.new c u h
    · exact .inr (.inr (a.hh.free h))⟩
/-- made of new things and of tuples alone -/
def Born (Γ : Ga) (H H' : Hp) (d : D) (v : V) : Prop :=
  Same H H' ∧ ∃ R : Hp, Same R H' ∧ (∀ a u, R a = some u → (∃ xs, u = .tup xs) ∨ H a = none) ∧ Is Γ R d v
theorem Born.flat {d : D} {v : V} (f : flat d = true) (h : Is Γ H d v) : Born Γ H H d v :=
  ⟨Same.refl H, tupOf H, tupOf_same, fun _ _ h => .inl (tupOf_some h).2, Is.ofFlat f h⟩
theorem Born.is {d : D} {v : V} (h : Born Γ H H' d v) : Is Γ H' d v := by
  obtain ⟨_, R, e, _, q⟩ := h
  exact q.mono e
def jn (T B R : Hp) : Hp := fun a => match T a with
  | some o => some o
  | none => match B a with
    | some o => some o
    | none => R a
theorem jn_cases {T B R : Hp} {a : Addr} {o : HO} (h : jn T B R a = some o) : T a = some o ∨ B a = some o ∨ R a = some o := by
  unfold jn at h
  split at h
  · rename_i u e; cases h; exact .inl e
  · split at h
    · rename_i u e; cases h; exact .inr (.inl e)
    · exact .inr (.inr h)
theorem jn_at {T B R H : Hp} (t : Same T H) (b : Same B H) (r : Same R H) {a : Addr} {o : HO} (h : T a = some o ∨ B a = some o ∨ R a = some o) : jn T B R a = some o := by
  have hH : H a = some o := h.elim (t a o) fun h => h.elim (b a o) (r a o)
  unfold jn
  split
  · rename_i u e; rw [← hH, t a u e]
  · rename_i e
    split
    · rename_i u e2; rw [← hH, b a u e2]
    · rename_i e2
      rcases h with h | h | h
      · rw [e] at h; cases h
      · rw [e2] at h; cases h
      · exact h
theorem Ok.born' {d : D} {v : V} (o : Ok Γ x B F ρ σ H) (h : Born Γ H H' d v) : ∃ B', Gr B H B' H' ∧ Ok Γ x B' F ρ σ H' ∧ Is Γ B' d v := by
  obtain ⟨e, R, er, hn, q⟩ := h
  have t : Same (tupOf H') H' := tupOf_same
  have b : Same B H' := o.bh.trans e
  have nw : ∀ a u, jn (tupOf H') B R a = some u → (∃ xs, u = .tup xs) ∨ B a = some u ∨ H a = none := fun a u z => by
    rcases jn_cases z with z | z | z
    · exact .inl (tupOf_some z).2
    · exact .inr (.inl z)
    · rcases hn a u z with z | z
      · exact .inl z
      · exact .inr (.inr z)
  have bb : Same B (jn (tupOf H') B R) := fun a u z => jn_at t b er (.inr (.inl z))
  refine ⟨jn (tupOf H') B R, ⟨e, bb, nw⟩, ?_, q.mono fun a u z => jn_at t b er (.inr (.inr z))⟩
  refine o.grow e bb (fun a u z => ?_) (fun a xs z => jn_at t b er (.inl (tupOf_tup z))) nw
  rcases jn_cases z with z | z | z
  · exact t a u z
  · exact b a u z
  · exact er a u z
theorem Val.is {m : Md} {d : D} {v : V} (o : Ok Γ x B F ρ σ H) (h : Val Γ x m B H d v) : Is Γ H d v := by
  cases m with
  | own => exact h
  | par => exact Is.mono o.kp h
  | new => exact Is.mono o.bh h
theorem Val.mono {m : Md} {d : D} {v : V} {B' : Hp} (g : Gr B H B' H') (h : Val Γ x m B H d v) : Val Γ x m B' H' d v := by
  cases m with
  | own => exact Is.mono g.hh h
  | par => exact h
  | new => exact Is.mono g.bb h
end

/-! ### the judgements -/
abbrev gx (X : Cx) (cm : Nat → Addr) : Ga := ⟨X.K, cm⟩
abbrev EF := Ev → Option (D × Md)
/-- e is worth what f says of the slots -/
def PuE (cm : Nat → Addr) (X : Cx) (e : Expr) (f : EF) : Prop :=
  ∃ t, PE X e t ∧ ∀ (x : Fx) (B : Hp) (F : Nat → List Addr) (ρ : Ev) (σ : St) (H : Hp) (d : D) (m : Md) (Q : VK), Ok (gx X cm) x B F ρ σ H → f ρ = some (d, m) →
    (∀ v B' H', Gr B H B' H' → Ok (gx X cm) x B' F ρ σ H' → Val (gx X cm) x m B' H' d v → Q v H') → t σ H Q
def PuT (cm : Nat → Addr) (X : Cx) (e : Expr) (f : Ev → Option Bool) : Prop :=
  ∃ t, PT X e t ∧ ∀ (x : Fx) (B : Hp) (F : Nat → List Addr) (ρ : Ev) (σ : St) (H : Hp) (b : Bool) (Q : Bool → Hp → Prop), Ok (gx X cm) x B F ρ σ H → f ρ = some b →
    (∀ B' H', Gr B H B' H' → Ok (gx X cm) x B' F ρ σ H' → Q b H') → t σ H Q
/-- arguments -/
def PuA (cm : Nat → Addr) (X : Cx) (es : List Expr) (f : Ev → Option (List (D × Md))) : Prop :=
  ∃ t, PA X es t ∧ ∀ (x : Fx) (B : Hp) (F : Nat → List Addr) (ρ : Ev) (σ : St) (H : Hp) (ds : List (D × Md)) (Q : List V → Hp → Prop), Ok (gx X cm) x B F ρ σ H → f ρ = some ds →
    (∀ vs B' H', Gr B H B' H' → Ok (gx X cm) x B' F ρ σ H' → Paired (fun (p : D × Md) v => Val (gx X cm) x p.2 B' H' p.1 v) ds vs → Q vs H') → t σ H Q
end DL

/-! DL4: expressions: names, constants, operators, comparisons, subscripts, calls, displays, slices. -/
namespace DL
open PySem L2

section
variable {cm : Nat → Addr} {X : Cx}

/-! ### names and constants -/
def eV (i : Nat) : EF := fun ρ => match ρ[i]? with
  | some (.fz d) => some (d, .par)
  | some (.fa d) => some (d, .par)
  | some (.fn d) => some (d, .new)
  | some (.ow d) => some (d, .own)
  | some (.on d) => some (d, .own)
  | _ => none
theorem pu_var (i : Nat) {x : Str} {pos : Pos} (hN : X.N[i]? = some x := by rfl) (hv : Vis X.env.scope x := by first | exact Or.inl rfl | exact Or.inr (Or.inl rfl) | exact Or.inr (Or.inr rfl))
    (hd : (x == ("__debug__" : Str)) = false := by decide) (hcd : (x == ("__classdict__" : Str)) = false := by decide) : PuE cm X (.Name x pos) (eV i) := by
  refine ⟨_, pe_var hN hv hd hcd, fun z B F ρ σ H d m Q ok hf hQ => ?_⟩
  have key : ∃ v, σ[i]? = some (some v) ∧ Val (gx X cm) z m B H d v := by
    unfold eV at hf
    split at hf
    all_goals first
      | (rename_i e; cases hf; obtain ⟨_, v, e1, e2⟩ := ok.at_ i _ e; exact ⟨v, e1, e2⟩)
      | (rename_i e; cases hf; obtain ⟨v, e1, e2, _⟩ := ok.at_ i _ e; exact ⟨v, e1, e2.is⟩)
      | cases hf
  obtain ⟨v, e, q⟩ := key
  exact ⟨v, e, hQ v B H (Gr.refl B H) ok q⟩

/-- an atom as a value -/
def atomV : D → Option V
  | .non => some .non
  | .bl b => some (.bl b)
  | .int i => some (.int i)
  | .str x => some (.str x)
  | _ => none
theorem atomV_is {Γ : Ga} {H : Hp} {d : D} {v w : V} (h : atomV d = some v) (i : Is Γ H d w) : w = v := by
  cases d <;> simp [atomV] at h <;> subst h <;> exact i
theorem atomV_mk {Γ : Ga} {H : Hp} {d : D} {v : V} (h : atomV d = some v) : Is Γ H d v := by
  cases d <;> simp [atomV] at h <;> subst h <;> rfl
theorem atomV_flat {d : D} {v : V} (h : atomV d = some v) : flat d = true := by
  cases d <;> simp [atomV] at h <;> rfl
def eC (d : D) : EF := fun _ => some (d, .new)
theorem pu_const {e : Expr} {d : D} {v : V} (h : PE X e (tC v)) (ha : atomV d = some v) : PuE cm X e (eC d) :=
  ⟨_, h, fun _ B F ρ σ H c m Q ok hf hQ => by cases hf; exact hQ v B H (Gr.refl B H) ok (atomV_mk ha)⟩
theorem pu_int {i j pos} : PuE cm X (.Constant (.int i) j pos) (eC (.int i)) := pu_const pe_int rfl
theorem pu_bl {b j pos} : PuE cm X (.Constant (.bool b) j pos) (eC (.bl b)) := pu_const pe_bl rfl
theorem pu_non {j pos} : PuE cm X (.Constant .none j pos) (eC .non) := pu_const pe_non rfl
theorem pu_str {x j pos} : PuE cm X (.Constant (.str x) j pos) (eC (.str x)) := pu_const pe_str rfl
/-- a module's constant -/
theorem pu_glob {x : Str} {d : D} {v : V} {u : Value} {pos : Pos} (hg : Gl X x) (hm : X.mg x = some u) (r : RelV v u) (ha : atomV d = some v) (hd : (x == ("__debug__" : Str)) = false := by decide) : PuE cm X (.Name x pos) (eC d) :=
  pu_const (pe_glob hg hm r hd) ha

/-! ### two-place operators -/
/-- by data: o says what comes of it -/
def OkOp (Γ : Ga) (r : R2) (o : D → D → Option D) : Prop :=
  ∀ (H : Hp) (a b c : D) (v u : V) (Q : VK), o a b = some c → Is Γ H a v → Is Γ H b u → (∀ w H', Born Γ H H' c w → Q w H') → r v u H Q
def e2 (o : D → D → Option D) (f g : EF) : EF := fun ρ => (f ρ).bind fun a => (g ρ).bind fun b => (o a.1 b.1).bind fun c => some (c, .new)
theorem e2_some {o : D → D → Option D} {f g : EF} {ρ : Ev} {d : D} {m : Md} (h : e2 o f g ρ = some (d, m)) : ∃ a m1 b m2, f ρ = some (a, m1) ∧ g ρ = some (b, m2) ∧ o a b = some d ∧ m = .new := by
  unfold e2 at h
  cases ea : f ρ with
  | none => rw [ea] at h; cases h
  | some a =>
    cases eb : g ρ with
    | none => rw [ea, eb] at h; cases h
    | some b =>
      rw [ea, eb] at h
      cases ec : o a.1 b.1 with
      | none => simp [ec] at h
      | some c =>
        simp [ec] at h
        exact ⟨a.1, a.2, b.1, b.2, rfl, rfl, h.1 ▸ ec, h.2.symm⟩
variable {a b : Expr} {fa fb : EF} {pos : Pos}
/-- two expressions, one after the other -/
theorem two {ta tb : TE} {f g : EF} (ha : ∀ (x : Fx) (B : Hp) (F : Nat → List Addr) (ρ : Ev) (σ : St) (H : Hp) (d : D) (m : Md) (Q : VK), Ok (gx X cm) x B F ρ σ H → f ρ = some (d, m) →
      (∀ v B' H', Gr B H B' H' → Ok (gx X cm) x B' F ρ σ H' → Val (gx X cm) x m B' H' d v → Q v H') → ta σ H Q)
    (hb : ∀ (x : Fx) (B : Hp) (F : Nat → List Addr) (ρ : Ev) (σ : St) (H : Hp) (d : D) (m : Md) (Q : VK), Ok (gx X cm) x B F ρ σ H → g ρ = some (d, m) →
      (∀ v B' H', Gr B H B' H' → Ok (gx X cm) x B' F ρ σ H' → Val (gx X cm) x m B' H' d v → Q v H') → tb σ H Q)
    {x : Fx} {B : Hp} {F : Nat → List Addr} {ρ : Ev} {σ : St} {H : Hp} {d e : D} {m n : Md} {R : V → V → Hp → Prop} (ok : Ok (gx X cm) x B F ρ σ H) (hf : f ρ = some (d, m)) (hg : g ρ = some (e, n))
    (h : ∀ v u B' H', Gr B H B' H' → Ok (gx X cm) x B' F ρ σ H' → Val (gx X cm) x m B' H' d v → Val (gx X cm) x n B' H' e u → R v u H') : ta σ H fun v H1 => tb σ H1 fun u H2 => R v u H2 := by
  refine ha x B F ρ σ H d m _ ok hf fun v B1 H1 g1 ok1 v1 => ?_
  refine hb x B1 F ρ σ H1 e n _ ok1 hg fun u B2 H2 g2 ok2 v2 => ?_
  exact h v u B2 H2 (g1.trans g2) ok2 (v1.mono g2) v2
theorem pu_op2 {t : TE → TE → TE} {e : Expr} {r : R2} {o : D → D → Option D} (ht : ∀ ta tb, PE X a ta → PE X b tb → PE X e (tOp r ta tb)) (ho : OkOp (gx X cm) r o) (ha : PuE cm X a fa) (hb : PuE cm X b fb) : PuE cm X e (e2 o fa fb) := by
  obtain ⟨ta, pa, qa⟩ := ha
  obtain ⟨tb, pb, qb⟩ := hb
  refine ⟨_, ht ta tb pa pb, fun x B F ρ σ H d m Q ok hf hQ => ?_⟩
  obtain ⟨da, m1, db, m2, ea, eb, ed, rfl⟩ := e2_some hf
  refine two (R := fun v u H2 => r v u H2 Q) qa qb ok ea eb fun v u B' H' g ok' hv hu => ?_
  refine ho H' da db d v u Q ed (hv.is ok') (hu.is ok') fun w H2 bn => ?_
  obtain ⟨B2, g2, ok2, hw⟩ := ok'.born' bn
  exact hQ w B2 H2 (g.trans g2) ok2 hw
theorem pu_bin {op : Operator} {r : R2} {o : D → D → Option D} (hr : OpR X (binaryOp op) r) (ho : OkOp (gx X cm) r o) (ha : PuE cm X a fa) (hb : PuE cm X b fb) : PuE cm X (.BinOp a op b pos) (e2 o fa fb) :=
  pu_op2 (t := tOp r) (fun _ _ pa pb => pe_op hr pa pb) ho ha hb
theorem pu_cmp {op : CmpOp} {r : R2} {o : D → D → Option D} (hr : OpR X (compareOp op) r) (ho : OkOp (gx X cm) r o) (ha : PuE cm X a fa) (hb : PuE cm X b fb) (hm : behindInMarks op b = false := by first | exact nomark _ | rfl) : PuE cm X (.Compare a [op] [b] pos) (e2 o fa fb) :=
  pu_op2 (t := tOp r) (fun _ _ pa pb => pe_cmpR hr pa pb hm) ho ha hb

theorem Born.atom {Γ : Ga} {H : Hp} {d : D} {v : V} (h : atomV d = some v) : Born Γ H H d v := Born.flat (atomV_flat h) (atomV_mk h)
/-- a new list or tuple of what is flat -/
theorem born_new {Γ : Ga} {H : Hp} {p : Addr} {o : HO} {d : D} (hp : H p = none) (h : ∀ R : Hp, Same (tupOf H) R → R p = some o → Is Γ R d (.ref p)) : Born Γ H (upd H p o) d (.ref p) := by
  have ne : ∀ {b u}, H b = some u → b ≠ p := fun e q => by rw [q, hp] at e; cases e
  refine ⟨fun b u e => by rw [upd_ne (ne e)]; exact e, upd (tupOf H) p o, fun b u e => ?_, fun b u e => ?_, h _ (fun b u e => ?_) upd_same⟩
  · by_cases q : b = p
    · subst q; rw [upd_same] at e ⊢; exact e
    · rw [upd_ne q] at e ⊢; exact tupOf_same _ _ e
  · by_cases q : b = p
    · subst q; exact .inr hp
    · rw [upd_ne q] at e; exact .inl (tupOf_some e).2
  · rw [upd_ne (ne (tupOf_same _ _ e))]; exact e
theorem born_lst {Γ : Ga} {H : Hp} {p : Addr} {ds : List D} {vs : List V} (hp : H p = none) (f : flats ds = true) (h : Iss Γ H ds vs) : Born Γ H (upd H p (.lst vs)) (.lst ds) (.ref p) :=
  born_new hp fun _ s e => ⟨p, vs, rfl, e, (Iss.ofFlat f h).mono s⟩
theorem born_tup {Γ : Ga} {H : Hp} {p : Addr} {ds : List D} {vs : List V} (hp : H p = none) (f : flats ds = true) (h : Iss Γ H ds vs) : Born Γ H (upd H p (.tup vs)) (.tup ds) (.ref p) :=
  born_new hp fun _ s e => ⟨p, vs, rfl, e, (Iss.ofFlat f h).mono s⟩

theorem Iss.length {Γ : Ga} {H : Hp} : ∀ {ds : List D} {vs : List V}, Iss Γ H ds vs → vs.length = ds.length
  | [], _, h => by rw [show _ = [] from h]; rfl
  | _ :: _, _, ⟨v, r, e, _, h2⟩ => by subst e; rw [List.length_cons, List.length_cons, Iss.length h2]
theorem Iss.get {Γ : Ga} {H : Hp} : ∀ {ds : List D} {vs : List V} {i : Nat} {d : D}, Iss Γ H ds vs → ds[i]? = some d → ∃ v, vs[i]? = some v ∧ Is Γ H d v
  | [], _, _, _, _, e => by simp at e
  | _ :: _, _, 0, _, ⟨v, r, e, h1, _⟩, q => by
    subst e
    cases q
    exact ⟨v, rfl, h1⟩
  | _ :: _, _, i + 1, _, ⟨v, r, e, _, h2⟩, q => by
    subst e
    obtain ⟨w, e1, e2⟩ := Iss.get h2 (i := i) (by simpa using q)
    exact ⟨w, by simpa using e1, e2⟩
theorem Iss.append {Γ : Ga} {H : Hp} : ∀ {ds es : List D} {vs us : List V}, Iss Γ H ds vs → Iss Γ H es us → Iss Γ H (ds ++ es) (vs ++ us)
  | [], _, _, _, h, k => by rw [show _ = [] from h]; exact k
  | _ :: _, _, _, _, ⟨v, r, e, h1, h2⟩, k => by subst e; exact ⟨v, r ++ _, rfl, h1, Iss.append h2 k⟩
theorem Iss.take {Γ : Ga} {H : Hp} : ∀ {ds : List D} {vs : List V} (n : Nat), Iss Γ H ds vs → Iss Γ H (ds.take n) (vs.take n)
  | _, _, 0, _ => by rw [List.take_zero, List.take_zero]; rfl
  | [], _, n + 1, h => by rw [show _ = [] from h]; rfl
  | _ :: _, _, n + 1, ⟨v, r, e, h1, h2⟩ => by subst e; exact ⟨v, r.take n, rfl, h1, Iss.take n h2⟩
theorem Iss.drop {Γ : Ga} {H : Hp} : ∀ {ds : List D} {vs : List V} (n : Nat), Iss Γ H ds vs → Iss Γ H (ds.drop n) (vs.drop n)
  | _, _, 0, h => h
  | [], _, n + 1, h => by rw [show _ = [] from h]; rfl
  | _ :: _, _, n + 1, ⟨v, r, e, h1, h2⟩ => by subst e; exact Iss.drop n h2
theorem Iss.snoc {Γ : Ga} {H : Hp} {ds : List D} {vs : List V} {d : D} {v : V} (h : Iss Γ H ds vs) (k : Is Γ H d v) : Iss Γ H (ds ++ [d]) (vs ++ [v]) := h.append ⟨v, [], rfl, k, rfl⟩
theorem Iss.reverse {Γ : Ga} {H : Hp} : ∀ {ds : List D} {vs : List V}, Iss Γ H ds vs → Iss Γ H ds.reverse vs.reverse
  | [], _, h => by rw [show _ = [] from h]; rfl
  | _ :: _, _, ⟨v, r, e, h1, h2⟩ => by subst e; rw [List.reverse_cons, List.reverse_cons]; exact (Iss.reverse h2).snoc h1
theorem Iss.scr {Γ : Ga} {H : Hp} : ∀ ns : List Int, Iss Γ H (ns.map D.int) (ns.map V.int)
  | [] => rfl
  | _ :: r => ⟨_, _, rfl, rfl, Iss.scr r⟩
theorem flats_map_int : ∀ ns : List Int, flats (ns.map D.int) = true
  | [] => rfl
  | _ :: r => by rw [List.map_cons, flats, flats_map_int r]; rfl
theorem flats_append : ∀ {a b : List D}, flats (a ++ b) = (flats a && flats b)
  | [], _ => rfl
  | x :: a, b => by rw [List.cons_append, flats, flats, flats_append, Bool.and_assoc]
theorem flats_take : ∀ {a : List D} (n : Nat), flats a = true → flats (a.take n) = true
  | _, 0, _ => rfl
  | [], _ + 1, _ => rfl
  | x :: a, n + 1, h => by
    rw [flats, Bool.and_eq_true] at h
    rw [List.take_succ_cons, flats, h.1, flats_take n h.2]; rfl
theorem flats_drop : ∀ {a : List D} (n : Nat), flats a = true → flats (a.drop n) = true
  | _, 0, h => h
  | [], _ + 1, _ => rfl
  | x :: a, n + 1, h => by
    rw [flats, Bool.and_eq_true] at h
    exact flats_drop n h.2
theorem flats_reverse {a : List D} (h : flats a = true) : flats a.reverse = true := by
  induction a with
  | nil => rfl
  | cons x a ih =>
    rw [flats, Bool.and_eq_true] at h
    rw [List.reverse_cons, flats_append, ih h.2, flats, h.1]; rfl
theorem flats_mem : ∀ {a : List D}, flats a = true → ∀ d ∈ a, flat d = true
  | x :: a, h, d, hd => by
    rw [flats, Bool.and_eq_true] at h
    rcases List.mem_cons.mp hd with rfl | hd
    · exact h.1
    · exact flats_mem h.2 d hd
theorem flats_of : ∀ {a : List D}, (∀ d ∈ a, flat d = true) → flats a = true
  | [], _ => rfl
  | x :: a, h => by rw [flats, h x (by simp), flats_of fun d hd => h d (by simp [hd])]; rfl

/-! ### arithmetic -/
def addD : D → D → Option D
  | .int i, .int j => some (.int (i + j))
  | .str x, .str y => if x.length + y.length ≤ 16777216 then some (.str (x ++ y)) else none
  | .lst xs, .lst ys => if flats xs = true ∧ flats ys = true ∧ xs.length + ys.length ≤ 16777216 then some (.lst (xs ++ ys)) else none
  | _, _ => none
def subD : D → D → Option D
  | .int i, .int j => some (.int (i - j))
  | _, _ => none
def mulD : D → D → Option D
  | .int i, .int j => if (-18446744073709551616 < i ∧ i < 18446744073709551616) ∨ (-18446744073709551616 < j ∧ j < 18446744073709551616) then some (.int (i * j)) else none
  | .lst xs, .int k => if flats xs = true ∧ 0 ≤ k ∧ k < 1000000 ∧ xs.length * k.toNat ≤ 16777216 then some (.lst (List.replicate k.toNat xs).flatten) else none
  | _, _ => none
def fdivD : D → D → Option D
  | .int i, .int j => if 0 < j ∧ j < 1073741824 then some (.int (i / j)) else none
  | _, _ => none
def modD : D → D → Option D
  | .int i, .int j => if 0 < j then some (.int (i % j)) else none
  | _, _ => none
theorem line_eq : sizeLine = 16777216 := by decide
abbrev rAddA : R2 := fun x y H Q => rI0 (fun i j => .int (i + j)) x y H Q ∨ (∃ i j, x = .str i ∧ y = .str j ∧ i.length + j.length ≤ sizeLine ∧ Q (.str (i ++ j)) H) ∨ rCat x y H Q
theorem op_addA : OpR X (binaryOp .Add) rAddA := op_add.or (op_add_str.or op_cat)
theorem ok_add {Γ : Ga} : OkOp Γ rAddA addD := by
  intro H a b c v u Q e ha hb hQ
  unfold addD at e
  split at e
  · cases e; cases ha; cases hb
    exact .inl ⟨_, _, rfl, rfl, hQ _ _ (.atom rfl)⟩
  · split at e
    · rename_i h
      cases e; cases ha; cases hb
      exact .inr (.inl ⟨_, _, rfl, rfl, by rw [line_eq]; exact h, hQ _ _ (.atom rfl)⟩)
    · cases e
  · split at e
    · rename_i h
      cases e
      obtain ⟨p, vs, rfl, h1, h2⟩ := ha
      obtain ⟨q, us, rfl, k1, k2⟩ := hb
      exact .inr (.inr ⟨_, _, _, _, rfl, rfl, h1, k1, by rw [line_eq, h2.length, k2.length]; exact h.2.2, fun l hl => hQ _ _ (born_lst hl (by rw [flats_append, h.1, h.2.1]; rfl) (h2.append k2))⟩)
    · cases e
  · cases e
theorem pu_add (ha : PuE cm X a fa) (hb : PuE cm X b fb) : PuE cm X (.BinOp a .Add b pos) (e2 addD fa fb) := pu_bin op_addA ok_add ha hb
theorem ok_sub {Γ : Ga} : OkOp Γ (rI0 fun i j => .int (i - j)) subD := by
  intro H a b c v u Q e ha hb hQ
  unfold subD at e
  split at e
  · cases e; cases ha; cases hb
    exact ⟨_, _, rfl, rfl, hQ _ _ (.atom rfl)⟩
  · cases e
theorem pu_sub (ha : PuE cm X a fa) (hb : PuE cm X b fb) : PuE cm X (.BinOp a .Sub b pos) (e2 subD fa fb) := pu_bin op_sub ok_sub ha hb
theorem flats_rep {xs : List D} (h : flats xs = true) : ∀ n : Nat, flats (List.replicate n xs).flatten = true
  | 0 => rfl
  | n + 1 => by rw [List.replicate_succ, List.flatten_cons, flats_append, h, flats_rep h n]; rfl
theorem Iss.rep {Γ : Ga} {H : Hp} {ds : List D} {vs : List V} (h : Iss Γ H ds vs) : ∀ n : Nat, Iss Γ H (List.replicate n ds).flatten (List.replicate n vs).flatten
  | 0 => rfl
  | n + 1 => by rw [List.replicate_succ, List.flatten_cons, List.replicate_succ, List.flatten_cons]; exact h.append (Iss.rep h n)
abbrev rMulA : R2 := fun x y H Q => rI CMul (fun i j => .int (i * j)) x y H Q ∨ rRep x y H Q
theorem ok_mul {Γ : Ga} : OkOp Γ rMulA mulD := by
  intro H a b c v u Q e ha hb hQ
  unfold mulD at e
  split at e
  · split at e
    · rename_i h
      cases e; cases ha; cases hb
      exact .inl ⟨_, _, rfl, rfl, h, hQ _ _ (.atom rfl)⟩
    · cases e
  · split at e
    · rename_i h
      cases e
      obtain ⟨p, vs, rfl, h1, h2⟩ := ha
      cases hb
      exact .inr ⟨_, _, _, rfl, rfl, h1, by omega, by omega, by rw [line_eq, h2.length]; exact h.2.2.2, fun l hl => hQ _ _ (born_lst hl (flats_rep h.1 _) (h2.rep _))⟩
    · cases e
  · cases e
theorem pu_mul (ha : PuE cm X a fa) (hb : PuE cm X b fb) : PuE cm X (.BinOp a .Mult b pos) (e2 mulD fa fb) := pu_bin (op_mul.or op_rep) ok_mul ha hb
theorem ok_fdiv {Γ : Ga} : OkOp Γ (rI CDiv fun i j => .int (i / j)) fdivD := by
  intro H a b c v u Q e ha hb hQ
  unfold fdivD at e
  split at e
  · split at e
    · rename_i h
      cases e; cases ha; cases hb
      exact ⟨_, _, rfl, rfl, h, hQ _ _ (.atom rfl)⟩
    · cases e
  · cases e
theorem pu_fdiv (ha : PuE cm X a fa) (hb : PuE cm X b fb) : PuE cm X (.BinOp a .FloorDiv b pos) (e2 fdivD fa fb) := pu_bin op_fdiv ok_fdiv ha hb
theorem ok_mod {Γ : Ga} : OkOp Γ (rI (fun _ j => 0 < j) fun i j => .int (i % j)) modD := by
  intro H a b c v u Q e ha hb hQ
  unfold modD at e
  split at e
  · split at e
    · rename_i h
      cases e; cases ha; cases hb
      exact ⟨_, _, rfl, rfl, h, hQ _ _ (.atom rfl)⟩
    · cases e
  · cases e
theorem pu_mod (ha : PuE cm X a fa) (hb : PuE cm X b fb) : PuE cm X (.BinOp a .Mod b pos) (e2 modD fa fb) := pu_bin op_mod ok_mod ha hb

/-! ### comparisons -/
def cmpD (p : Int → Int → Bool) : D → D → Option D
  | .int i, .int j => some (.bl (p i j))
  | _, _ => none
theorem ok_cmp {Γ : Ga} (p : Int → Int → Bool) : OkOp Γ (rI0 fun i j => .bl (p i j)) (cmpD p) := by
  intro H a b c v u Q e ha hb hQ
  unfold cmpD at e
  split at e
  · cases e; cases ha; cases hb
    exact ⟨_, _, rfl, rfl, hQ _ _ (.atom rfl)⟩
  · cases e
abbrev ltD := cmpD fun i j => decide (i < j)
abbrev leD := cmpD fun i j => decide (i ≤ j)
abbrev gtD := cmpD fun i j => decide (j < i)
abbrev geD := cmpD fun i j => decide (j ≤ i)
theorem pu_lt (ha : PuE cm X a fa) (hb : PuE cm X b fb) : PuE cm X (.Compare a [.Lt] [b] pos) (e2 ltD fa fb) := pu_cmp op_lt (ok_cmp _) ha hb
theorem pu_le (ha : PuE cm X a fa) (hb : PuE cm X b fb) : PuE cm X (.Compare a [.LtE] [b] pos) (e2 leD fa fb) := pu_cmp op_le (ok_cmp _) ha hb
theorem pu_gt (ha : PuE cm X a fa) (hb : PuE cm X b fb) : PuE cm X (.Compare a [.Gt] [b] pos) (e2 gtD fa fb) := pu_cmp op_gt (ok_cmp _) ha hb
theorem pu_ge (ha : PuE cm X a fa) (hb : PuE cm X b fb) : PuE cm X (.Compare a [.GtE] [b] pos) (e2 geD fa fb) := pu_cmp op_ge (ok_cmp _) ha hb

mutual
def toPy : D → Option PyData
  | .non => some .none
  | .bl b => some (.bool b)
  | .int i => some (.int i)
  | .str x => some (.str x)
  | .tup ds => (toPys ds).map .tuple
  | .lst ds => (toPys ds).map .list
  | _ => none
def toPys : List D → Option (List PyData)
  | [] => some []
  | d :: r => (toPy d).bind fun p => (toPys r).bind fun q => some (p :: q)
end
mutual
theorem dp_of {Γ : Ga} {H : Hp} : ∀ {d : D} {v : V} {p : PyData}, toPy d = some p → Is Γ H d v → Dp Γ.K H v p
  | .non, _, _, e, h => by rw [toPy] at e; cases e; cases h; exact .non
  | .bl _, _, _, e, h => by rw [toPy] at e; cases e; cases h; exact .bl _
  | .int _, _, _, e, h => by rw [toPy] at e; cases e; cases h; exact .int _
  | .str _, _, _, e, h => by rw [toPy] at e; cases e; cases h; exact .str _
  | .tup ds, _, _, e, ⟨a, vs, e1, h1, h2⟩ => by
    subst e1
    rw [toPy] at e
    cases q : toPys ds with
    | none => rw [q] at e; cases e
    | some ps => rw [q] at e; cases e; exact .tup (SqT.of h1) (dps_of q h2)
  | .lst ds, _, _, e, ⟨a, vs, e1, h1, h2⟩ => by
    subst e1
    rw [toPy] at e
    cases q : toPys ds with
    | none => rw [q] at e; cases e
    | some ps => rw [q] at e; cases e; exact .lst (SqL.of h1) (dps_of q h2)
  | .scr _, _, _, e, _ => by simp [toPy] at e
  | .dic _, _, _, e, _ => by simp [toPy] at e
  | .ins _ _, _, _, e, _ => by simp [toPy] at e
theorem dps_of {Γ : Ga} {H : Hp} : ∀ {d : List D} {v : List V} {p : List PyData}, toPys d = some p → Iss Γ H d v → DpAll Γ.K H v p
  | [], _, _, e, h => by rw [toPys] at e; cases e; cases h; exact .nil
  | d :: r, _, _, e, ⟨v, s, e1, h1, h2⟩ => by
    subst e1
    rw [toPys] at e
    cases q : toPy d with
    | none => simp [q] at e
    | some p =>
      cases q2 : toPys r with
      | none => simp [q, q2] at e
      | some ps =>
        simp [q, q2] at e
        subst e
        exact .cons (dp_of q h1) (dps_of q2 h2)
end
/-- Python's == of data -/
def eqD (a b : D) : Option Bool := (toPy a).bind fun p => (toPy b).bind fun q => if SeqAt.shaped p = true ∧ SeqAt.shaped q = true then some (PyData.eqv p q) else none
theorem eqD_some {a b : D} {k : Bool} (h : eqD a b = some k) : ∃ p q, toPy a = some p ∧ toPy b = some q ∧ SeqAt.shaped p = true ∧ SeqAt.shaped q = true ∧ k = PyData.eqv p q := by
  unfold eqD at h
  cases ea : toPy a with
  | none => simp [ea] at h
  | some p =>
    cases eb : toPy b with
    | none => simp [ea, eb] at h
    | some q =>
      simp [ea, eb] at h
      exact ⟨p, q, rfl, rfl, h.1.1, h.1.2, h.2.symm⟩
def eqDD (a b : D) : Option D := (eqD a b).map .bl
def neDD (a b : D) : Option D := (eqD a b).map fun k => .bl (!k)
theorem ok_eq {Γ : Ga} : OkOp Γ (rEqD Γ.K) eqDD := by
  intro H a b c v u Q e ha hb hQ
  unfold eqDD at e
  cases q : eqD a b with
  | none => rw [q] at e; cases e
  | some k =>
    rw [q] at e
    cases e
    obtain ⟨p, s, e1, e2, z1, z2, rfl⟩ := eqD_some q
    exact ⟨p, s, dp_of e1 ha, dp_of e2 hb, z1, z2, hQ _ _ (.atom rfl)⟩
theorem ok_ne {Γ : Ga} : OkOp Γ (rNeD Γ.K) neDD := by
  intro H a b c v u Q e ha hb hQ
  unfold neDD at e
  cases q : eqD a b with
  | none => rw [q] at e; cases e
  | some k =>
    rw [q] at e
    cases e
    obtain ⟨p, s, e1, e2, z1, z2, rfl⟩ := eqD_some q
    exact ⟨p, s, dp_of e1 ha, dp_of e2 hb, z1, z2, hQ _ _ (.atom rfl)⟩
theorem pu_eq (hu : X.A.units + 64 < cLine) (ha : PuE cm X a fa) (hb : PuE cm X b fb) : PuE cm X (.Compare a [.Eq] [b] pos) (e2 eqDD fa fb) := pu_cmp (op_eqD hu) ok_eq ha hb
theorem pu_ne (hu : X.A.units + 64 < cLine) (ha : PuE cm X a fa) (hb : PuE cm X b fb) : PuE cm X (.Compare a [.NotEq] [b] pos) (e2 neDD fa fb) := pu_cmp (op_neD hu) ok_ne ha hb
/-- is None -/
def isN : D → Bool
  | .non => true
  | _ => false
theorem isN_of {Γ : Ga} {H : Hp} {d : D} {v : V} (h : Is Γ H d v) : decide (v = .non) = isN d := by
  cases d with
  | non => cases h; rfl
  | bl => cases h; rfl
  | int => cases h; rfl
  | str => cases h; rfl
  | scr => obtain ⟨a, rfl, _⟩ := h; rfl
  | tup => obtain ⟨a, vs, rfl, _⟩ := h; rfl
  | lst => obtain ⟨a, vs, rfl, _⟩ := h; rfl
  | dic => obtain ⟨a, vs, rfl, _⟩ := h; rfl
  | ins => obtain ⟨a, dx, vs, rfl, _⟩ := h; rfl
def e1 (o : D → Option D) (f : EF) : EF := fun ρ => (f ρ).bind fun a => (o a.1).bind fun c => some (c, .new)
theorem e1_some {o : D → Option D} {f : EF} {ρ : Ev} {d : D} {m : Md} (h : e1 o f ρ = some (d, m)) : ∃ a m1, f ρ = some (a, m1) ∧ o a = some d ∧ m = .new := by
  unfold e1 at h
  cases ea : f ρ with
  | none => rw [ea] at h; cases h
  | some a =>
    rw [ea] at h
    cases ec : o a.1 with
    | none => simp [ec] at h
    | some c =>
      simp [ec] at h
      exact ⟨a.1, a.2, rfl, h.1 ▸ ec, h.2.symm⟩
def OkU (Γ : Ga) (r : V → Hp → VK → Prop) (o : D → Option D) : Prop :=
  ∀ (H : Hp) (a c : D) (v : V) (Q : VK), o a = some c → Is Γ H a v → (∀ w H', Born Γ H H' c w → Q w H') → r v H Q
theorem pu_op1 {e : Expr} {r : V → Hp → VK → Prop} {o : D → Option D} (ht : ∀ ta, PE X a ta → PE X e (fun σ H Q => ta σ H fun v H1 => r v H1 Q)) (ho : OkU (gx X cm) r o) (ha : PuE cm X a fa) : PuE cm X e (e1 o fa) := by
  obtain ⟨ta, pa, qa⟩ := ha
  refine ⟨_, ht ta pa, fun x B F ρ σ H d m Q ok hf hQ => ?_⟩
  obtain ⟨da, m1, ea, ed, rfl⟩ := e1_some hf
  refine qa x B F ρ σ H da m1 _ ok ea fun v B' H' g ok' hv => ?_
  refine ho H' da d v Q ed (hv.is ok') fun w H2 bn => ?_
  obtain ⟨B2, g2, ok2, hw⟩ := ok'.born' bn
  exact hQ w B2 H2 (g.trans g2) ok2 hw
def isND (d : D) : Option D := some (.bl (isN d))
def notND (d : D) : Option D := some (.bl (!isN d))
theorem pu_isN {j pos'} (ha : PuE cm X a fa) : PuE cm X (.Compare a [.Is] [.Constant .none j pos'] pos) (e1 isND fa) :=
  pu_op1 (r := fun v H Q => Q (.bl (decide (v = .non))) H) (fun _ pa => pe_cmp (pc_isN pa) rfl) (fun H d c v Q e h hQ => by cases e; rw [isN_of h]; exact hQ _ _ (.atom rfl)) ha
theorem pu_notN {j pos'} (ha : PuE cm X a fa) : PuE cm X (.Compare a [.IsNot] [.Constant .none j pos'] pos) (e1 notND fa) :=
  pu_op1 (r := fun v H Q => Q (.bl (!decide (v = .non))) H) (fun _ pa => pe_cmp (pc_notN pa) rfl) (fun H d c v Q e h hQ => by cases e; rw [isN_of h]; exact hQ _ _ (.atom rfl)) ha
def negD : D → Option D
  | .int i => some (.int (-i))
  | _ => none
theorem pu_neg (ha : PuE cm X a fa) : PuE cm X (.UnaryOp .USub a pos) (e1 negD fa) :=
  pu_op1 (fun _ pa => pe_un un_neg pa) (fun H d c v Q e h hQ => by
    unfold negD at e
    split at e
    · cases e; cases h; exact ⟨_, rfl, hQ _ _ (.atom rfl)⟩
    · cases e) ha
end
end DL

/-! DL5: in, subscripts, fields, and or not, slices, displays, calls. -/
namespace DL
open PySem L2

section
variable {cm : Nat → Addr} {X : Cx} {a b c : Expr} {fa fb fc : EF} {pos : Pos}

/-! ### dicts by key -/
def keyOf : D → Option Key
  | .int i => some (.inl i)
  | .str x => some (.inr x)
  | _ => none
theorem keyOf_is {Γ : Ga} {H : Hp} {d : D} {k : Key} {v : V} (h : keyOf d = some k) (i : Is Γ H d v) : v = kV k := by
  cases d <;> simp [keyOf] at h <;> subst h <;> exact i
theorem IsK.val {Γ : Ga} {H : Hp} : ∀ {ds : List (Key × D)} {vs : List (Key × V)} (k : Key), IsK Γ H ds vs → match getK ds k with
    | some d => ∃ v, valV vs k = some v ∧ Is Γ H d v
    | none => valV vs k = none
  | [], _, k, h => by rw [show _ = [] from h]; exact valV_nil
  | (k0, d) :: r, _, k, ⟨v, s, e, h1, h2⟩ => by
    subst e
    rw [getK]
    by_cases q : k0 = k
    · rw [if_pos q]; exact ⟨v, valV_pos (p := (k0, v)) q, h1⟩
    · rw [if_neg q, valV_neg (p := (k0, v)) q]; exact IsK.val k h2
theorem IsK.some {Γ : Ga} {H : Hp} {ds : List (Key × D)} {vs : List (Key × V)} {k : Key} {d : D} (h : IsK Γ H ds vs) (g : getK ds k = some d) : ∃ v, valV vs k = some v ∧ Is Γ H d v := by
  have q := h.val k
  rw [g] at q
  exact q
theorem IsK.isSome {Γ : Ga} {H : Hp} {ds : List (Key × D)} {vs : List (Key × V)} {k : Key} (h : IsK Γ H ds vs) : (valV vs k).isSome = (getK ds k).isSome := by
  have q := h.val k
  cases g : getK ds k with
  | none => rw [g] at q; rw [show valV vs k = none from q]; rfl
  | some d => rw [g] at q; obtain ⟨v, e, _⟩ := q; rw [e]; rfl
theorem op_din (hu : X.A.units + 1 < cLine) : OpR X (compareOp .In) (fun y x H Q => ∃ p o, x = .ref p ∧ DGet H p y o ∧ Q (.bl o.isSome) H) := by
  intro pins s σ H y x v u Q I ry rx h
  obtain ⟨p, o, rfl, g, q⟩ := h
  cases rx
  exact d_in hu I g ry fun s' I' => ⟨.bl _, H, I', rfl, q⟩
theorem op_dnotin (hu : X.A.units + 1 < cLine) : OpR X (compareOp .NotIn) (fun y x H Q => ∃ p o, x = .ref p ∧ DGet H p y o ∧ Q (.bl (!o.isSome)) H) := by
  intro pins s σ H y x v u Q I ry rx h
  obtain ⟨p, o, rfl, g, q⟩ := h
  cases rx
  exact d_notIn hu I g ry fun s' I' => ⟨.bl _, H, I', rfl, q⟩

/-! ### in -/
def atomsV : List D → Option (List V)
  | [] => some []
  | d :: r => (atomV d).bind fun v => (atomsV r).bind fun vs => some (v :: vs)
theorem atomsV_is {Γ : Ga} {H : Hp} : ∀ {ds : List D} {vs ws : List V}, atomsV ds = some vs → Iss Γ H ds ws → ws = vs
  | [], _, _, h, i => by cases h; exact i
  | d :: r, _, _, h, ⟨v, s, e, h1, h2⟩ => by
    subst e
    rw [atomsV] at h
    cases q : atomV d with
    | none => simp [q] at h
    | some v' =>
      cases q2 : atomsV r with
      | none => simp [q, q2] at h
      | some vs' =>
        simp [q, q2] at h
        subst h
        rw [atomV_is q h1, atomsV_is q2 h2]
theorem atomV_flatV {d : D} {v : V} (h : atomV d = some v) : flatV v = true := by
  cases d <;> simp [atomV] at h <;> subst h <;> rfl
theorem atomsV_flatV : ∀ {ds : List D} {vs : List V}, atomsV ds = some vs → vs.all flatV = true
  | [], _, h => by cases h; rfl
  | d :: r, _, h => by
    rw [atomsV] at h
    cases q : atomV d with
    | none => simp [q] at h
    | some v' =>
      cases q2 : atomsV r with
      | none => simp [q, q2] at h
      | some vs' =>
        simp [q, q2] at h
        subst h
        rw [List.all_cons, atomV_flatV q, atomsV_flatV q2]; rfl
def oneSign (x : Str) : Option Nat := match x.cps.toList with
  | [c] => some c
  | _ => none
theorem oneSign_eq {x : Str} {c : Nat} (h : oneSign x = some c) : x = ⟨#[c]⟩ := by
  unfold oneSign at h
  split at h
  · rename_i e
    cases h
    exact TL.ext_tl e
  · cases h
/-- x in c -/
def inB (x : D) : D → Option Bool
  | .lst ds => (toPy x).bind fun p => (toPys ds).bind fun ps => if SeqAt.shaped p = true ∧ SeqAt.shaped (.list ps) = true then some (ps.any fun z => PyData.eqv z p) else none
  | .tup ds => (atomV x).bind fun v => (atomsV ds).bind fun vs => some (inV v vs)
  | .dic kvs => (keyOf x).bind fun k => some (getK kvs k).isSome
  | .str z => match x with
    | .str y => (oneSign y).bind fun c => some (decide (c ∈ z.cps.toList))
    | _ => none
  | _ => none
def inD (x c : D) : Option D := (inB x c).map .bl
def ninD (x c : D) : Option D := (inB x c).map fun k => .bl (!k)
abbrev rInA (K : PySem.W.Frag) : R2 := fun x y H Q => rInD K x y H Q ∨ rIn K false x y H Q ∨ (∃ p o, y = .ref p ∧ DGet H p x o ∧ Q (.bl o.isSome) H) ∨ (∃ (c : Nat) (z : Str), x = .str ⟨#[c]⟩ ∧ y = .str z ∧ Q (.bl (decide (c ∈ z.cps.toList))) H)
abbrev rNinA (K : PySem.W.Frag) : R2 := fun x y H Q => rNotInD K x y H Q ∨ rIn K true x y H Q ∨ (∃ p o, y = .ref p ∧ DGet H p x o ∧ Q (.bl (!o.isSome)) H) ∨ (∃ (c : Nat) (z : Str), x = .str ⟨#[c]⟩ ∧ y = .str z ∧ Q (.bl (!decide (c ∈ z.cps.toList))) H)
theorem in_all {Γ : Ga} {H : Hp} {x c : D} {v u : V} {k : Bool} (h : inB x c = some k) (hx : Is Γ H x v) (hc : Is Γ H c u) :
    (∃ d ds, Dp Γ.K H v d ∧ Dp Γ.K H u (.list ds) ∧ SeqAt.shaped d = true ∧ SeqAt.shaped (.list ds) = true ∧ k = ds.any fun z => PyData.eqv z d) ∨
    (∃ p xs, u = .ref p ∧ (SqL Γ.K H p xs ∨ SqT Γ.K H p xs) ∧ flatV v = true ∧ xs.all flatV = true ∧ k = inV v xs) ∨
    (∃ p o, u = .ref p ∧ DGet H p v o ∧ k = o.isSome) ∨ (∃ (c : Nat) (z : Str), v = .str ⟨#[c]⟩ ∧ u = .str z ∧ k = decide (c ∈ z.cps.toList)) := by
  unfold inB at h
  split at h
  · rename_i ds
    cases e1 : toPy x with
    | none => simp [e1] at h
    | some p =>
      cases e2 : toPys ds with
      | none => simp [e1, e2] at h
      | some ps =>
        simp [e1, e2] at h
        exact .inl ⟨p, ps, dp_of e1 hx, dp_of (d := .lst ds) (by rw [toPy, e2]; rfl) hc, h.1.1, h.1.2, h.2.symm⟩
  · rename_i ds
    cases e1 : atomV x with
    | none => simp [e1] at h
    | some w =>
      cases e2 : atomsV ds with
      | none => simp [e1, e2] at h
      | some ws =>
        simp [e1, e2] at h
        obtain ⟨p, vs, rfl, h1, h2⟩ := hc
        cases atomV_is e1 hx
        cases atomsV_is e2 h2
        exact .inr (.inl ⟨p, _, rfl, .inr (SqT.of h1), atomV_flatV e1, atomsV_flatV e2, h.symm⟩)
  · rename_i kvs
    cases e1 : keyOf x with
    | none => simp [e1] at h
    | some w =>
      simp [e1] at h
      obtain ⟨p, vs, rfl, h1, h2⟩ := hc
      cases keyOf_is e1 hx
      exact .inr (.inr (.inl ⟨p, _, rfl, DGet.k h1, by rw [← h]; exact h2.isSome.symm⟩))
  · split at h
    · rename_i z _ y
      cases e1 : oneSign y with
      | none => simp [e1] at h
      | some w =>
        simp [e1] at h
        cases hx; cases hc
        exact .inr (.inr (.inr ⟨w, z, by rw [oneSign_eq e1], rfl, by rw [← h]; simp⟩))
    · cases h
  · cases h
theorem ok_in {Γ : Ga} : OkOp Γ (rInA Γ.K) inD := by
  intro H x y d v u Q e hx hy hQ
  unfold inD at e
  cases q : inB x y with
  | none => rw [q] at e; cases e
  | some k =>
    rw [q] at e
    cases e
    have fin := hQ (.bl k) H (.atom rfl)
    rcases in_all q hx hy with ⟨d, ds, h1, h2, h3, h4, rfl⟩ | ⟨p, xs, h1, h2, h3, h4, rfl⟩ | ⟨p, o, h1, h2, rfl⟩ | ⟨c, z, h1, h2, rfl⟩
    · exact .inl ⟨d, ds, h1, h2, h3, h4, fin⟩
    · exact .inr (.inl ⟨p, xs, h1, h2, h3, h4, fin⟩)
    · exact .inr (.inr (.inl ⟨p, o, h1, h2, fin⟩))
    · exact .inr (.inr (.inr ⟨c, z, h1, h2, fin⟩))
theorem ok_nin {Γ : Ga} : OkOp Γ (rNinA Γ.K) ninD := by
  intro H x y d v u Q e hx hy hQ
  unfold ninD at e
  cases q : inB x y with
  | none => rw [q] at e; cases e
  | some k =>
    rw [q] at e
    cases e
    have fin := hQ (.bl (!k)) H (.atom rfl)
    rcases in_all q hx hy with ⟨d, ds, h1, h2, h3, h4, rfl⟩ | ⟨p, xs, h1, h2, h3, h4, rfl⟩ | ⟨p, o, h1, h2, rfl⟩ | ⟨c, z, h1, h2, rfl⟩
    · exact .inl ⟨d, ds, h1, h2, h3, h4, fin⟩
    · exact .inr (.inl ⟨p, xs, h1, h2, h3, h4, fin⟩)
    · exact .inr (.inr (.inl ⟨p, o, h1, h2, fin⟩))
    · exact .inr (.inr (.inr ⟨c, z, h1, h2, fin⟩))
theorem pu_in (hu : X.A.units + 65 < cLine) (ha : PuE cm X a fa) (hb : PuE cm X b fb) (hm : behindInMarks .In b = false := by rfl) : PuE cm X (.Compare a [.In] [b] pos) (e2 inD fa fb) :=
  pu_cmp ((op_inD hu).or (op_in_seq.or ((op_din (by omega)).or op_in_sign))) ok_in ha hb hm
theorem pu_nin (hu : X.A.units + 65 < cLine) (ha : PuE cm X a fa) (hb : PuE cm X b fb) (hm : behindInMarks .NotIn b = false := by rfl) : PuE cm X (.Compare a [.NotIn] [b] pos) (e2 ninD fa fb) :=
  pu_cmp ((op_notInD hu).or (op_notIn_seq.or ((op_dnotin (by omega)).or op_notIn_sign))) ok_nin ha hb hm

/-! ### a part of a thing -/
/-- where a part comes from -/
def effm (m : Md) (d : D) : Md := if flat d = true then .new else m
/-- a part w of v: it stands wherever v stands -/
def PartOf (Γ : Ga) (H : Hp) (a c : D) (v w : V) : Prop := ∀ R : Hp, Same R H → Is Γ R a v → Is Γ R c w
theorem Val.part {Γ : Ga} {x : Fx} {B : Hp} {F : Nat → List Addr} {ρ : Ev} {σ : St} {H : Hp} (ok : Ok Γ x B F ρ σ H) {m : Md} {d c : D} {v w : V} (h : Val Γ x m B H d v) (p : PartOf Γ H d c v w) : Val Γ x (effm m c) B H c w := by
  unfold effm
  split
  · rename_i f
    have q : Is Γ H c w := p H (Same.refl H) (h.is ok)
    exact (Is.ofFlat f q).mono fun a o e => by
      obtain ⟨e1, xs, rfl⟩ := tupOf_some e
      exact ok.tup _ _ e1
  · cases m with
    | own => exact p H (Same.refl H) h
    | par => exact p _ ok.kp h
    | new => exact p _ ok.bh h
def OkIx (Γ : Ga) (r : R2) (o : D → D → Option D) : Prop :=
  ∀ (H : Hp) (a b c : D) (v u : V) (Q : VK), o a b = some c → Is Γ H a v → Is Γ H b u → (∀ w, PartOf Γ H a c v w → Q w H) → r v u H Q
def eIx (o : D → D → Option D) (f g : EF) : EF := fun ρ => (f ρ).bind fun a => (g ρ).bind fun b => (o a.1 b.1).bind fun c => some (c, effm a.2 c)
theorem eIx_some {o : D → D → Option D} {f g : EF} {ρ : Ev} {d : D} {m : Md} (h : eIx o f g ρ = some (d, m)) : ∃ a m1 b m2, f ρ = some (a, m1) ∧ g ρ = some (b, m2) ∧ o a b = some d ∧ m = effm m1 d := by
  unfold eIx at h
  cases ea : f ρ with
  | none => rw [ea] at h; cases h
  | some a =>
    cases eb : g ρ with
    | none => rw [ea, eb] at h; cases h
    | some b =>
      rw [ea, eb] at h
      cases ec : o a.1 b.1 with
      | none => simp [ec] at h
      | some c =>
        simp [ec] at h
        obtain ⟨rfl, rfl⟩ := h
        exact ⟨a.1, a.2, b.1, b.2, rfl, rfl, ec, rfl⟩
theorem ix_dict (hu : X.A.units + 1 < cLine) : IxR X (fun x y H Q => ∃ p v, x = .ref p ∧ DGet H p y (some v) ∧ Q v H) := by
  intro value slice pins s σ H x y v u Q I rx ry h hs
  obtain ⟨p, z, rfl, g, q⟩ := h
  cases rx
  exact PyProof.Rows.tail_any (dict_typeIs I g) PySem.F.slot_dict_getitem.lookup (d_getItem hu I g ry fun w' s3 I3 rw' => ⟨z, H, I3, rw', q⟩) hs
def ixD : D → D → Option D
  | .lst ds, .int i => atI ds i
  | .tup ds, .int i => atI ds i
  | .scr ns, .int i => (atI ns i).map .int
  | .str z, .int i => if z.length ≤ 16777216 then (atI z.cps.toList i).map fun c => .str ⟨#[c]⟩ else none
  | .dic kvs, k => (keyOf k).bind fun k => getK kvs k
  | _, _ => none
abbrev rIxA (K : PySem.W.Frag) : R2 := fun x y H Q => rIx K x y H Q ∨ ∃ p v, x = .ref p ∧ DGet H p y (some v) ∧ Q v H
theorem atI_iss {Γ : Ga} {H : Hp} {ds : List D} {vs : List V} {i : Int} {d : D} (h : Iss Γ H ds vs) (e : atI ds i = some d) : ∃ v, atI vs i = some v ∧ Is Γ H d v := by
  unfold atI at e ⊢
  rw [h.length]
  cases q : ixN ds.length i with
  | none => rw [q] at e; cases e
  | some j =>
    rw [q] at e
    exact h.get e
theorem atI_map {α β : Type} (f : α → β) (xs : List α) (i : Int) : atI (xs.map f) i = (atI xs i).map f := by
  unfold atI
  rw [List.length_map]
  cases ixN xs.length i with
  | none => rfl
  | some j => simp
theorem ok_ix {Γ : Ga} : OkIx Γ (rIxA Γ.K) ixD := by
  intro H a b c v u Q e ha hb hQ
  unfold ixD at e
  split at e
  · obtain ⟨p, vs, rfl, h1, h2⟩ := ha
    cases hb
    obtain ⟨w, e1, e2⟩ := atI_iss h2 e
    refine .inl (.inl ⟨p, vs, _, w, rfl, rfl, SqL.of h1, e1, hQ w fun R eR ⟨p', vs', ep, k1, k2⟩ => ?_⟩)
    cases ep
    have q := (eR _ _ k1).symm.trans h1
    cases q
    obtain ⟨w', e1', e2'⟩ := atI_iss k2 e
    rw [e1] at e1'
    cases e1'
    exact e2'
  · obtain ⟨p, vs, rfl, h1, h2⟩ := ha
    cases hb
    obtain ⟨w, e1, e2⟩ := atI_iss h2 e
    refine .inl (.inr (.inl ⟨p, vs, _, w, rfl, rfl, SqT.of h1, e1, hQ w fun R eR ⟨p', vs', ep, k1, k2⟩ => ?_⟩))
    cases ep
    have q := (eR _ _ k1).symm.trans h1
    cases q
    obtain ⟨w', e1', e2'⟩ := atI_iss k2 e
    rw [e1] at e1'
    cases e1'
    exact e2'
  · rename_i ns i
    obtain ⟨p, rfl, h1⟩ := ha
    cases hb
    cases q : atI ns i with
    | none => rw [q] at e; cases e
    | some n =>
      rw [q] at e
      cases e
      exact .inl (.inl ⟨p, _, _, .int n, rfl, rfl, h1, by rw [atI_map, q]; rfl, hQ _ fun R _ _ => rfl⟩)
  · rename_i z i
    split at e
    · rename_i hl
      cases ha
      cases hb
      cases q : atI z.cps.toList i with
      | none => rw [q] at e; cases e
      | some n =>
        rw [q] at e
        cases e
        exact .inl (.inr (.inr ⟨z, i, n, rfl, rfl, by rw [line_eq]; exact hl, q, hQ _ fun R _ _ => rfl⟩))
    · cases e
  · rename_i kvs k
    obtain ⟨p, vs, rfl, h1, h2⟩ := ha
    cases e1 : keyOf b with
    | none => simp [e1] at e
    | some k =>
      simp [e1] at e
      cases keyOf_is e1 hb
      obtain ⟨w, g1, g2⟩ := h2.some e
      refine .inr ⟨p, w, rfl, by rw [← g1]; exact DGet.k h1, hQ w fun R eR ⟨p', vs', ep, k1, k2⟩ => ?_⟩
      cases ep
      have q := (eR _ _ k1).symm.trans h1
      cases q
      obtain ⟨w', e1', e2'⟩ := k2.some e
      rw [g1] at e1'
      cases e1'
      exact e2'
  · cases e
theorem pu_ix (hu : X.A.units + 1 < cLine) (ha : PuE cm X a fa) (hb : PuE cm X b fb) (hs : PlainIx b := by intro _ _; rfl) : PuE cm X (.Subscript a b pos) (eIx ixD fa fb) := by
  obtain ⟨ta, pa, qa⟩ := ha
  obtain ⟨tb, pb, qb⟩ := hb
  refine ⟨_, pe_ix (ix_seq.or (ix_dict hu)) pa pb hs, fun x B F ρ σ H d m Q ok hf hQ => ?_⟩
  obtain ⟨da, m1, db, m2, ea, eb, ed, rfl⟩ := eIx_some hf
  refine two (R := fun v u H2 => rIxA X.K v u H2 Q) qa qb ok ea eb fun v u B' H' g ok' hv hu => ?_
  exact ok_ix (Γ := gx X cm) H' da db d v u Q ed (hv.is ok') (hu.is ok') fun w pw => hQ w B' H' g ok' (hv.part ok' pw)

/-! ### fields of an instance -/
theorem IsF.some {Γ : Ga} {H : Hp} : ∀ {ds : List (Str × D)} {vs : List (Str × V)} {k : Str} {d : D}, IsF Γ H ds vs → getF ds k = some d → ∃ v, vs.lookup k = some v ∧ Is Γ H d v
  | [], _, _, _, _, e => by simp [getF] at e
  | (k0, d0) :: r, _, k, d, ⟨v, s, e, h1, h2⟩, g => by
    subst e
    rw [getF] at g
    by_cases q : k0 = k
    · rw [if_pos q] at g
      cases g
      exact ⟨v, by rw [q]; exact lookup_pos, h1⟩
    · rw [if_neg q] at g
      obtain ⟨w, e1, e2⟩ := IsF.some h2 g
      exact ⟨w, (lookup_neg q).trans e1, e2⟩
theorem IsF.none {Γ : Ga} {H : Hp} : ∀ {ds : List (Str × D)} {vs : List (Str × V)} {k : Str}, IsF Γ H ds vs → getF ds k = none → vs.lookup k = none
  | [], _, _, h, _ => by rw [show _ = [] from h]; rfl
  | (k0, d0) :: r, _, k, ⟨v, s, e, h1, h2⟩, g => by
    subst e
    rw [getF] at g
    by_cases q : k0 = k
    · rw [if_pos q] at g; cases g
    · rw [if_neg q] at g
      exact (lookup_neg q).trans (IsF.none h2 g)
def fldD (n : Nat) (f : Str) : D → Option D
  | .ins c fs => if c = n then getF fs f else none
  | _ => none
def eFld (n : Nat) (f : Str) (g : EF) : EF := fun ρ => (g ρ).bind fun a => (fldD n f a.1).bind fun c => some (c, effm a.2 c)
theorem eFld_some {n : Nat} {f : Str} {g : EF} {ρ : Ev} {d : D} {m : Md} (h : eFld n f g ρ = some (d, m)) : ∃ fs m1, g ρ = some (.ins n fs, m1) ∧ getF fs f = some d ∧ m = effm m1 d := by
  unfold eFld at h
  cases ea : g ρ with
  | none => rw [ea] at h; cases h
  | some a =>
    rw [ea] at h
    obtain ⟨a, ma⟩ := a
    cases a with
    | ins c fs =>
      simp only [Option.bind_some, fldD] at h
      by_cases q : c = n
      · rw [if_pos q] at h
        subst q
        cases ec : getF fs f with
        | none => rw [ec] at h; cases h
        | some e =>
          rw [ec] at h
          simp at h
          obtain ⟨rfl, rfl⟩ := h
          exact ⟨fs, ma, rfl, ec, rfl⟩
      · rw [if_neg q] at h; cases h
    | _ => simp [fldD] at h
theorem pu_fld (n : Nat) {f : Str} (hc : Cls X.K (cm n)) (hn : NoAttr X.K (cm n) f) (ha : PuE cm X a fa) (hb : attributeBase a f X.env (eval a X.env) = eval a X.env := by rfl) : PuE cm X (.Attribute a f pos) (eFld n f fa) := by
  obtain ⟨ta, pa, qa⟩ := ha
  refine ⟨_, pe_fld pa hb, fun x B F ρ σ H d m Q ok hf hQ => ?_⟩
  obtain ⟨fs, m1, ea, ed, rfl⟩ := eFld_some hf
  refine qa x B F ρ σ H _ m1 _ ok ea fun v B' H' g ok' hv => ?_
  obtain ⟨p, dx, vs, rfl, h1, h2⟩ := hv.is ok'
  obtain ⟨w, e1, e2⟩ := h2.some ed
  refine ⟨p, cm n, dx, vs, w, rfl, h1, hc, hn, e1, hQ w B' H' g ok' (hv.part ok' fun R eR ⟨p', dx', vs', ep, k1, k2⟩ => ?_)⟩
  cases ep
  have q := (eR _ _ k1).symm.trans h1
  cases q
  obtain ⟨w', e1', e2'⟩ := k2.some ed
  rw [e1] at e1'
  cases e1'
  exact e2'

/-! ### truth -/
def blD : D → Option Bool
  | .bl b => some b
  | _ => none
def tE (f : EF) : Ev → Option Bool := fun ρ => (f ρ).bind fun a => blD a.1
theorem tE_some {f : EF} {ρ : Ev} {k : Bool} (h : tE f ρ = some k) : ∃ m, f ρ = some (.bl k, m) := by
  unfold tE at h
  cases ea : f ρ with
  | none => rw [ea] at h; cases h
  | some a =>
    rw [ea] at h
    obtain ⟨a, m⟩ := a
    cases a <;> simp [blD] at h
    subst h
    exact ⟨m, rfl⟩
theorem put_val (ha : PuE cm X a fa) (he : ∀ whole, isTrue a X.env whole = (do let v ← whole; standAt a.pos; holding [v] (truthy v)) := by intro _; rfl) : PuT cm X a (tE fa) := by
  obtain ⟨ta, pa, qa⟩ := ha
  refine ⟨_, pt_val pa he, fun x B F ρ σ H k Q ok hf hQ => ?_⟩
  obtain ⟨m, e⟩ := tE_some hf
  refine qa x B F ρ σ H _ m _ ok e fun v B' H' g ok' hv => ?_
  cases hv.is ok'
  exact ⟨k, rfl, hQ B' H' g ok'⟩
/-- a comparison as a test -/
theorem put_cmp {op : CmpOp} {r : R2} {o : D → D → Option D} (hr : OpR X (compareOp op) r) (ho : OkOp (gx X cm) r o) (ha : PuE cm X a fa) (hb : PuE cm X b fb) (hm : behindInMarks op b = false) : PuT cm X (.Compare a [op] [b] pos) (tE (e2 o fa fb)) := by
  obtain ⟨ta, pa, qa⟩ := ha
  obtain ⟨tb, pb, qb⟩ := hb
  refine ⟨_, pt_cmpR hr pa pb hm, fun x B F ρ σ H k Q ok hf hQ => ?_⟩
  obtain ⟨m, e⟩ := tE_some hf
  obtain ⟨da, m1, db, m2, ea, eb, ed, rfl⟩ := e2_some e
  refine two (R := fun v u H2 => r v u H2 fun x H' => ∃ k, x = .bl k ∧ Q k H') qa qb ok ea eb fun v u B' H' g ok' hv hu => ?_
  refine ho H' da db _ v u _ ed (hv.is ok') (hu.is ok') fun w H2 bn => ?_
  obtain ⟨B2, g2, ok2, hw⟩ := ok'.born' bn
  cases hw
  exact ⟨k, rfl, hQ B2 H2 (g.trans g2) ok2⟩
theorem put_lt (ha : PuE cm X a fa) (hb : PuE cm X b fb) : PuT cm X (.Compare a [.Lt] [b] pos) (tE (e2 ltD fa fb)) := put_cmp op_lt (ok_cmp _) ha hb (nomark _)
theorem put_le (ha : PuE cm X a fa) (hb : PuE cm X b fb) : PuT cm X (.Compare a [.LtE] [b] pos) (tE (e2 leD fa fb)) := put_cmp op_le (ok_cmp _) ha hb (nomark _)
theorem put_gt (ha : PuE cm X a fa) (hb : PuE cm X b fb) : PuT cm X (.Compare a [.Gt] [b] pos) (tE (e2 gtD fa fb)) := put_cmp op_gt (ok_cmp _) ha hb (nomark _)
theorem put_ge (ha : PuE cm X a fa) (hb : PuE cm X b fb) : PuT cm X (.Compare a [.GtE] [b] pos) (tE (e2 geD fa fb)) := put_cmp op_ge (ok_cmp _) ha hb (nomark _)
theorem put_eq (hu : X.A.units + 64 < cLine) (ha : PuE cm X a fa) (hb : PuE cm X b fb) : PuT cm X (.Compare a [.Eq] [b] pos) (tE (e2 eqDD fa fb)) := put_cmp (op_eqD hu) ok_eq ha hb (nomark _)
theorem put_ne (hu : X.A.units + 64 < cLine) (ha : PuE cm X a fa) (hb : PuE cm X b fb) : PuT cm X (.Compare a [.NotEq] [b] pos) (tE (e2 neDD fa fb)) := put_cmp (op_neD hu) ok_ne ha hb (nomark _)
theorem put_in (hu : X.A.units + 65 < cLine) (ha : PuE cm X a fa) (hb : PuE cm X b fb) (hm : behindInMarks .In b = false := by rfl) : PuT cm X (.Compare a [.In] [b] pos) (tE (e2 inD fa fb)) :=
  put_cmp ((op_inD hu).or (op_in_seq.or ((op_din (by omega)).or op_in_sign))) ok_in ha hb hm
theorem put_nin (hu : X.A.units + 65 < cLine) (ha : PuE cm X a fa) (hb : PuE cm X b fb) (hm : behindInMarks .NotIn b = false := by rfl) : PuT cm X (.Compare a [.NotIn] [b] pos) (tE (e2 ninD fa fb)) :=
  put_cmp ((op_notInD hu).or (op_notIn_seq.or ((op_dnotin (by omega)).or op_notIn_sign))) ok_nin ha hb hm
theorem put_isN {j pos'} (ha : PuE cm X a fa) : PuT cm X (.Compare a [.Is] [.Constant .none j pos'] pos) (tE (e1 isND fa)) := by
  obtain ⟨ta, pa, qa⟩ := ha
  refine ⟨_, pt_cmp (pc_isN pa) rfl, fun x B F ρ σ H k Q ok hf hQ => ?_⟩
  obtain ⟨m, e⟩ := tE_some hf
  obtain ⟨da, m1, ea, ed, rfl⟩ := e1_some e
  cases ed
  exact qa x B F ρ σ H da m1 _ ok ea fun v B' H' g ok' hv => ⟨_, rfl, by rw [isN_of (hv.is ok')]; exact hQ B' H' g ok'⟩
theorem put_notN {j pos'} (ha : PuE cm X a fa) : PuT cm X (.Compare a [.IsNot] [.Constant .none j pos'] pos) (tE (e1 notND fa)) := by
  obtain ⟨ta, pa, qa⟩ := ha
  refine ⟨_, pt_cmp (pc_notN pa) rfl, fun x B F ρ σ H k Q ok hf hQ => ?_⟩
  obtain ⟨m, e⟩ := tE_some hf
  obtain ⟨da, m1, ea, ed, rfl⟩ := e1_some e
  cases ed
  exact qa x B F ρ σ H da m1 _ ok ea fun v B' H' g ok' hv => ⟨_, rfl, by rw [isN_of (hv.is ok')]; exact hQ B' H' g ok'⟩
structure PuW (cm : Nat → Addr) (X : Cx) (e : Expr) (f : Ev → Option Bool) : Prop where
  ex : ∃ t, PW X e t ∧ ∀ (x : Fx) (B : Hp) (F : Nat → List Addr) (ρ : Ev) (σ : St) (H : Hp) (b : Bool) (Q : Bool → Hp → Prop), Ok (gx X cm) x B F ρ σ H → f ρ = some b →
    (∀ B' H', Gr B H B' H' → Ok (gx X cm) x B' F ρ σ H' → Q b H') → t σ H Q
theorem PuW.pt {f : Ev → Option Bool} (h : PuW cm X a f) : PuT cm X a f := by
  obtain ⟨t, p, q⟩ := h.ex
  exact ⟨t, p.pt, q⟩
variable {ga gb : Ev → Option Bool} {rest : List Expr}
def tAndD (f g : Ev → Option Bool) : Ev → Option Bool := fun ρ => (f ρ).bind fun k => if k = true then g ρ else some false
def tOrD (f g : Ev → Option Bool) : Ev → Option Bool := fun ρ => (f ρ).bind fun k => if k = true then some true else g ρ
def tNotD (f : Ev → Option Bool) : Ev → Option Bool := fun ρ => (f ρ).map not
theorem putw_one_and (h : PuT cm X a ga) : PuW cm X (.BoolOp .And [a] pos) ga := by
  obtain ⟨t, p, q⟩ := h
  exact ⟨t, pw_and1 p, q⟩
theorem putw_one_or (h : PuT cm X a ga) : PuW cm X (.BoolOp .Or [a] pos) ga := by
  obtain ⟨t, p, q⟩ := h
  exact ⟨t, pw_or1 p, q⟩
theorem putw_and (h : PuT cm X a ga) (k : PuW cm X (.BoolOp .And (b :: rest) pos) gb) : PuW cm X (.BoolOp .And (a :: b :: rest) pos) (tAndD ga gb) := by
  obtain ⟨t, p, q⟩ := h
  obtain ⟨t2, p2, q2⟩ := k.ex
  refine ⟨_, pw_and p p2, fun x B F ρ σ H k Q ok hf hQ => ?_⟩
  unfold tAndD at hf
  cases e : ga ρ with
  | none => rw [e] at hf; cases hf
  | some c =>
    rw [e] at hf
    refine q x B F ρ σ H c _ ok e fun B' H' g ok' => ?_
    cases c with
    | true => exact iteT (q2 x B' F ρ σ H' k _ ok' (by simpa using hf) fun B2 H2 g2 ok2 => hQ B2 H2 (g.trans g2) ok2)
    | false => simp at hf; subst hf; exact iteF (hQ B' H' g ok')
theorem putw_or (h : PuT cm X a ga) (k : PuW cm X (.BoolOp .Or (b :: rest) pos) gb) : PuW cm X (.BoolOp .Or (a :: b :: rest) pos) (tOrD ga gb) := by
  obtain ⟨t, p, q⟩ := h
  obtain ⟨t2, p2, q2⟩ := k.ex
  refine ⟨_, pw_or p p2, fun x B F ρ σ H k Q ok hf hQ => ?_⟩
  unfold tOrD at hf
  cases e : ga ρ with
  | none => rw [e] at hf; cases hf
  | some c =>
    rw [e] at hf
    refine q x B F ρ σ H c _ ok e fun B' H' g ok' => ?_
    cases c with
    | false => exact iteF (q2 x B' F ρ σ H' k _ ok' (by simpa using hf) fun B2 H2 g2 ok2 => hQ B2 H2 (g.trans g2) ok2)
    | true => simp at hf; subst hf; exact iteT (hQ B' H' g ok')
theorem put_not (h : PuT cm X a ga) : PuT cm X (.UnaryOp .Not a pos) (tNotD ga) := by
  obtain ⟨t, p, q⟩ := h
  refine ⟨_, pt_not p, fun x B F ρ σ H k Q ok hf hQ => ?_⟩
  unfold tNotD at hf
  cases e : ga ρ with
  | none => rw [e] at hf; cases hf
  | some c =>
    rw [e] at hf
    cases hf
    exact q x B F ρ σ H c _ ok e fun B' H' g ok' => hQ B' H' g ok'
/-- values True and False -/
def eAnd (f g : EF) : EF := fun ρ => (f ρ).bind fun a => (blD a.1).bind fun k => if k = true then g ρ else some (.bl false, .new)
def eOr (f g : EF) : EF := fun ρ => (f ρ).bind fun a => (blD a.1).bind fun k => if k = true then some (.bl true, .new) else g ρ
def notD : D → Option D
  | .bl b => some (.bl !b)
  | _ => none
theorem pu_one {op} (h : PuE cm X a fa) : PuE cm X (.BoolOp op [a] pos) fa := by
  obtain ⟨t, p, q⟩ := h
  exact ⟨t, pe_one p, q⟩
theorem pu_and (h : PuE cm X a fa) (k : PuE cm X (.BoolOp .And (b :: rest) pos) fb) : PuE cm X (.BoolOp .And (a :: b :: rest) pos) (eAnd fa fb) := by
  obtain ⟨t, p, q⟩ := h
  obtain ⟨t2, p2, q2⟩ := k
  refine ⟨_, pe_and p p2, fun x B F ρ σ H d m Q ok hf hQ => ?_⟩
  unfold eAnd at hf
  cases e : fa ρ with
  | none => rw [e] at hf; cases hf
  | some c =>
    rw [e] at hf
    obtain ⟨c, mc⟩ := c
    cases c <;> simp [blD] at hf
    rename_i c
    refine q x B F ρ σ H _ mc _ ok e fun v B' H' g ok' hv => ?_
    cases hv.is ok'
    refine ⟨c, rfl, ?_⟩
    cases c with
    | true => exact iteT (q2 x B' F ρ σ H' d m _ ok' (by simpa using hf) fun v B2 H2 g2 ok2 hv => hQ v B2 H2 (g.trans g2) ok2 hv)
    | false => simp at hf; obtain ⟨rfl, rfl⟩ := hf; exact iteF (hQ _ B' H' g ok' rfl)
theorem pu_or (h : PuE cm X a fa) (k : PuE cm X (.BoolOp .Or (b :: rest) pos) fb) : PuE cm X (.BoolOp .Or (a :: b :: rest) pos) (eOr fa fb) := by
  obtain ⟨t, p, q⟩ := h
  obtain ⟨t2, p2, q2⟩ := k
  refine ⟨_, pe_or p p2, fun x B F ρ σ H d m Q ok hf hQ => ?_⟩
  unfold eOr at hf
  cases e : fa ρ with
  | none => rw [e] at hf; cases hf
  | some c =>
    rw [e] at hf
    obtain ⟨c, mc⟩ := c
    cases c <;> simp [blD] at hf
    rename_i c
    refine q x B F ρ σ H _ mc _ ok e fun v B' H' g ok' hv => ?_
    cases hv.is ok'
    refine ⟨c, rfl, ?_⟩
    cases c with
    | false => exact iteF (q2 x B' F ρ σ H' d m _ ok' (by simpa using hf) fun v B2 H2 g2 ok2 hv => hQ v B2 H2 (g.trans g2) ok2 hv)
    | true => simp at hf; obtain ⟨rfl, rfl⟩ := hf; exact iteT (hQ _ B' H' g ok' rfl)
theorem pu_not (ha : PuE cm X a fa) : PuE cm X (.UnaryOp .Not a pos) (e1 notD fa) :=
  pu_op1 (r := fun v H Q => ∃ c, v = .bl c ∧ Q (.bl (!c)) H) (fun _ pa => pe_not pa) (fun H d c v Q e h hQ => by
    unfold notD at e
    split at e
    · cases e; cases h; exact ⟨_, rfl, hQ _ _ (.atom rfl)⟩
    · cases e) ha
def eIf (t : Ev → Option Bool) (f g : EF) : EF := fun ρ => (t ρ).bind fun k => if k = true then f ρ else g ρ
theorem pu_if (ht : PuT cm X c gb) (ha : PuE cm X a fa) (hb : PuE cm X b fb) : PuE cm X (.IfExp c a b pos) (eIf gb fa fb) := by
  obtain ⟨t, p, q⟩ := ht
  obtain ⟨ta, pa, qa⟩ := ha
  obtain ⟨tb, pb, qb⟩ := hb
  refine ⟨_, pe_ifExp p pa pb, fun x B F ρ σ H d m Q ok hf hQ => ?_⟩
  unfold eIf at hf
  cases e : gb ρ with
  | none => rw [e] at hf; cases hf
  | some k =>
    rw [e] at hf
    refine q x B F ρ σ H k _ ok e fun B' H' g ok' => ?_
    cases k with
    | true => exact iteT (qa x B' F ρ σ H' d m _ ok' (by simpa using hf) fun v B2 H2 g2 ok2 hv => hQ v B2 H2 (g.trans g2) ok2 hv)
    | false => exact iteF (qb x B' F ρ σ H' d m _ ok' (by simpa using hf) fun v B2 H2 g2 ok2 hv => hQ v B2 H2 (g.trans g2) ok2 hv)
end
end DL

/-! DL6: arguments, displays, slices, calls of defs and of built-ins. -/
namespace DL
open PySem L2

section
variable {cm : Nat → Addr} {X : Cx} {a b c e : Expr} {es : List Expr} {fa fb fc : EF} {pos : Pos}
abbrev AF := Ev → Option (List (D × Md))
/-! ### arguments -/
def aNil : AF := fun _ => some []
def aCons (f : EF) (g : AF) : AF := fun ρ => (f ρ).bind fun a => (g ρ).bind fun r => some (a :: r)
theorem aCons_some {f : EF} {g : AF} {ρ : Ev} {as : List (D × Md)} (h : aCons f g ρ = some as) : ∃ a r, f ρ = some a ∧ g ρ = some r ∧ as = a :: r := by
  unfold aCons at h
  cases ea : f ρ with
  | none => rw [ea] at h; cases h
  | some a =>
    cases eb : g ρ with
    | none => rw [ea, eb] at h; cases h
    | some r =>
      rw [ea, eb] at h
      cases h
      exact ⟨a, r, rfl, rfl, rfl⟩
theorem pua_nil : PuA cm X [] aNil :=
  ⟨_, pa_nil, fun x B F ρ σ H ds Q ok hf hQ => by cases hf; exact hQ [] B H (Gr.refl B H) ok .nil⟩
theorem pua_cons {f : EF} {g : AF} (ha : PuE cm X e f) (hr : PuA cm X es g) (hs : starEach (e :: es) X.env = (false, eval e X.env) :: starEach es X.env := by rfl) : PuA cm X (e :: es) (aCons f g) := by
  obtain ⟨ta, pa, qa⟩ := ha
  obtain ⟨tr, pr, qr⟩ := hr
  refine ⟨_, pa_cons pa pr hs, fun x B F ρ σ H ds Q ok hf hQ => ?_⟩
  obtain ⟨⟨d, m⟩, r, e1, e2, rfl⟩ := aCons_some hf
  refine qa x B F ρ σ H d m _ ok e1 fun v B1 H1 g1 ok1 hv => ?_
  refine qr x B1 F ρ σ H1 r _ ok1 e2 fun vs B2 H2 g2 ok2 hvs => ?_
  exact hQ (v :: vs) B2 H2 (g1.trans g2) ok2 (.cons (hv.mono g2) hvs)
theorem paired_iss {Γ : Ga} {x : Fx} {B : Hp} {F : Nat → List Addr} {ρ : Ev} {σ : St} {H : Hp} (ok : Ok Γ x B F ρ σ H) : ∀ {ds : List (D × Md)} {vs : List V}, Paired (fun (p : D × Md) v => Val Γ x p.2 B H p.1 v) ds vs → Iss Γ H (ds.map (·.1)) vs
  | _, _, .nil => rfl
  | _, _, .cons h t => ⟨_, _, rfl, h.is ok, paired_iss ok t⟩
def isNew : Md → Bool
  | .new => true
  | _ => false
def okNew : List (D × Md) → Bool
  | [] => true
  | p :: r => (flat p.1 || isNew p.2) && okNew r
theorem Val.new {Γ : Ga} {x : Fx} {B : Hp} {F : Nat → List Addr} {ρ : Ev} {σ : St} {H : Hp} (ok : Ok Γ x B F ρ σ H) {d : D} {m : Md} {v : V} (f : (flat d || isNew m) = true) (h : Val Γ x m B H d v) : Is Γ B d v := by
  by_cases q : flat d = true
  · exact (Is.ofFlat q (h.is ok)).mono fun a o e => by
      obtain ⟨e1, xs, rfl⟩ := tupOf_some e
      exact ok.tup _ _ e1
  · rw [Bool.not_eq_true] at q
    rw [q] at f
    cases m with
    | new => exact h
    | _ => simp [isNew] at f
theorem paired_issNew {Γ : Ga} {x : Fx} {B : Hp} {F : Nat → List Addr} {ρ : Ev} {σ : St} {H : Hp} (ok : Ok Γ x B F ρ σ H) : ∀ {ds : List (D × Md)} {vs : List V}, okNew ds = true → Paired (fun (p : D × Md) v => Val Γ x p.2 B H p.1 v) ds vs → Iss Γ B (ds.map (·.1)) vs
  | _, _, _, .nil => rfl
  | (d, m) :: r, _, f, .cons h t => by
    rw [okNew, Bool.and_eq_true] at f
    exact ⟨_, _, rfl, Val.new ok f.1 h, paired_issNew ok f.2 t⟩
theorem upd_upd_same {H B : Hp} (s : Same B H) {p : Addr} {o : HO} : Same (upd B p o) (upd H p o) := fun b u e => by
  by_cases q : b = p
  · subst q; rw [upd_same] at e ⊢; exact e
  · rw [upd_ne q] at e ⊢; exact s _ _ e
theorem same_upd {H : Hp} {p : Addr} {o : HO} (hp : H p = none) : Same H (upd H p o) := fun b u e => by
  rw [upd_ne (fun q => by rw [q, hp] at e; cases e)]
  exact e
/-- a new thing is laid, and known -/
theorem Ok.laid {Γ : Ga} {x : Fx} {B : Hp} {F : Nat → List Addr} {ρ : Ev} {σ : St} {H : Hp} (ok : Ok Γ x B F ρ σ H) {p : Addr} {o : HO} (hp : H p = none) : Gr B H (upd B p o) (upd H p o) ∧ Ok Γ x (upd B p o) F ρ σ (upd H p o) := by
  have hb : B p = none := Same.free ok.bh hp
  have g : Gr B H (upd B p o) (upd H p o) := ⟨same_upd hp, same_upd hb, fun a u e => by
    by_cases q : a = p
    · subst q; exact .inr (.inr hp)
    · rw [upd_ne q] at e; exact .inr (.inl e)⟩
  refine ⟨g, ok.grow g.hh g.bb (upd_upd_same ok.bh) (fun a xs e => ?_) g.new⟩
  by_cases q : a = p
  · subst q; rw [upd_same] at e ⊢; exact e
  · rw [upd_ne q] at e ⊢; exact ok.tup _ _ e
def eDisp (mk : List D → D) (f : AF) : EF := fun ρ => (f ρ).bind fun as => if okNew as = true ∧ as.length ≤ 16777216 then some (mk (as.map (·.1)), .new) else none
theorem paired_len {α β : Type} {G : α → β → Prop} : ∀ {l : List α} {m : List β}, Paired G l m → l.length = m.length
  | _, _, .nil => rfl
  | _, _, .cons _ t => by rw [List.length_cons, List.length_cons, paired_len t]
theorem pu_disp {mk : List D → D} {o : List V → HO} {f : AF} (ht : ∀ t, PA X es t → PE X e (fun σ H Q => t σ H fun xs H1 => xs.length ≤ sizeLine ∧ ∀ p, H1 p = none → Q (.ref p) (upd H1 p (o xs))))
    (hi : ∀ (B : Hp) p ds vs, Iss (gx X cm) (upd B p (o vs)) ds vs → Is (gx X cm) (upd B p (o vs)) (mk ds) (.ref p)) (ha : PuA cm X es f) : PuE cm X e (eDisp mk f) := by
  obtain ⟨t, p, q⟩ := ha
  refine ⟨_, ht t p, fun x B F ρ σ H d m Q ok hf hQ => ?_⟩
  unfold eDisp at hf
  cases ea : f ρ with
  | none => rw [ea] at hf; cases hf
  | some as =>
    rw [ea] at hf
    simp only [Option.bind_some] at hf
    split at hf
    · rename_i h
      cases hf
      refine q x B F ρ σ H as _ ok ea fun vs B' H' g ok' hvs => ?_
      refine ⟨by rw [line_eq, ← paired_len hvs]; exact h.2, fun l hl => ?_⟩
      obtain ⟨g2, ok2⟩ := ok'.laid (o := o vs) hl
      exact hQ _ _ _ (g.trans g2) ok2 (hi B' l _ vs ((paired_issNew ok' h.1 hvs).mono g2.bb))
    · cases hf
theorem pu_tup {k} {f : AF} (ha : PuA cm X es f) : PuE cm X (.Tuple es k pos) (eDisp .tup f) :=
  pu_disp (o := .tup) (fun t p => pe_tup p) (fun B p ds vs h => ⟨p, vs, rfl, upd_same, h⟩) ha
theorem pu_lst {f : AF} (ha : PuA cm X es f) : PuE cm X (.List es pos) (eDisp .lst f) :=
  pu_disp (o := .lst) (fun t p => pe_lst p) (fun B p ds vs h => ⟨p, vs, rfl, upd_same, h⟩) ha

/-! ### slices -/
abbrev OF := Ev → Option (Option Int)
def PuO (cm : Nat → Addr) (X : Cx) (e : Option Expr) (f : OF) : Prop :=
  ∃ t, PO X e t ∧ ∀ (x : Fx) (B : Hp) (F : Nat → List Addr) (ρ : Ev) (σ : St) (H : Hp) (o : Option Int) (Q : Option Int → Hp → Prop), Ok (gx X cm) x B F ρ σ H → f ρ = some o →
    (∀ B' H', Gr B H B' H' → Ok (gx X cm) x B' F ρ σ H' → Q o H') → t σ H Q
def oNone : OF := fun _ => some none
def intD : D → Option Int
  | .int i => some i
  | _ => none
def oSome (f : EF) : OF := fun ρ => (f ρ).bind fun a => (intD a.1).map some
theorem puo_none : PuO cm X none oNone := ⟨_, po_none, fun x B F ρ σ H o Q ok hf hQ => by cases hf; exact hQ B H (Gr.refl B H) ok⟩
theorem puo_some (h : PuE cm X e fa) : PuO cm X (some e) (oSome fa) := by
  obtain ⟨t, p, q⟩ := h
  refine ⟨_, po_some p, fun x B F ρ σ H o Q ok hf hQ => ?_⟩
  unfold oSome at hf
  cases ea : fa ρ with
  | none => rw [ea] at hf; cases hf
  | some a =>
    rw [ea] at hf
    obtain ⟨a, m⟩ := a
    cases a <;> simp [intD] at hf
    subst hf
    refine q x B F ρ σ H _ m _ ok ea fun v B' H' g ok' hv => ?_
    cases hv.is ok'
    exact ⟨_, rfl, hQ B' H' g ok'⟩
/-- xs[lo:hi] -/
def cutL {α : Type} (xs : List α) (lo hi : Option Int) : List α := (xs.drop (HT.sIx xs.length 0 lo)).take (HT.sIx xs.length xs.length hi - HT.sIx xs.length 0 lo)
def slD (a : D) (lo hi : Option Int) : Option D := match a with
  | .lst ds => if flats ds = true then some (.lst (cutL ds lo hi)) else none
  | .tup ds => if flats ds = true then some (.tup (cutL ds lo hi)) else none
  | .scr ns => some (.lst ((cutL ns lo hi).map .int))
  | .str z => if z.length ≤ 16777216 then some (.str (cutS z lo hi)) else none
  | _ => none
theorem Iss.cut {Γ : Ga} {H : Hp} {ds : List D} {vs : List V} (h : Iss Γ H ds vs) (lo hi : Option Int) : Iss Γ H (cutL ds lo hi) (cutV vs lo hi) := by
  unfold cutL cutV
  rw [h.length]
  exact (h.drop _).take _
theorem flats_cut {ds : List D} (h : flats ds = true) (lo hi : Option Int) : flats (cutL ds lo hi) = true := flats_take _ (flats_drop _ h)
theorem cutV_map (ns : List Int) (lo hi : Option Int) : cutV (ns.map V.int) lo hi = (cutL ns lo hi).map V.int := by
  unfold cutL cutV
  rw [List.length_map, List.map_take, List.map_drop]
def eSl (f : EF) (l h : OF) : EF := fun ρ => (f ρ).bind fun a => (l ρ).bind fun lo => (h ρ).bind fun hi => (slD a.1 lo hi).bind fun c => some (c, .new)
abbrev rSlAll (K : PySem.W.Frag) : V → Option Int → Option Int → Hp → VK → Prop := fun x lo hi H Q => rSlL K x lo hi H Q ∨ (rSlS x lo hi H Q ∨ rSlA K x lo hi H Q)
theorem ok_sl {Γ : Ga} (H : Hp) (a c : D) (lo hi : Option Int) (v : V) (Q : VK) (e : slD a lo hi = some c) (ha : Is Γ H a v) (hQ : ∀ w H', Born Γ H H' c w → Q w H') : rSlAll Γ.K v lo hi H Q := by
  unfold slD at e
  split at e
  · split at e
    · rename_i f
      cases e
      obtain ⟨p, vs, rfl, h1, h2⟩ := ha
      exact .inl ⟨p, vs, rfl, SqL.of h1, fun l hl => hQ _ _ (born_lst hl (flats_cut f lo hi) (h2.cut lo hi))⟩
    · cases e
  · split at e
    · rename_i f
      cases e
      obtain ⟨p, vs, rfl, h1, h2⟩ := ha
      refine .inr (.inr ⟨p, vs, rfl, SqT.of h1, fun w => ?_, fun _ l hl => hQ _ _ (born_tup hl (flats_cut f lo hi) (h2.cut lo hi))⟩)
      refine hQ _ _ (Born.flat (flats_cut f lo hi) ⟨p, vs, rfl, h1, ?_⟩)
      have q := h2.cut lo hi
      have e1 : cutV vs lo hi = vs := by unfold cutV; rw [w.1, w.2, List.drop_zero, Nat.sub_zero, List.take_length]
      rw [e1] at q
      exact q
    · cases e
  · cases e
    obtain ⟨p, rfl, h1⟩ := ha
    exact .inl ⟨p, _, rfl, h1, fun l hl => hQ _ _ (by rw [cutV_map]; exact born_lst hl (flats_map_int _) (Iss.scr _))⟩
  · split at e
    · rename_i z h
      cases e
      cases ha
      exact .inr (.inl ⟨z, rfl, by rw [line_eq]; exact h, hQ _ _ (.atom rfl)⟩)
    · cases e
  · cases e
theorem pu_sl {lo hi : Option Expr} {p2 : Pos} {fl fh : OF} (ha : PuE cm X a fa) (hl : PuO cm X lo fl) (hh : PuO cm X hi fh) : PuE cm X (.Subscript a (.Slice lo hi none p2) pos) (eSl fa fl fh) := by
  obtain ⟨t, p, q⟩ := ha
  obtain ⟨tl, pl, ql⟩ := hl
  obtain ⟨th, ph, qh⟩ := hh
  refine ⟨_, pe_slice (sl_list.or (sl_str.or sl_tupA)) p pl ph, fun x B F ρ σ H d m Q ok hf hQ => ?_⟩
  unfold eSl at hf
  cases e1 : fa ρ with
  | none => simp [e1] at hf
  | some a =>
    cases e2 : fl ρ with
    | none => simp [e1, e2] at hf
    | some l =>
      cases e3 : fh ρ with
      | none => simp [e1, e2, e3] at hf
      | some u =>
        cases e4 : slD a.1 l u with
        | none => simp [e1, e2, e3, e4] at hf
        | some c =>
          simp [e1, e2, e3, e4] at hf
          obtain ⟨rfl, rfl⟩ := hf
          refine q x B F ρ σ H _ _ _ ok e1 fun v B1 H1 g1 ok1 hv => ?_
          refine ql x B1 F ρ σ H1 l _ ok1 e2 fun B2 H2 g2 ok2 => ?_
          refine qh x B2 F ρ σ H2 u _ ok2 e3 fun B3 H3 g3 ok3 => ?_
          refine ok_sl (Γ := gx X cm) H3 a.1 c l u v Q e4 (((hv.mono g2).mono g3).is ok3) fun w H4 bn => ?_
          obtain ⟨B4, g4, ok4, hw⟩ := ok3.born' bn
          exact hQ w B4 H4 (g1.trans (g2.trans (g3.trans g4))) ok4 hw
def revD : D → Option D
  | .lst ds => if flats ds = true then some (.lst ds.reverse) else none
  | _ => none
theorem pu_rev {k : Nat} {p1 p2 p3 : Pos} (ha : PuE cm X a fa) : PuE cm X (.Subscript a (.Slice none none (some (.UnaryOp .USub (.Constant (.int 1) k p1) p2)) p3) pos) (e1 revD fa) :=
  pu_op1 (r := fun v H Q => ∃ a xs, v = .ref a ∧ SqL X.K H a xs ∧ ∀ p, H p = none → Q (.ref p) (upd H p (.lst xs.reverse))) (fun _ pa => pe_revL pa) (fun H d c v Q e h hQ => by
    unfold revD at e
    split at e
    · split at e
      · rename_i f
        cases e
        obtain ⟨p, vs, rfl, h1, h2⟩ := h
        exact ⟨p, vs, rfl, SqL.of h1, fun l hl => hQ _ _ (born_lst hl (flats_reverse f) h2.reverse)⟩
      · cases e
    · cases e) ha

/-! ### calls -/
/-- the promise of a def that changes nothing: f of the arguments' data -/
def spP (K : PySem.W.Frag) (cm : Nat → Addr) (f : List D → Option D) : Sp := fun vs H Q _ => ∃ ds d, Iss ⟨K, cm⟩ H ds vs ∧ f ds = some d ∧ ∀ v H', Born ⟨K, cm⟩ H H' d v → Q v H'
/-- a def that may be called by its name -/
def CalP (P : Program) (w : World) (K : PySem.W.Frag) (mg : Str → Option Value) (base : Heap) (cm : Nat → Addr) (k : Nat) (x : Str) (f : List D → Option D) : Prop :=
  ∃ (fa : Addr) (fd : FuncData) (ps : List Str), FnOk P w K mg base CX0 k fa fd ps (spP K cm f) ∧ mg x = some (.ref fa) ∧ PySem.W.keepIn K (.ref fa) = true ∧ Binds K fd ps []
/-- a method of the class number n -/
def MetP (P : Program) (w : World) (K : PySem.W.Frag) (mg : Str → Option Value) (base : Heap) (cm : Nat → Addr) (k : Nat) (n : Nat) (m : Str) (f : List D → Option D) : Prop :=
  ∃ (fa : Addr) (fd : FuncData) (ps : List Str), FnOk P w K mg base CX0 k fa fd ps (spP K cm f) ∧ Cls K (cm n) ∧ Meth K (cm n) m fa ∧ Binds K fd ps []
def eCall (f : List D → Option D) (g : AF) : EF := fun ρ => (g ρ).bind fun as => (f (as.map (·.1))).bind fun d => some (d, .new)
theorem eCall_some {f : List D → Option D} {g : AF} {ρ : Ev} {d : D} {m : Md} (h : eCall f g ρ = some (d, m)) : ∃ as, g ρ = some as ∧ f (as.map (·.1)) = some d ∧ m = .new := by
  unfold eCall at h
  cases ea : g ρ with
  | none => rw [ea] at h; cases h
  | some as =>
    rw [ea] at h
    simp only [Option.bind_some] at h
    cases ed : f (as.map (·.1)) with
    | none => rw [ed] at h; cases h
    | some c =>
      rw [ed] at h
      simp at h
      exact ⟨as, rfl, by rw [ed, h.1], h.2.symm⟩
theorem pu_call {k j : Nat} {x : Str} {f : List D → Option D} {g : AF} {p : Pos} (C : CalP X.prog X.w X.K X.mg X.base cm k x f) (hr : Room j X.A) (hk : k ≤ j) (ha : PuA cm X (e :: es) g) (hg : Gl X x := by rfl)
    (hdb : (x == ("__debug__" : Str)) = false := by decide) (he : starEach (e :: es) X.env = (false, eval e X.env) :: starEach es X.env := by rfl) (hpl : (backTo pos (starEach es X.env)).any (·.1) = false := by rfl) :
    PuE cm X (.Call (.Name x p) (e :: es) [] pos) (eCall f g) := by
  obtain ⟨fa, fd, ps, F, hm, kp, hb⟩ := C
  obtain ⟨t, pa, qa⟩ := ha
  refine ⟨_, pe_call F (hr.mono hk) hg hm kp hb .nil pass0 pa hdb he hpl, fun x B F ρ σ H d m Q ok hf hQ => ?_⟩
  obtain ⟨as, e1, e2, rfl⟩ := eCall_some hf
  refine qa x B F ρ σ H as _ ok e1 fun vs B' H' g ok' hvs => ?_
  rw [List.append_nil]
  refine ⟨_, d, paired_iss ok' hvs, e2, fun v H2 bn => ?_⟩
  obtain ⟨B2, g2, ok2, hw⟩ := ok'.born' bn
  exact hQ v B2 H2 (g.trans g2) ok2 hw
/-- o.m(..), o an instance of the class number n; f of the instance and the arguments -/
def eMeth (n : Nat) (m : Str) (f : List D → Option D) (fo : EF) (g : AF) : EF := fun ρ => (fo ρ).bind fun o => match o.1 with
  | .ins c fs => if c = n ∧ getF fs m = none then (g ρ).bind fun as => (f (.ins c fs :: as.map (·.1))).bind fun d => some (d, .new) else none
  | _ => none
theorem eMeth_some {n : Nat} {m : Str} {f : List D → Option D} {fo : EF} {g : AF} {ρ : Ev} {d : D} {md : Md} (h : eMeth n m f fo g ρ = some (d, md)) :
    ∃ fs m1 as, fo ρ = some (.ins n fs, m1) ∧ getF fs m = none ∧ g ρ = some as ∧ f (.ins n fs :: as.map (·.1)) = some d ∧ md = .new := by
  unfold eMeth at h
  cases eo : fo ρ with
  | none => rw [eo] at h; cases h
  | some o =>
    rw [eo] at h
    obtain ⟨o, m1⟩ := o
    cases o with
    | ins c fs =>
      simp only [Option.bind_some] at h
      split at h
      · rename_i q
        obtain ⟨rfl, q⟩ := q
        cases ea : g ρ with
        | none => rw [ea] at h; cases h
        | some as =>
          rw [ea] at h
          simp only [Option.bind_some] at h
          cases ed : f (.ins c fs :: as.map (·.1)) with
          | none => rw [ed] at h; cases h
          | some u =>
            rw [ed] at h
            simp at h
            exact ⟨fs, m1, as, rfl, q, rfl, by rw [ed, h.1], h.2.symm⟩
      · cases h
    | _ => simp at h
theorem pu_meth {k j n : Nat} {m : Str} {f : List D → Option D} {fo : EF} {g : AF} {apos : Pos} {o : Expr} (pl : Sem Bool) (C : MetP X.prog X.w X.K X.mg X.base cm k n m f) (hr : Room j X.A) (hk : k ≤ j) (ho : PuE cm X o fo) (ha : PuA cm X (e :: es) g)
    (hst : starEach (e :: es) X.env = (false, eval e X.env) :: starEach es X.env := by rfl) (hpl : (backTo pos (starEach es X.env)).any (·.1) = false := by rfl)
    (ht : eval (.Call (.Attribute o m apos) (e :: es) [] pos) X.env = (do
      let ov ← eval o X.env
      standAt apos.atName
      let (f, first) ← holding [ov] (getMethod ov m pl)
      callWith pos f first (backTo pos (starEach (e :: es) X.env)) (backToKw pos (keywordEach [] X.env))) := by rfl) :
    PuE cm X (.Call (.Attribute o m apos) (e :: es) [] pos) (eMeth n m f fo g) := by
  obtain ⟨fa, fd, ps, F, hc, hm, hb⟩ := C
  obtain ⟨to, po, qo⟩ := ho
  obtain ⟨t, pa, qa⟩ := ha
  refine ⟨_, pe_meth po hc hm F (hr.mono hk) hb .nil pass0 pa hst hpl ht, fun x B F ρ σ H d md Q ok hf hQ => ?_⟩
  obtain ⟨fs, m1, as, e1, e2, e3, e4, rfl⟩ := eMeth_some hf
  refine qo x B F ρ σ H _ m1 _ ok e1 fun v B1 H1 g1 ok1 hv => ?_
  obtain ⟨p, dx, vs, rfl, h1, h2⟩ := hv.is ok1
  refine ⟨p, dx, vs, rfl, h1, h2.none e2, ?_⟩
  refine qa x B1 F ρ σ H1 as _ ok1 e3 fun us B2 H2 g2 ok2 hus => ?_
  rw [List.append_nil]
  refine ⟨.ins n fs :: as.map (·.1), d, ⟨_, _, rfl, (hv.mono g2).is ok2, paired_iss ok2 hus⟩, e4, fun v H3 bn => ?_⟩
  obtain ⟨B3, g3, ok3, hw⟩ := ok2.born' bn
  exact hQ v B3 H3 (g1.trans (g2.trans g3)) ok3 hw

/-- a call by values: o of the arguments' data -/
def OkCall (Γ : Ga) (r : List V → Hp → VK → Prop) (o : List D → Option D) : Prop :=
  ∀ (H : Hp) (ds : List D) (d : D) (vs : List V) (Q : VK), o ds = some d → Iss Γ H ds vs → (∀ w H', Born Γ H H' d w → Q w H') → r vs H Q
theorem pu_cb {r : List V → Hp → VK → Prop} {o : List D → Option D} {g : AF} (ht : ∀ t, PA X es t → PE X e (tCB r t)) (ho : OkCall (gx X cm) r o) (ha : PuA cm X es g) : PuE cm X e (eCall o g) := by
  obtain ⟨t, pa, qa⟩ := ha
  refine ⟨_, ht t pa, fun x B F ρ σ H d m Q ok hf hQ => ?_⟩
  obtain ⟨as, e1, e2, rfl⟩ := eCall_some hf
  refine qa x B F ρ σ H as _ ok e1 fun vs B' H' g ok' hvs => ?_
  refine ho H' _ d vs Q e2 (paired_iss ok' hvs) fun v H2 bn => ?_
  obtain ⟨B2, g2, ok2, hw⟩ := ok'.born' bn
  exact hQ v B2 H2 (g.trans g2) ok2 hw
theorem iss1 {Γ : Ga} {H : Hp} {d : D} {vs : List V} (h : Iss Γ H [d] vs) : ∃ v, vs = [v] ∧ Is Γ H d v := by
  obtain ⟨v, r, e, h1, h2⟩ := h
  rw [show r = [] from h2] at e
  exact ⟨v, e, h1⟩
theorem iss2 {Γ : Ga} {H : Hp} {d d' : D} {vs : List V} (h : Iss Γ H [d, d'] vs) : ∃ v u, vs = [v, u] ∧ Is Γ H d v ∧ Is Γ H d' u := by
  obtain ⟨v, r, e, h1, h2⟩ := h
  obtain ⟨u, e2, h3⟩ := iss1 h2
  exact ⟨v, u, by rw [e, e2], h1, h3⟩
def lenD : List D → Option D
  | [.lst ds] => some (.int (ds.length : Nat))
  | [.tup ds] => some (.int (ds.length : Nat))
  | [.scr ns] => some (.int (ns.length : Nat))
  | [.str z] => if z.length ≤ 16777216 then some (.int (z.length : Nat)) else none
  | _ => none
theorem ok_len {Γ : Ga} : OkCall Γ (fun xs H Q => ∃ x n, xs = [x] ∧ LenV Γ.K x H n ∧ Q (.int (n : Nat)) H) lenD := by
  intro H ds d vs Q e h hQ
  unfold lenD at e
  split at e
  · cases e
    obtain ⟨v, rfl, p, us, rfl, h1, h2⟩ := iss1 h
    exact ⟨_, _, rfl, .inl ⟨us, SqL.of h1, h2.length.symm⟩, hQ _ _ (.atom rfl)⟩
  · cases e
    obtain ⟨v, rfl, p, us, rfl, h1, h2⟩ := iss1 h
    exact ⟨_, _, rfl, .inr ⟨us, SqT.of h1, h2.length.symm⟩, hQ _ _ (.atom rfl)⟩
  · cases e
    obtain ⟨v, rfl, p, rfl, h1⟩ := iss1 h
    exact ⟨_, _, rfl, .inl ⟨_, h1, (List.length_map _).symm⟩, hQ _ _ (.atom rfl)⟩
  · split at e
    · rename_i q
      cases e
      obtain ⟨v, rfl, rfl⟩ := iss1 h
      exact ⟨_, _, rfl, ⟨by rw [line_eq]; exact q, rfl⟩, hQ _ _ (.atom rfl)⟩
    · cases e
  · cases e
theorem pu_len {g : AF} {p : Pos} (hm : X.mg "len" = none) (ha : PuA cm X (e :: es) g) (hg : Gl X "len" := by rfl)
    (he : starEach (e :: es) X.env = (false, eval e X.env) :: starEach es X.env := by rfl) (hpl : (backTo pos (starEach es X.env)).any (·.1) = false := by rfl) : PuE cm X (.Call (.Name "len" p) (e :: es) [] pos) (eCall lenD g) :=
  pu_cb (fun t pa => pe_callB call_len hg hm PySem.boot_len pa (by decide) (by decide) he hpl) ok_len ha
def absD : List D → Option D
  | [.int i] => some (.int (if i < 0 then -i else i))
  | _ => none
theorem pu_abs {g : AF} {p : Pos} (hm : X.mg "abs" = none) (ha : PuA cm X (e :: es) g) (hg : Gl X "abs" := by rfl)
    (he : starEach (e :: es) X.env = (false, eval e X.env) :: starEach es X.env := by rfl) (hpl : (backTo pos (starEach es X.env)).any (·.1) = false := by rfl) : PuE cm X (.Call (.Name "abs" p) (e :: es) [] pos) (eCall absD g) :=
  pu_cb (fun t pa => pe_callB call_abs hg hm (by decide +kernel) pa (by decide) (by decide) he hpl) (fun H ds d vs Q e h hQ => by
    unfold absD at e
    split at e
    · cases e
      obtain ⟨v, rfl, rfl⟩ := iss1 h
      exact ⟨_, rfl, hQ _ _ (.atom rfl)⟩
    · cases e) ha
def maxD : List D → Option D
  | [.int i, .int j] => some (.int (if j > i then j else i))
  | _ => none
theorem pu_max {g : AF} {p : Pos} (hm : X.mg "max" = none) (ha : PuA cm X (e :: es) g) (hc : X.calm = true := by rfl) (hg : Gl X "max" := by rfl)
    (he : starEach (e :: es) X.env = (false, eval e X.env) :: starEach es X.env := by rfl) (hpl : (backTo pos (starEach es X.env)).any (·.1) = false := by rfl) : PuE cm X (.Call (.Name "max" p) (e :: es) [] pos) (eCall maxD g) :=
  pu_cb (fun t pa => pe_callB (call_max2 hc) hg hm (by decide +kernel) pa (by decide) (by decide) he hpl) (fun H ds d vs Q e h hQ => by
    unfold maxD at e
    split at e
    · cases e
      obtain ⟨v, u, rfl, rfl, rfl⟩ := iss2 h
      exact ⟨_, _, rfl, hQ _ _ (.atom rfl)⟩
    · cases e) ha
def intC : List D → Option D
  | [.int i] => some (.int i)
  | [.bl k] => some (.int (if k then 1 else 0))
  | _ => none
theorem pu_intc {g : AF} {p : Pos} (hm : X.mg "int" = none) (ha : PuA cm X (e :: es) g) (hg : Gl X "int" := by rfl)
    (he : starEach (e :: es) X.env = (false, eval e X.env) :: starEach es X.env := by rfl) (hpl : (backTo pos (starEach es X.env)).any (·.1) = false := by rfl) : PuE cm X (.Call (.Name "int" p) (e :: es) [] pos) (eCall intC g) :=
  pu_cb (fun t pa => pe_callTy call_int1 hg hm (by decide +kernel) pa (by decide) (by decide) he hpl) (fun H ds d vs Q e h hQ => by
    unfold intC at e
    split at e
    · cases e
      obtain ⟨v, rfl, rfl⟩ := iss1 h
      exact .inl ⟨_, rfl, hQ _ _ (.atom rfl)⟩
    · cases e
      obtain ⟨v, rfl, rfl⟩ := iss1 h
      exact .inr ⟨_, rfl, hQ _ _ (.atom rfl)⟩
    · cases e) ha
def lstC : List D → Option D
  | [.lst ds] => if flats ds = true then some (.lst ds) else none
  | [.tup ds] => if flats ds = true then some (.lst ds) else none
  | [.scr ns] => some (.lst (ns.map .int))
  | _ => none
theorem pu_lstc {g : AF} {p : Pos} (hm : X.mg "list" = none) (ha : PuA cm X (e :: es) g) (hg : Gl X "list" := by rfl)
    (he : starEach (e :: es) X.env = (false, eval e X.env) :: starEach es X.env := by rfl) (hpl : (backTo pos (starEach es X.env)).any (·.1) = false := by rfl) : PuE cm X (.Call (.Name "list" p) (e :: es) [] pos) (eCall lstC g) :=
  pu_cb (fun t pa => pe_callTy call_list_of hg hm (by decide +kernel) pa (by decide) (by decide) he hpl) (fun H ds d vs Q e h hQ => by
    unfold lstC at e
    split at e
    · split at e
      · rename_i f
        cases e
        obtain ⟨v, rfl, p, us, rfl, h1, h2⟩ := iss1 h
        exact ⟨p, us, rfl, .inl (SqL.of h1), fun l hl => hQ _ _ (born_lst hl f h2)⟩
      · cases e
    · split at e
      · rename_i f
        cases e
        obtain ⟨v, rfl, p, us, rfl, h1, h2⟩ := iss1 h
        exact ⟨p, us, rfl, .inr (SqT.of h1), fun l hl => hQ _ _ (born_lst hl f h2)⟩
      · cases e
    · cases e
      obtain ⟨v, rfl, p, rfl, h1⟩ := iss1 h
      exact ⟨p, _, rfl, .inl h1, fun l hl => hQ _ _ (born_lst hl (flats_map_int _) (Iss.scr _))⟩
    · cases e) ha

/-! ### isinstance -/
inductive Ty5 where
  | int | bool | str | list | tuple
def Ty5.nm : Ty5 → String
  | .int => "int" | .bool => "bool" | .str => "str" | .list => "list" | .tuple => "tuple"
def isTy (t : Ty5) : D → Option D
  | .non => some (.bl false)
  | .bl _ => some (.bl (match t with | .int => true | .bool => true | _ => false))
  | .int _ => some (.bl (match t with | .int => true | _ => false))
  | .str _ => some (.bl (match t with | .str => true | _ => false))
  | .tup _ => some (.bl (match t with | .tuple => true | _ => false))
  | .lst _ => some (.bl (match t with | .list => true | _ => false))
  | .scr _ => some (.bl (match t with | .list => true | _ => false))
  | .dic _ => some (.bl false)
  | .ins _ _ => none
theorem isTy_ok {Γ : Ga} {H : Hp} {t : Ty5} {d c : D} {v : V} {Q : VK} (e : isTy t d = some c) (h : Is Γ H d v) (hQ : ∀ w H', Born Γ H H' c w → Q w H') : rIsi Γ.K [v, .ty t.nm] H Q := by
  have go : ∀ (ty : String) (k : Bool), TyX Γ.K H v (.type ty) → kitB ty t.nm = some k → Q (.bl k) H → rIsi Γ.K [v, .ty t.nm] H Q := fun ty k h1 h2 h3 => ⟨v, _, _, _, k, rfl, .ty _, h1, kit_ty h2, h3⟩
  cases d with
  | non => cases e; cases h; exact go "NoneType" _ (.base .non) (by cases t <;> decide +kernel) (hQ _ _ (.atom rfl))
  | bl => cases e; cases h; exact go "bool" _ (.base (.bl _)) (by cases t <;> decide +kernel) (hQ _ _ (.atom rfl))
  | int => cases e; cases h; exact go "int" _ (.base (.int _)) (by cases t <;> decide +kernel) (hQ _ _ (.atom rfl))
  | str => cases e; cases h; exact go "str" _ (.base (.str _)) (by cases t <;> decide +kernel) (hQ _ _ (.atom rfl))
  | tup => cases e; obtain ⟨p, us, rfl, h1, h2⟩ := h; exact go "tuple" _ (.base (.tup h1)) (by cases t <;> decide +kernel) (hQ _ _ (.atom rfl))
  | lst => cases e; obtain ⟨p, us, rfl, h1, h2⟩ := h; exact go "list" _ (.base (.lst h1)) (by cases t <;> decide +kernel) (hQ _ _ (.atom rfl))
  | dic => cases e; obtain ⟨p, us, rfl, h1, h2⟩ := h; exact go "dict" _ (.base (.dK h1)) (by cases t <;> decide +kernel) (hQ _ _ (.atom rfl))
  | scr =>
    cases e
    obtain ⟨p, rfl, h1⟩ := h
    refine go "list" _ ?_ (by cases t <;> decide +kernel) (hQ _ _ (.atom rfl))
    rcases h1 with (h1 | ⟨o, h1⟩) | ⟨o, its, n, h1, h2, _⟩
    · exact .base (.lst h1)
    · exact .base (.frz h1)
    · exact .kList h1 h2
  | ins => simp [isTy] at e
theorem pu_isi {p p2 : Pos} {x : Str} (t : Ty5) (hm : X.mg "isinstance" = none) (hx : X.mg x = none) (hv : bootBuiltins x = some (.type t.nm)) (ha : PuE cm X a fa) (hg : Gl X "isinstance" := by rfl) (hgx : Gl X x := by rfl)
    (hn : x ≠ "__name__" := by decide) (hd : (x == ("__debug__" : Str)) = false := by decide)
    (he : starEach [a, .Name x p2] X.env = (false, eval a X.env) :: starEach [.Name x p2] X.env := by rfl) (hpl : (backTo pos (starEach [.Name x p2] X.env)).any (·.1) = false := by rfl) (he2 : starEach [.Name x p2] X.env = (false, eval (.Name x p2) X.env) :: starEach [] X.env := by rfl) :
    PuE cm X (.Call (.Name "isinstance" p) [a, .Name x p2] [] pos) (e1 (isTy t) fa) :=
  pu_op1 (r := fun v H Q => rIsi X.K [v, .ty t.nm] H Q) (fun _ pa => pe_callB call_isi hg hm (by decide +kernel) (pa_cons pa (pa_cons (pe_bltn (v := .ty t.nm) hgx hx hv rfl hn hd) pa_nil he2) he) (by decide) (by decide) he hpl)
    (fun H d c v Q e h hQ => isTy_ok (Γ := gx X cm) e h hQ) ha

/-! ### texts joined -/
def strsOf : List D → Option (List Str)
  | [] => some []
  | .str x :: r => (strsOf r).map (x :: ·)
  | _ => none
theorem strsOf_is {Γ : Ga} {H : Hp} : ∀ {ds : List D} {ys : List Str} {vs : List V}, strsOf ds = some ys → Iss Γ H ds vs → vs = ys.map V.str
  | [], _, _, e, h => by cases e; exact h
  | d :: r, _, _, e, ⟨v, s, e1, h1, h2⟩ => by
    subst e1
    cases d <;> simp [strsOf] at e
    obtain ⟨ys, e2, rfl⟩ := e
    rw [List.map_cons, ← strsOf_is e2 h2, show v = _ from h1]
def joinD : D → D → Option D
  | .str a, .lst ds => (strsOf ds).bind fun ys => if (ys.map (·.length)).sum + ys.length * a.length ≤ 16777216 then some (.str (Txt.join a ys)) else none
  | _, _ => none
theorem pu_join {apos : Pos} (ha : PuE cm X a fa) (hb : PuE cm X b fb) (hs : starEach [b] X.env = [(false, eval b X.env)] := by rfl) (hbase : attributeBase a "join" X.env (eval a X.env) = eval a X.env := by rfl) (hline : (apos.endLine == pos.line) = true := by rfl) :
    PuE cm X (.Call (.Attribute a "join" apos) [b] [] pos) (e2 joinD fa fb) := by
  obtain ⟨ta, pa, qa⟩ := ha
  obtain ⟨tb, pb, qb⟩ := hb
  refine ⟨_, pe_join pa pb hs hbase hline, fun x B F ρ σ H d m Q ok hf hQ => ?_⟩
  obtain ⟨da, m1, db, m2, ea, eb, ed, rfl⟩ := e2_some hf
  unfold joinD at ed
  split at ed
  · rename_i z ds
    cases q : strsOf ds with
    | none => simp [q] at ed
    | some ys =>
      simp [q] at ed
      obtain ⟨hl, rfl⟩ := ed
      refine qa x B F ρ σ H _ m1 _ ok ea fun v B1 H1 g1 ok1 hv => ?_
      cases hv.is ok1
      refine ⟨⟨_, rfl⟩, ?_⟩
      refine qb x B1 F ρ σ H1 _ m2 _ ok1 eb fun u B2 H2 g2 ok2 hu => ?_
      obtain ⟨p, us, rfl, h1, h2⟩ := hu.is ok2
      refine ⟨z, p, ys, rfl, rfl, .inl (by rw [← strsOf_is q h2]; exact SqL.of h1), hl, hQ _ B2 H2 (g1.trans g2) ok2 rfl⟩
  · cases ed
end
end DL

/-! DL7: targets, what is walked, comprehensions. -/
namespace DL
open PySem L2

/-! ### one reading for all that is pure -/
def tPu (Γ : Ga) (f : EF) : TE := fun σ H Q => ∃ (x : Fx) (B : Hp) (F : Nat → List Addr) (ρ : Ev) (d : D) (m : Md), Ok Γ x B F ρ σ H ∧ f ρ = some (d, m) ∧ ∀ v B' H', Gr B H B' H' → Ok Γ x B' F ρ σ H' → Val Γ x m B' H' d v → Q v H'
theorem PuE.can {cm : Nat → Addr} {X : Cx} {e : Expr} {f : EF} (h : PuE cm X e f) : PE X e (tPu (gx X cm) f) := by
  obtain ⟨t, p, q⟩ := h
  refine ⟨fun pins s σ H Q I w => ?_⟩
  obtain ⟨x, B, F, ρ, d, m, ok, ef, hQ⟩ := w
  exact p.run pins s σ H Q I (q x B F ρ σ H d m Q ok ef hQ)
def tPt (Γ : Ga) (f : Ev → Option Bool) : TT := fun σ H Q => ∃ (x : Fx) (B : Hp) (F : Nat → List Addr) (ρ : Ev) (k : Bool), Ok Γ x B F ρ σ H ∧ f ρ = some k ∧ ∀ B' H', Gr B H B' H' → Ok Γ x B' F ρ σ H' → Q k H'
theorem PuT.can {cm : Nat → Addr} {X : Cx} {e : Expr} {f : Ev → Option Bool} (h : PuT cm X e f) : PT X e (tPt (gx X cm) f) := by
  obtain ⟨t, p, q⟩ := h
  refine ⟨fun pins s σ H Q I w => ?_⟩
  obtain ⟨x, B, F, ρ, k, ok, ef, hQ⟩ := w
  exact p.run pins s σ H Q I (q x B F ρ σ H k Q ok ef hQ)

/-! ### slots stored -/
def mkSl (d : D) (m : Md) : Option Sl := if flat d = true then some (.fn d) else match m with
  | .new => some (.fn d)
  | .par => some (.fa d)
  | .own => none
/-- may the slot be overwritten? -/
def freeS : Sl → Bool
  | .ow _ => false
  | _ => true
def setS (i : Nat) (d : D) (m : Md) (ρ : Ev) : Option Ev := (ρ[i]?).bind fun s => if freeS s = true then (mkSl d m).map fun t => ρ.set i t else none
def offF (F : Nat → List Addr) (i : Nat) : Nat → List Addr := fun j => if j = i then [] else F j
theorem offF_sub {F : Nat → List Addr} {i j : Nat} {a : Addr} (h : a ∈ offF F i j) : a ∈ F j ∧ j ≠ i := by
  unfold offF at h
  split at h
  · cases h
  · rename_i q; exact ⟨h, q⟩
section
variable {Γ : Ga} {x : Fx} {B : Hp} {F : Nat → List Addr} {ρ : Ev} {σ : St} {H : Hp}
/-- a slot that holds nothing of its own is set -/
theorem Ok.put (o : Ok Γ x B F ρ σ H) {i : Nat} {s : Sl} {v : Option V} (h : SlotAt Γ x B H i (some v) [] s) (hi : i < ρ.length) : Ok Γ x B (offF F i) (ρ.set i s) (σ.set i v) H where
  kp := o.kp
  bh := o.bh
  tup := o.tup
  born := o.born
  dom := o.dom
  fk := fun j a ha => o.fk j a (offF_sub ha).1
  dj := fun j k a h1 h2 => o.dj j k a (offF_sub h1).1 (offF_sub h2).1
  nd := fun j => by unfold offF; split; exact List.nodup_nil; exact o.nd j
  out := fun j hj => by
    unfold offF
    split
    · rfl
    · exact o.out j (by simpa using hj)
  len := by rw [List.length_set, List.length_set, o.len]
  at_ := fun j t ht => by
    by_cases q : j = i
    · subst q
      rw [List.getElem?_set_self hi] at ht
      cases ht
      rw [List.getElem?_set_self (by rw [← o.len]; exact hi), show offF F j j = [] from if_pos rfl]
      exact h
    · rw [List.getElem?_set_ne (Ne.symm q)] at ht ⊢
      rw [show offF F i j = F j from if_neg q]
      exact o.at_ j t ht
theorem mkSl_at (o : Ok Γ x B F ρ σ H) {d : D} {m : Md} {v : V} {s : Sl} (h : mkSl d m = some s) (hv : Val Γ x m B H d v) (i : Nat) : SlotAt Γ x B H i (some (some v)) [] s := by
  unfold mkSl at h
  split at h
  · rename_i f
    cases h
    exact ⟨rfl, v, rfl, Val.new o (by rw [f]; rfl) hv⟩
  · split at h
    · cases h; exact ⟨rfl, v, rfl, hv⟩
    · cases h; exact ⟨rfl, v, rfl, hv⟩
    · cases h
theorem setS_some {i : Nat} {d : D} {m : Md} {ρ' : Ev} (h : setS i d m ρ = some ρ') : ∃ s t, ρ[i]? = some s ∧ freeS s = true ∧ mkSl d m = some t ∧ ρ' = ρ.set i t := by
  unfold setS at h
  cases e : ρ[i]? with
  | none => rw [e] at h; cases h
  | some s =>
    rw [e] at h
    simp only [Option.bind_some] at h
    split at h
    · rename_i f
      cases q : mkSl d m with
      | none => rw [q] at h; cases h
      | some t => rw [q] at h; cases h; exact ⟨s, t, rfl, f, rfl, rfl⟩
    · cases h
theorem Ok.setS (o : Ok Γ x B F ρ σ H) {i : Nat} {d : D} {m : Md} {v : V} {ρ' : Ev} (h : setS i d m ρ = some ρ') (hv : Val Γ x m B H d v) : Ok Γ x B (offF F i) ρ' (σ.set i (some v)) H := by
  obtain ⟨s, t, e1, _, e2, rfl⟩ := setS_some h
  exact o.put (mkSl_at o e2 hv i) (List.getElem?_eq_some_iff.mp e1).1
end

/-! ### targets -/
abbrev GF := D → Md → Ev → Option Ev
def PuG (cm : Nat → Addr) (X : Cx) (tg : Expr) (js : List Nat) (g : GF) : Prop :=
  ∃ t, PG X tg t ∧ ∀ (x : Fx) (B : Hp) (F : Nat → List Addr) (ρ ρ' : Ev) (σ : St) (H : Hp) (d : D) (m : Md) (v : V) (Q : St → Hp → Prop), Ok (gx X cm) x B F ρ σ H → Val (gx X cm) x m B H d v → g d m ρ = some ρ' →
    (∀ F' σ', Ok (gx X cm) x B F' ρ' σ' H → (∀ j, j ∉ js → σ'[j]? = σ[j]?) → σ'.length = σ.length → Q σ' H) → t v σ H Q
def PuGs (cm : Nat → Addr) (X : Cx) (ts : List Expr) (js : List Nat) (g : List D → Md → Ev → Option Ev) : Prop :=
  ∃ t, PGs X ts t ∧ ∀ (x : Fx) (B : Hp) (F : Nat → List Addr) (ρ ρ' : Ev) (σ : St) (H : Hp) (ds : List D) (m : Md) (vs : List V) (Q : St → Hp → Prop), Ok (gx X cm) x B F ρ σ H → (∀ d v, (d, v) ∈ ds.zip vs → Val (gx X cm) x (effm m d) B H d v) → vs.length = ds.length → g ds m ρ = some ρ' →
    (∀ F' σ', Ok (gx X cm) x B F' ρ' σ' H → (∀ j, j ∉ js → σ'[j]? = σ[j]?) → σ'.length = σ.length → Q σ' H) → t vs σ H Q
def gN (i : Nat) : GF := fun d m ρ => setS i d m ρ
def gsNil : List D → Md → Ev → Option Ev := fun ds _ ρ => match ds with
  | [] => some ρ
  | _ => none
def gsCons (i : Nat) (g : List D → Md → Ev → Option Ev) : List D → Md → Ev → Option Ev := fun ds m ρ => match ds with
  | d :: r => (setS i d (effm m d) ρ).bind fun ρ' => g r m ρ'
  | [] => none
def gT (n : Nat) (g : List D → Md → Ev → Option Ev) : GF := fun d m ρ => match d with
  | .tup ds => if ds.length = n then g ds m ρ else none
  | _ => none
section
variable {cm : Nat → Addr} {X : Cx} {pos : Pos}
theorem pug_name (i : Nat) {x : Str} (hN : X.N.Nodup) (hi : X.N[i]? = some x := by rfl) (hx : Loc X.env.scope x := by first | exact .inl rfl | exact .inr rfl)
    (hf : X.fn x = true ∨ X.env.scope.names.lookup x = some .local := by first | exact .inl rfl | exact .inr rfl) : PuG cm X (.Name x pos) [i] (gN i) := by
  refine ⟨_, pg_name hN hi hx hf, fun x B F ρ ρ' σ H d m v Q ok hv hg hQ => ?_⟩
  exact hQ _ _ (ok.setS hg hv) (fun j hj => List.getElem?_set_ne (fun e => hj (by simp [e]))) (List.length_set ..)
theorem pugs_nil : PuGs cm X [] [] gsNil := by
  refine ⟨_, pgs_nil, fun x B F ρ ρ' σ H ds m vs Q ok hv hl hg hQ => ?_⟩
  cases ds with
  | nil =>
    cases hg
    exact ⟨List.eq_nil_of_length_eq_zero hl, hQ F σ ok (fun _ _ => rfl) rfl⟩
  | cons => simp [gsNil] at hg
theorem pugs_cons (i : Nat) {x : Str} {es : List Expr} {js : List Nat} {g : List D → Md → Ev → Option Ev} (hN : X.N.Nodup) (h2 : PuGs cm X es js g) (hi : X.N[i]? = some x := by rfl) (hx : Loc X.env.scope x := by first | exact .inl rfl | exact .inr rfl)
    (hf : X.fn x = true ∨ X.env.scope.names.lookup x = some .local := by first | exact .inl rfl | exact .inr rfl)
    (hs : (assignEach (.Name x pos :: es) X.env).map (·.2) = assign (.Name x pos) X.env :: (assignEach es X.env).map (·.2) := by rfl) : PuGs cm X (.Name x pos :: es) (i :: js) (gsCons i g) := by
  obtain ⟨t, p, q⟩ := h2
  refine ⟨_, pgs_cons (pg_name hN hi hx hf) p hs, fun x B F ρ ρ' σ H ds m vs Q ok hv hl hg hQ => ?_⟩
  cases ds with
  | nil => simp [gsCons] at hg
  | cons d r =>
    cases vs with
    | nil => simp at hl
    | cons v vs =>
      simp only [gsCons] at hg
      cases e : DL.setS i d (effm m d) ρ with
      | none => rw [e] at hg; cases hg
      | some ρ1 =>
        rw [e] at hg
        refine ⟨v, vs, rfl, ?_⟩
        exact q x B _ ρ1 ρ' _ H r m vs Q (ok.setS e (hv d v (by simp))) (fun d' v' h => hv d' v' (by simp [h])) (by simpa using hl) hg fun F' σ' ok' h1 h2 => hQ F' σ' ok' (fun j hj => (h1 j fun z => hj (List.mem_cons_of_mem _ z)).trans (List.getElem?_set_ne (fun e => hj (by simp [e])))) (h2.trans (List.length_set ..))
theorem pug_tup {es : List Expr} {k n : Nat} {js : List Nat} {g : List D → Md → Ev → Option Ev} (h : PuGs cm X es js g) (hc : X.calm = true := by rfl)
    (hn : (assignEach es X.env).length = n := by rfl) (hst : (assignEach es X.env).findIdx? (·.1) = none := by rfl) : PuG cm X (.Tuple es k pos) js (gT n g) := by
  obtain ⟨t, p, q⟩ := h
  refine ⟨_, pg_tup hc p hn hst, fun x B F ρ ρ' σ H d m v Q ok hv hg hQ => ?_⟩
  unfold gT at hg
  split at hg
  · rename_i ds
    split at hg
    · rename_i hl
      obtain ⟨a, vs, rfl, h1, h2⟩ := hv.is ok
      refine ⟨a, vs, rfl, SqT.of h1, h2.length.trans hl, ?_⟩
      refine q x B F ρ ρ' σ H ds m vs Q ok (fun d' v' hm => ?_) h2.length hg hQ
      obtain ⟨j, hj, e⟩ := List.getElem_of_mem hm
      have e1 : ds[j]? = some d' ∧ vs[j]? = some v' := by
        rw [List.getElem_zip] at e
        rw [List.length_zip] at hj
        injection e with ea eb
        exact ⟨by rw [List.getElem?_eq_getElem (by omega), ea], by rw [List.getElem?_eq_getElem (by omega), eb]⟩
      refine hv.part ok fun R eR ⟨a', vs', ea, k1, k2⟩ => ?_
      cases ea
      have z := (eR _ _ k1).symm.trans h1
      cases z
      obtain ⟨w, ew, hw⟩ := k2.get e1.1
      rw [e1.2] at ew
      cases ew
      exact hw
    · cases hg
  · cases hg
end

/-! ### what is walked -/
/-- the iterator J yields ds as long as Rg stands -/
structure Src (Γ : Ga) (Rg : Hp) (ds : List D) (J : It) : Prop where
  go : ∀ (i : Nat) (H : Hp) (d : D), Same Rg H → ds[i]? = some d → J.go i H
  yld : ∀ (i : Nat) (H : Hp) (d : D) (v : V) (H' : Hp), Same Rg H → ds[i]? = some d → J.yld i H v H' → (H' = H ∧ Is Γ Rg d v) ∨ (flat d = true ∧ Born Γ H H' d v)
  stop : ∀ (i : Nat) (H : Hp), Same Rg H → ds.length ≤ i → J.stop i H
abbrev IF := Ev → Option (List D × Md)
def rgOf (x : Fx) (m : Md) (B H : Hp) : Hp := match m with
  | .own => H
  | .par => x.Kp
  | .new => B
def PuI (cm : Nat → Addr) (X : Cx) (tg iter : Expr) (f : IF) : Prop :=
  ∃ wi, PI X tg iter wi ∧ ∀ (x : Fx) (B : Hp) (F : Nat → List Addr) (ρ : Ev) (σ : St) (H : Hp) (ds : List D) (m : Md) (R : It → Hp → Prop), Ok (gx X cm) x B F ρ σ H → f ρ = some (ds, m) →
    (∀ J B' H', Gr B H B' H' → Ok (gx X cm) x B' F ρ σ H' → Src (gx X cm) (rgOf x m B' H') ds J → R J H') → wi σ H R
section
variable {cm : Nat → Addr} {X : Cx} {pos : Pos} {e : Expr} {tg : Expr} {fe : EF}
theorem PI.or {iter : Expr} {w1 w2 : TI} (h1 : PI X tg iter w1) (h2 : PI X tg iter w2) : PI X tg iter (fun σ H R => w1 σ H R ∨ w2 σ H R) :=
  ⟨fun pins s σ H R I h => h.elim (h1.run pins s σ H R I) (h2.run pins s σ H R I)⟩
def strD (z : Str) : List D := z.cps.toList.map fun c => .str ⟨#[c]⟩
/-- the items of a list, a tuple, a text -/
def itemsD : D → Option (List D)
  | .lst ds => some ds
  | .tup ds => some ds
  | .str z => some (strD z)
  | _ => none
def iE (f : EF) : IF := fun ρ => (f ρ).bind fun a => (itemsD a.1).map fun ds => (ds, a.2)
theorem src_list {Γ : Ga} {Rg : Hp} {a : Addr} {vs : List V} {ds : List D} (h1 : Rg a = some (.lst vs)) (h2 : Iss Γ Rg ds vs) : Src Γ Rg ds (Itl Γ.K a) where
  go := fun i H d s e => by
    obtain ⟨v, e1, _⟩ := h2.get e
    exact ⟨vs, v, SqL.of (s _ _ h1), e1⟩
  yld := fun i H d v H' s e y => by
    obtain ⟨w, e1, e2⟩ := h2.get e
    have z := y.2 vs (SqL.of (s _ _ h1))
    rw [e1] at z
    cases z
    exact .inl ⟨y.1, e2⟩
  stop := fun i H s hl => ⟨vs, SqL.of (s _ _ h1), by rw [h2.length]; exact hl⟩
theorem src_tup {Γ : Ga} {Rg : Hp} {a : Addr} {vs : List V} {ds : List D} (h1 : Rg a = some (.tup vs)) (h2 : Iss Γ Rg ds vs) : Src Γ Rg ds (Itt Γ.K a) where
  go := fun i H d s e => by
    obtain ⟨v, e1, _⟩ := h2.get e
    exact ⟨vs, v, SqT.of (s _ _ h1), e1⟩
  yld := fun i H d v H' s e y => by
    obtain ⟨w, e1, e2⟩ := h2.get e
    have z := y.2 vs (SqT.of (s _ _ h1))
    rw [e1] at z
    cases z
    exact .inl ⟨y.1, e2⟩
  stop := fun i H s hl => ⟨vs, SqT.of (s _ _ h1), by rw [h2.length]; exact hl⟩
theorem src_str {Γ : Ga} {Rg : Hp} (z : Str) : Src Γ Rg (strD z) (Its z) where
  go := fun i H d s e => by
    have := (List.getElem?_eq_some_iff.mp e).1
    show i < z.cps.size
    simpa [strD] using this
  yld := fun i H d v H' s e y => by
    obtain ⟨y1, c, y2, rfl⟩ := y
    have e1 : d = .str ⟨#[c]⟩ := by
      rw [strD, List.getElem?_map, Array.getElem?_toList, y2] at e
      exact (Option.some.inj e).symm
    subst e1
    exact .inl ⟨y1, rfl⟩
  stop := fun i H s hl => by show z.cps.size ≤ i; simpa [strD] using hl
theorem rg_is {Γ : Ga} {x : Fx} {m : Md} {B H : Hp} {d : D} {v : V} (h : Val Γ x m B H d v) : Is Γ (rgOf x m B H) d v := by cases m <;> exact h
theorem pui_seq (he : PuE cm X e fe) : PuI cm X tg e (iE fe) := by
  obtain ⟨t, p, q⟩ := he
  refine ⟨_, PI.or (pi_list p) (PI.or (pi_tup p) (pi_str p)), fun x B F ρ σ H ds m R ok hf hR => ?_⟩
  unfold iE at hf
  cases ea : fe ρ with
  | none => rw [ea] at hf; cases hf
  | some a =>
    rw [ea] at hf
    obtain ⟨a, ma⟩ := a
    simp only [Option.bind_some] at hf
    cases a with
    | lst es =>
      cases hf
      refine .inl (q x B F ρ σ H _ m _ ok ea fun v B' H' g ok' hv => ?_)
      obtain ⟨a, vs, rfl, h1, h2⟩ := rg_is hv
      obtain ⟨a', vs', ea', k1, k2⟩ := hv.is ok'
      cases ea'
      exact ⟨a, rfl, ⟨vs', SqL.of k1⟩, hR _ B' H' g ok' (src_list h1 h2)⟩
    | tup es =>
      cases hf
      refine .inr (.inl (q x B F ρ σ H _ m _ ok ea fun v B' H' g ok' hv => ?_))
      obtain ⟨a, vs, rfl, h1, h2⟩ := rg_is hv
      obtain ⟨a', vs', ea', k1, k2⟩ := hv.is ok'
      cases ea'
      exact ⟨a, rfl, ⟨vs', SqT.of k1⟩, hR _ B' H' g ok' (src_tup h1 h2)⟩
    | str z =>
      cases hf
      refine .inr (.inr (q x B F ρ σ H _ m _ ok ea fun v B' H' g ok' hv => ?_))
      cases hv.is ok'
      exact ⟨z, rfl, hR _ B' H' g ok' (src_str z)⟩
    | _ => simp [itemsD] at hf
def rangeL (n : Int) : List D := (List.range n.toNat).map fun i => .int (i : Nat)
def iR (f : EF) : IF := fun ρ => (f ρ).bind fun a => (intD a.1).bind fun n => if -4611686018427387904 ≤ n ∧ n < 4611686018427387904 then some (rangeL n, .new) else none
theorem src_range {Γ : Ga} {Rg : Hp} (n : Int) : Src Γ Rg (rangeL n) (Itr 0 n.toNat) where
  go := fun i H d s e => by
    have := (List.getElem?_eq_some_iff.mp e).1
    rw [rangeL, List.length_map, List.length_range] at this
    exact this
  yld := fun i H d v H' s e y => by
    obtain ⟨rfl, rfl⟩ := y
    have hl : i < n.toNat := by
      have := (List.getElem?_eq_some_iff.mp e).1
      simpa [rangeL] using this
    have e1 : d = .int (i : Nat) := by
      rw [rangeL, List.getElem?_map, List.getElem?_range hl] at e
      exact (Option.some.inj e).symm
    subst e1
    exact .inl ⟨rfl, by show V.int (0 + (i : Nat)) = V.int (i : Nat); rw [Int.zero_add]⟩
  stop := fun i H s hl => by rw [rangeL, List.length_map, List.length_range] at hl; exact hl
theorem pui_range {p : Pos} (hm : X.mg "range" = none) (he : PuE cm X e fe) (hg : Gl X "range" := by rfl) (hs : starEach [e] X.env = [(false, eval e X.env)] := by rfl) (hs2 : starEach [e] X.env = (false, eval e X.env) :: starEach [] X.env := by rfl) :
    PuI cm X tg (.Call (.Name "range" p) [e] [] pos) (iR fe) := by
  obtain ⟨t, pe, q⟩ := he
  refine ⟨_, pi_range1 hg hm (pa_cons pe pa_nil hs2) hs, fun x B F ρ σ H ds m R ok hf hR => ?_⟩
  unfold iR at hf
  cases ea : fe ρ with
  | none => rw [ea] at hf; cases hf
  | some a =>
    rw [ea] at hf
    obtain ⟨a, ma⟩ := a
    cases a <;> simp [intD] at hf
    rename_i n
    obtain ⟨⟨h1, h2⟩, rfl, rfl⟩ := hf
    refine q x B F ρ σ H _ ma _ ok ea fun v B' H' g ok' hv => ?_
    cases hv.is ok'
    exact ⟨n, rfl, by omega, by omega, hR _ B' H' g ok' (src_range n)⟩
def enumL : Nat → List D → List D
  | _, [] => []
  | i, d :: r => .tup [.int (i : Nat), d] :: enumL (i + 1) r
theorem enumL_get : ∀ {ds : List D} {k i : Nat}, (enumL k ds)[i]? = (ds[i]?).map fun d => .tup [.int ((k + i : Nat) : Int), d]
  | [], k, i => by simp [enumL]
  | d :: r, k, 0 => by simp [enumL]
  | d :: r, k, i + 1 => by
    rw [enumL, List.getElem?_cons_succ, enumL_get, List.getElem?_cons_succ, show k + 1 + i = k + (i + 1) by omega]
theorem enumL_length : ∀ {ds : List D} {k : Nat}, (enumL k ds).length = ds.length
  | [], _ => rfl
  | d :: r, k => by rw [enumL, List.length_cons, enumL_length, List.length_cons]
def iEn (f : EF) : IF := fun ρ => (f ρ).bind fun a => match a.1 with
  | .lst ds => if flats ds = true then some (enumL 0 ds, a.2) else none
  | _ => none
theorem src_enum {Γ : Ga} {Rg : Hp} {a : Addr} {vs : List V} {ds : List D} (h1 : Rg a = some (.lst vs)) (h2 : Iss Γ Rg ds vs) (f : flats ds = true) : Src Γ Rg (enumL 0 ds) (Ite Γ.K a) where
  go := fun i H d s e => by
    rw [enumL_get] at e
    cases q : ds[i]? with
    | none => rw [q] at e; cases e
    | some d0 =>
      obtain ⟨v, e1, _⟩ := h2.get q
      exact ⟨vs, v, SqL.of (s _ _ h1), e1⟩
  yld := fun i H d v H' s e y => by
    rw [enumL_get] at e
    cases q : ds[i]? with
    | none => rw [q] at e; cases e
    | some d0 =>
      rw [q] at e
      cases e
      obtain ⟨w, e1, e2⟩ := h2.get q
      obtain ⟨T, z, rfl, hT, rfl, hz⟩ := y
      have z1 := hz vs (SqL.of (s _ _ h1))
      rw [e1] at z1
      cases z1
      have fd := flats_mem f d0 (List.mem_of_getElem? q)
      have ff : flats [.int ((0 + i : Nat) : Int), d0] = true := by simp only [flats, flat, fd]; rfl
      exact .inr ⟨ff, born_tup hT ff ⟨_, _, rfl, by rw [Nat.zero_add]; rfl, w, [], rfl, e2.mono s, rfl⟩⟩
  stop := fun i H s hl => ⟨vs, SqL.of (s _ _ h1), by rw [h2.length]; rw [enumL_length] at hl; exact hl⟩
theorem pui_enum {p tpos : Pos} {elts : List Expr} {kk : Nat} (hm : X.mg "enumerate" = none) (he : PuE cm X e fe) (hg : Gl X "enumerate" := by rfl) (hs : starEach [e] X.env = [(false, eval e X.env)] := by rfl) (hs2 : starEach [e] X.env = (false, eval e X.env) :: starEach [] X.env := by rfl) :
    PuI cm X (.Tuple elts kk tpos) (.Call (.Name "enumerate" p) [e] [] pos) (iEn fe) := by
  obtain ⟨t, pe, q⟩ := he
  refine ⟨_, pi_enum hg hm (pa_cons pe pa_nil hs2) hs, fun x B F ρ σ H ds m R ok hf hR => ?_⟩
  unfold iEn at hf
  cases ea : fe ρ with
  | none => rw [ea] at hf; cases hf
  | some a =>
    rw [ea] at hf
    obtain ⟨a, ma⟩ := a
    cases a with
    | lst es =>
      simp only [Option.bind_some] at hf
      split at hf
      · rename_i f
        cases hf
        refine q x B F ρ σ H _ m _ ok ea fun v B' H' g ok' hv => ?_
        obtain ⟨a, vs, rfl, h1, h2⟩ := rg_is hv
        obtain ⟨a', vs', ea', k1, k2⟩ := hv.is ok'
        cases ea'
        exact ⟨a, vs', rfl, SqL.of k1, hR _ B' H' g ok' (src_enum h1 h2 f)⟩
      · cases hf
    | _ => simp at hf
def zipL : List D → List D → List D
  | a :: r, b :: s => .tup [a, b] :: zipL r s
  | _, _ => []
theorem zipL_get : ∀ {as bs : List D} {i : Nat} {d : D}, (zipL as bs)[i]? = some d → ∃ a b, as[i]? = some a ∧ bs[i]? = some b ∧ d = .tup [a, b]
  | [], _, _, _, e => by simp [zipL] at e
  | _ :: _, [], _, _, e => by simp [zipL] at e
  | a :: r, b :: s, 0, d, e => by simp [zipL] at e; exact ⟨a, b, rfl, rfl, e.symm⟩
  | a :: r, b :: s, i + 1, d, e => by
    rw [zipL, List.getElem?_cons_succ] at e
    simpa using zipL_get (as := r) (bs := s) (i := i) e
theorem zipL_length : ∀ {as bs : List D}, (zipL as bs).length = min as.length bs.length
  | [], _ => by simp [zipL]
  | _ :: _, [] => by simp [zipL]
  | a :: r, b :: s => by rw [zipL, List.length_cons, zipL_length, List.length_cons, List.length_cons]; omega
/-- the weaker of two -/
def mmin : Md → Md → Option Md
  | .new, .new => some .new
  | .par, .par => some .par
  | .own, .own => some .own
  | _, _ => none
def iZ (f g : EF) : IF := fun ρ => (f ρ).bind fun a => (g ρ).bind fun b => match a.1, b.1 with
  | .lst ds, .lst es => if flats ds = true ∧ flats es = true then (mmin a.2 b.2).map fun m => (zipL ds es, m) else none
  | _, _ => none
theorem src_zip {Γ : Ga} {Rg : Hp} {a b : Addr} {vs us : List V} {ds es : List D} (h1 : Rg a = some (.lst vs)) (h2 : Iss Γ Rg ds vs) (k1 : Rg b = some (.lst us)) (k2 : Iss Γ Rg es us) (f : flats ds = true) (f2 : flats es = true) : Src Γ Rg (zipL ds es) (Itz Γ.K a b) where
  go := fun i H d s e => by
    obtain ⟨x, y, e1, e2, _⟩ := zipL_get e
    obtain ⟨v, e3, _⟩ := h2.get e1
    obtain ⟨u, e4, _⟩ := k2.get e2
    exact ⟨vs, us, v, u, SqL.of (s _ _ h1), SqL.of (s _ _ k1), e3, e4⟩
  yld := fun i H d v H' s e y => by
    obtain ⟨p, q, e1, e2, rfl⟩ := zipL_get e
    obtain ⟨w, e3, w1⟩ := h2.get e1
    obtain ⟨u, e4, u1⟩ := k2.get e2
    obtain ⟨T, z, z', rfl, hT, rfl, hz, hz'⟩ := y
    have q1 := hz vs (SqL.of (s _ _ h1))
    rw [e3] at q1
    cases q1
    have q2 := hz' us (SqL.of (s _ _ k1))
    rw [e4] at q2
    cases q2
    have ff : flats [p, q] = true := by simp only [flats, flats_mem f p (List.mem_of_getElem? e1), flats_mem f2 q (List.mem_of_getElem? e2)]; rfl
    exact .inr ⟨ff, born_tup hT ff ⟨_, _, rfl, w1.mono s, _, [], rfl, u1.mono s, rfl⟩⟩
  stop := fun i H s hl => ⟨vs, us, SqL.of (s _ _ h1), SqL.of (s _ _ k1), by rw [h2.length, k2.length]; rw [zipL_length] at hl; omega⟩
theorem rg_gr {x : Fx} {m : Md} {B H B' H' : Hp} (g : Gr B H B' H') : Same (rgOf x m B H) (rgOf x m B' H') := by
  cases m with
  | own => exact g.hh
  | par => exact Same.refl _
  | new => exact g.bb
theorem pui_zip {e2 : Expr} {fe2 : EF} {p tpos : Pos} {elts : List Expr} {kk : Nat} (hm : X.mg "zip" = none) (he : PuE cm X e fe) (he2 : PuE cm X e2 fe2) (hg : Gl X "zip" := by rfl)
    (hs : starEach [e, e2] X.env = (false, eval e X.env) :: starEach [e2] X.env := by rfl) (hpl : (backTo pos (starEach [e2] X.env)).any (·.1) = false := by rfl) (hs2 : starEach [e2] X.env = (false, eval e2 X.env) :: starEach [] X.env := by rfl) :
    PuI cm X (.Tuple elts kk tpos) (.Call (.Name "zip" p) [e, e2] [] pos) (iZ fe fe2) := by
  obtain ⟨t, pe, q⟩ := he
  obtain ⟨t2, pe2, q2⟩ := he2
  refine ⟨_, pi_zip hg hm (pa_cons pe (pa_cons pe2 pa_nil hs2) hs) hs hpl, fun x B F ρ σ H ds m R ok hf hR => ?_⟩
  unfold iZ at hf
  cases ea : fe ρ with
  | none => rw [ea] at hf; cases hf
  | some a =>
    cases eb : fe2 ρ with
    | none => rw [ea, eb] at hf; cases hf
    | some b =>
      rw [ea, eb] at hf
      obtain ⟨a, ma⟩ := a
      obtain ⟨b, mb⟩ := b
      simp only [Option.bind_some] at hf
      split at hf
      · rename_i ds es
        split at hf
        · rename_i f
          have em : mmin ma mb = some m ∧ ma = m ∧ mb = m := by
            cases ma <;> cases mb <;> simp [mmin] at hf ⊢ <;> exact hf.2
          obtain ⟨e0, rfl, rfl⟩ := em
          rw [e0] at hf
          cases hf
          refine q x B F ρ σ H _ _ _ ok ea fun v B1 H1 g1 ok1 hv => ?_
          refine q2 x B1 F ρ σ H1 _ _ _ ok1 eb fun u B2 H2 g2 ok2 hu => ?_
          obtain ⟨a, vs, rfl, h1, h2⟩ := rg_is hv
          obtain ⟨b, us, rfl, k1, k2⟩ := rg_is hu
          obtain ⟨a', vs', ea', j1, j2⟩ := (hv.mono g2).is ok2
          cases ea'
          obtain ⟨b', us', eb', l1, l2⟩ := hu.is ok2
          cases eb'
          exact ⟨a, b, vs', us', rfl, SqL.of j1, SqL.of l1, hR _ B2 H2 (g1.trans g2) ok2 (src_zip (rg_gr g2 _ _ h1) (h2.mono (rg_gr g2)) k1 k2 f.1 f.2)⟩
        · cases hf
      · cases hf
end
end DL

/-! DL8: list comprehensions. -/
namespace DL
open PySem L2

def wipeE (ρ : Ev) : List Nat → Ev
  | [] => ρ
  | v :: vs => (wipeE ρ vs).set v .emp
theorem wipeE_length (ρ : Ev) : ∀ vs : List Nat, (wipeE ρ vs).length = ρ.length
  | [] => rfl
  | v :: vs => by rw [wipeE, List.length_set, wipeE_length ρ vs]
section
variable {Γ : Ga} {x : Fx} {B : Hp} {F : Nat → List Addr} {ρ : Ev} {σ : St} {H : Hp}
theorem Ok.wipe (o : Ok Γ x B F ρ σ H) : ∀ vs : List Nat, ∃ F', Ok Γ x B F' (wipeE ρ vs) (L2.wipe σ vs) H
  | [] => ⟨F, o⟩
  | v :: vs => by
    obtain ⟨F', o'⟩ := Ok.wipe o vs
    rw [wipeE, L2.wipe]
    by_cases h : v < (wipeE ρ vs).length
    · exact ⟨_, o'.put (s := .emp) (v := none) rfl h⟩
    · rw [List.set_eq_of_length_le (by omega), List.set_eq_of_length_le (by rw [← o'.len]; omega)]
      exact ⟨F', o'⟩
theorem wipe_in {σ : St} {i : Nat} {v : Option V} : ∀ {vs : List Nat}, i ∈ vs → (L2.wipe σ vs)[i]? = some v → v = none
  | w :: vs, h, e => by
    rw [L2.wipe] at e
    by_cases q : w = i
    · subst q
      rw [List.getElem?_set] at e
      simp at e
      exact e.2.symm
    · rw [List.getElem?_set_ne q] at e
      exact wipe_in ((List.mem_cons.mp h).resolve_left fun z => q z.symm) e
theorem wipe_eq {σ τ : St} {vs : List Nat} (hl : σ.length = τ.length) (h : ∀ j, j ∉ vs → σ[j]? = τ[j]?) : L2.wipe σ vs = L2.wipe τ vs := by
  apply List.ext_getElem?
  intro j
  by_cases q : j ∈ vs
  · have l1 : (L2.wipe σ vs).length = (L2.wipe τ vs).length := by rw [L2.wipe_length, L2.wipe_length, hl]
    cases e1 : (L2.wipe σ vs)[j]? with
    | none =>
      have := List.getElem?_eq_none_iff.mp e1
      exact (List.getElem?_eq_none_iff.mpr (by omega)).symm
    | some u =>
      have lt := (List.getElem?_eq_some_iff.mp e1).1
      cases e2 : (L2.wipe τ vs)[j]? with
      | none =>
        have := List.getElem?_eq_none_iff.mp e2
        omega
      | some w => rw [wipe_in q e1, wipe_in q e2]
  · rw [L2.wipe_out q, L2.wipe_out q, h j q]
theorem wipe_wipe {σ : St} {vs : List Nat} : L2.wipe (L2.wipe σ vs) vs = L2.wipe σ vs := wipe_eq (L2.wipe_length σ vs) fun j hj => L2.wipe_out hj

theorem Val.eff {m : Md} {d : D} {v : V} (o : Ok Γ x B F ρ σ H) (h : Val Γ x m B H d v) : Val Γ x (effm m d) B H d v := h.part o fun R _ z => z
/-- a thing that no one knows of is written -/
theorem Ok.hid (o : Ok Γ x B F ρ σ H) {p : Addr} {vs us : List V} (hb : B p = none) (hk : x.Kp p = none) (hf : ∀ i, p ∉ F i) (hp : H p = some (.lst vs)) : Ok Γ x B F ρ σ (upd H p (.lst us)) where
  kp := fun a u e => by rw [upd_ne (fun q => by rw [q, hk] at e; cases e)]; exact o.kp a u e
  bh := fun a u e => by rw [upd_ne (fun q => by rw [q, hb] at e; cases e)]; exact o.bh a u e
  tup := fun a xs e => by
    by_cases q : a = p
    · subst q; rw [upd_same] at e; cases e
    · rw [upd_ne q] at e; exact o.tup a xs e
  born := o.born
  dom := fun a e => by
    by_cases q : a = p
    · subst q; rw [upd_same] at e; cases e
    · rw [upd_ne q] at e; exact o.dom a e
  fk := o.fk
  dj := o.dj
  nd := o.nd
  out := o.out
  len := o.len
  at_ := fun i s h => by
    have q := o.at_ i s h
    have ht : TupK H (upd H p (.lst us)) := TupK.upd (by intro xs; rw [hp]; intro z; cases z)
    have hkk : ∀ a ∈ F i, (upd H p (.lst us)) a = H a := fun a ha => upd_ne fun z => hf i (z ▸ ha)
    cases s with
    | ow => obtain ⟨v, q1, q2, q3⟩ := q; exact ⟨v, q1, q2.keep ht hkk, q3⟩
    | on => obtain ⟨v, q1, q2, q3⟩ := q; exact ⟨v, q1, q2.keep ht hkk, q3⟩
    | _ => exact q
/-- an item has come -/
theorem Src.item {Rg : Hp} {ds : List D} {J : It} {m : Md} {B0 H0 : Hp} (S : Src Γ (rgOf x m B0 H0) ds J) (o : Ok Γ x B F ρ σ H) (g : Gr B0 H0 B H) {i : Nat} {d : D} {v : V} {H' : Hp} (e : ds[i]? = some d) (y : J.yld i H v H') :
    ∃ B', Gr B H B' H' ∧ Ok Γ x B' F ρ σ H' ∧ Val Γ x (effm m d) B' H' d v := by
  have s : Same (rgOf x m B0 H0) H := by
    cases m with
    | own => exact g.hh
    | par => exact o.kp
    | new => exact g.bb.trans o.bh
  rcases S.yld i H d v H' s e y with ⟨rfl, h⟩ | ⟨f, bn⟩
  · refine ⟨B, Gr.refl B _, o, Val.eff o ?_⟩
    cases m with
    | own => exact Is.mono g.hh h
    | par => exact h
    | new => exact Is.mono g.bb h
  · obtain ⟨B', g', o', h⟩ := o.born' bn
    refine ⟨B', g', o', ?_⟩
    unfold effm
    rw [if_pos f]
    exact h
theorem Src.same {ds : List D} {J : It} {m : Md} {B0 H0 : Hp} (o : Ok Γ x B F ρ σ H) (g : Gr B0 H0 B H) : Same (rgOf x m B0 H0) H := by
  cases m with
  | own => exact g.hh
  | par => exact o.kp
  | new => exact g.bb.trans o.bh
end
theorem Ok.to {Γ : Ga} {x : Fx} {B B' : Hp} {F F2 : Nat → List Addr} {ρ ρ2 : Ev} {σ σ2 : St} {H H' : Hp} (o : Ok Γ x B F ρ σ H) (g : Gr B H B' H') (o2 : Ok Γ x B' F2 ρ2 σ2 H') : Ok Γ x B' F ρ σ H' := o.grow g.hh g.bb o2.bh o2.tup g.new
theorem hid_none {B H B' H' : Hp} {p : Addr} {vs : List V} (bh : Same B' H') (g : Gr B H B' H') (hb : B p = none) (hp : H p = some (.lst vs)) : B' p = none := by
  cases z : B' p with
  | none => rfl
  | some u =>
    rcases g.new p u z with ⟨xs, rfl⟩ | h | h
    · have e := bh _ _ z
      rw [g.hh _ _ hp] at e
      cases e
    · rw [hb] at h; cases h
    · rw [hp] at h; cases h
def tGu (Γ : Ga) (js : List Nat) (g : GF) : TG := fun v σ H Q => ∃ (x : Fx) (B : Hp) (F : Nat → List Addr) (ρ ρ' : Ev) (d : D) (m : Md), Ok Γ x B F ρ σ H ∧ Val Γ x m B H d v ∧ g d m ρ = some ρ' ∧
  ∀ F' σ', Ok Γ x B F' ρ' σ' H → (∀ j, j ∉ js → σ'[j]? = σ[j]?) → σ'.length = σ.length → Q σ' H
theorem PuG.can {cm : Nat → Addr} {X : Cx} {tg : Expr} {js : List Nat} {g : GF} (h : PuG cm X tg js g) : PG X tg (tGu (gx X cm) js g) := by
  obtain ⟨t, p, q⟩ := h
  refine ⟨fun pins s σ H v u Q I r w => ?_⟩
  obtain ⟨x, B, F, ρ, ρ', d, m, ok, hv, hg, hQ⟩ := w
  exact p.run pins s σ H v u Q I r (q x B F ρ ρ' σ H d m v Q ok hv hg hQ)

/-- the tests of a clause -/
def PuTs (cm : Nat → Addr) (X : Cx) (ifs : List Expr) (f : Ev → Option Bool) : Prop := PTs X ifs (tPt (gx X cm) f)
theorem puts_nil {cm : Nat → Addr} {X : Cx} : PuTs cm X [] (fun _ => some true) :=
  ⟨fun pins s σ H Q I w => by
    obtain ⟨x, B, F, ρ, k, ok, ek, hQ⟩ := w
    cases ek
    exact pts_nil.run pins s σ H Q I (hQ B H (Gr.refl B H) ok)⟩
theorem puts_one {cm : Nat → Addr} {X : Cx} {c : Expr} {f : Ev → Option Bool} (h : PuT cm X c f) : PuTs cm X [c] f := pts_one h.can

def lcGo (g : GF) (t : Ev → Option Bool) (e : EF) (m : Md) (ρ : Ev) : List D → Option (List D)
  | [] => some []
  | d :: r => (g d (effm m d) ρ).bind fun ρ1 => (t ρ1).bind fun k => if k = true then (e ρ1).bind fun y => if (flat y.1 || isNew y.2) = true then (lcGo g t e m ρ r).map (y.1 :: ·) else none else lcGo g t e m ρ r
def eLc (f : IF) (vs : List Nat) (g : GF) (t : Ev → Option Bool) (e : EF) : EF := fun ρ => (f ρ).bind fun s => if s.1.length ≤ 16777216 then (lcGo g t e s.2 (wipeE ρ vs) s.1).map fun ys => (.lst ys, .new) else none
theorem lcGo_cons {g : GF} {t : Ev → Option Bool} {e : EF} {m : Md} {ρ : Ev} {d : D} {r : List D} {ys : List D} (h : lcGo g t e m ρ (d :: r) = some ys) :
    ∃ ρ1 k, g d (effm m d) ρ = some ρ1 ∧ t ρ1 = some k ∧ ((k = true ∧ ∃ y m1 zs, e ρ1 = some (y, m1) ∧ (flat y || isNew m1) = true ∧ lcGo g t e m ρ r = some zs ∧ ys = y :: zs) ∨ (k = false ∧ lcGo g t e m ρ r = some ys)) := by
  rw [lcGo] at h
  cases e1 : g d (effm m d) ρ with
  | none => rw [e1] at h; cases h
  | some ρ1 =>
    rw [e1] at h
    simp only [Option.bind_some] at h
    cases e2 : t ρ1 with
    | none => rw [e2] at h; cases h
    | some k =>
      rw [e2] at h
      simp only [Option.bind_some] at h
      refine ⟨ρ1, k, rfl, e2, ?_⟩
      cases k with
      | false => exact .inr ⟨rfl, by simpa using h⟩
      | true =>
        refine .inl ⟨rfl, ?_⟩
        rw [if_pos rfl] at h
        cases e3 : e ρ1 with
        | none => rw [e3] at h; cases h
        | some y =>
          rw [e3] at h
          simp only [Option.bind_some] at h
          split at h
          · rename_i f
            cases e4 : lcGo g t e m ρ r with
            | none => rw [e4] at h; cases h
            | some zs => rw [e4] at h; cases h; exact ⟨y.1, y.2, zs, rfl, f, rfl, rfl⟩
          · cases h

section
variable {cm : Nat → Addr} {X : Cx} {pos : Pos} {elt tg iter : Expr} {ifs : List Expr} {scope : Scope} {own : List (Str × Nat)} {js : List Nat} {f : IF} {g : GF} {t : Ev → Option Bool} {e : EF}
theorem lc_hid {wi : TI} (q : ∀ (x : Fx) (B : Hp) (F : Nat → List Addr) (ρ : Ev) (σ : St) (H : Hp) (ds : List D) (m : Md) (R : It → Hp → Prop), Ok (gx X cm) x B F ρ σ H → f ρ = some (ds, m) →
      (∀ J B' H', Gr B H B' H' → Ok (gx X cm) x B' F ρ σ H' → Src (gx X cm) (rgOf x m B' H') ds J → R J H') → wi σ H R) (hjs : ∀ j ∈ js, j ∈ own.map (·.2))
    (x : Fx) (B : Hp) (F : Nat → List Addr) (ρ : Ev) (σ : St) (H : Hp) (d : D) (m0 : Md) (Q : VK) (ok : Ok (gx X cm) x B F ρ σ H) (hf : eLc f (own.map (·.2)) g t e ρ = some (d, m0))
    (hQ : ∀ p B' H' ys vs, Gr B H B' H' → Ok (gx X cm) x B' F ρ σ H' → d = .lst ys → m0 = .new → H p = none → B' p = none → H' p = some (.lst vs) → Iss (gx X cm) B' ys vs → Q (.ref p) H') : tLc wi (tGu (gx X cm) js g) (tPt (gx X cm) t) (tPu (gx X cm) e) (own.map (·.2)) σ H Q := by
  unfold eLc at hf
  cases ea : f ρ with
  | none => rw [ea] at hf; cases hf
  | some s =>
    rw [ea] at hf
    obtain ⟨ds, m⟩ := s
    simp only [Option.bind_some] at hf
    split at hf
    · rename_i hlen
      cases eys : lcGo g t e m (wipeE ρ (own.map (·.2))) ds with
      | none => rw [eys] at hf; cases hf
      | some ys =>
        rw [eys] at hf
        cases hf
        refine q x B F ρ σ H ds m _ ok ea fun J B1 H1 g1 ok1 S => ?_
        intro Dd hD
        have kD : x.Kp Dd = none := Same.free ok1.kp hD
        have fD : ∀ i, Dd ∉ F i := fun i hi => by
          obtain ⟨u, hu, _⟩ := ok1.box hi
          rw [hD] at hu
          cases hu
        have bD : B1 Dd = none := Same.free ok1.bh hD
        refine ⟨fun i mm H => mm = ds.length - i ∧ i ≤ ds.length ∧ ∃ B accV accD rest, H Dd = some (.lst accV) ∧ Iss (gx X cm) B accD accV ∧ accV.length ≤ i ∧ B Dd = none ∧ Ok (gx X cm) x B F ρ σ H ∧ Gr B1 H1 B H ∧
            lcGo g t e m (wipeE ρ (own.map (·.2))) (ds.drop i) = some rest ∧ accD ++ rest = ys, ?_, ?_⟩
        · have sm : Same H1 (upd H1 Dd (.lst [])) := same_upd hD
          have gg : Gr B1 H1 B1 (upd H1 Dd (.lst [])) := ⟨sm, Same.refl _, fun a u h => .inr (.inl h)⟩
          have ok2 : Ok (gx X cm) x B1 F ρ σ (upd H1 Dd (.lst [])) := ok1.grow sm (Same.refl _) (ok1.bh.trans sm) (fun a xs h => by
            by_cases z : a = Dd
            · subst z; rw [upd_same] at h; cases h
            · rw [upd_ne z] at h; exact ok1.tup a xs h) fun a u h => .inr (.inl h)
          exact ⟨ds.length, by simp, Nat.zero_le _, B1, [], [], ys, upd_same, rfl, Nat.le_refl _, bD, ok2, gg, by simpa using eys, rfl⟩
        · rintro i mm H2 ⟨rfl, hi, B2, accV, accD, rest, hacc, iacc, lacc, b2D, ok2, g2, erest, eacc⟩
          by_cases hlt : i < ds.length
          · have ed : ds[i]? = some ds[i] := List.getElem?_eq_getElem hlt
            rw [List.drop_eq_getElem_cons hlt] at erest
            obtain ⟨ρ1, k, h1, h2, h3⟩ := lcGo_cons erest
            refine .inr ⟨S.go i H2 _ (Src.same (ds := ds) (J := J) ok2 g2) ed, fun H' => (i + 1 ≤ ds.length ∧ ∃ B accV accD rest, H' Dd = some (.lst accV) ∧ Iss (gx X cm) B accD accV ∧ accV.length ≤ i + 1 ∧ B Dd = none ∧ Ok (gx X cm) x B F ρ σ H' ∧ Gr B1 H1 B H' ∧
              lcGo g t e m (wipeE ρ (own.map (·.2))) (ds.drop (i + 1)) = some rest ∧ accD ++ rest = ys), fun H' h => ⟨ds.length - (i + 1), by omega, rfl, h⟩, fun v H3 y => ?_⟩
            obtain ⟨B3, g3, ok3, hv⟩ := S.item (Rg := H) ok2 g2 ed y
            obtain ⟨F', okb⟩ := ok3.wipe (own.map (·.2))
            refine ⟨x, B3, F', _, ρ1, _, _, okb, hv, h1, fun F4 σ4 ok4 hs hl => ⟨?_, ?_⟩⟩
            · exact (wipe_eq (τ := L2.wipe σ (own.map (·.2))) hl fun j hj => hs j fun z => hj (hjs j z)).trans wipe_wipe
            · refine ⟨x, B3, F4, ρ1, k, ok4, h2, fun B5 H5 g5 ok5 => ?_⟩
              have g25 : Gr B2 H2 B5 H5 := g3.trans g5
              rcases h3 with ⟨rfl, y1, m1, zs, h4, h5, h6, rfl⟩ | ⟨rfl, h6⟩
              · refine iteT ⟨x, B5, F4, ρ1, y1, m1, ok5, h4, fun w B6 H6 g6 ok6 hw => ?_⟩
                have g26 : Gr B2 H2 B6 H6 := g25.trans g6
                have o6 : Ok (gx X cm) x B6 F ρ σ H6 := ok2.to g26 ok6
                have b6 : B6 Dd = none := hid_none ok6.bh g26 b2D hacc
                refine ⟨accV, g26.hh _ _ hacc, by rw [line_eq]; omega, hlt, B6, accV ++ [w], accD ++ [y1], zs, upd_same, (iacc.mono g26.bb).snoc (Val.new ok6 h5 hw), by rw [List.length_append, List.length_singleton]; omega, b6, o6.hid b6 kD fD (g26.hh _ _ hacc), ?_, h6, by rw [← eacc]; simp⟩
                have gg := g2.trans g26
                exact ⟨fun a u h => by rw [upd_ne (fun z => by rw [z, hD] at h; cases h)]; exact gg.hh a u h, gg.bb, gg.new⟩
              · exact iteF ⟨hlt, B5, accV, accD, rest, g25.hh _ _ hacc, iacc.mono g25.bb, by omega, hid_none ok5.bh g25 b2D hacc, ok2.to g25 ok5, g2.trans g25, h6, eacc⟩
          · have ei : i = ds.length := by omega
            subst ei
            rw [List.drop_length] at erest
            cases erest
            rw [List.append_nil] at eacc
            subst eacc
            refine .inl ⟨S.stop _ H2 (Src.same (ds := ds) (J := J) ok2 g2) (Nat.le_refl _), ?_⟩
            exact hQ Dd B2 H2 _ accV (g1.trans g2) ok2 rfl rfl (g1.hh.free hD) b2D hacc iacc
    · cases hf
theorem lc_reads {wi : TI} (q : ∀ (x : Fx) (B : Hp) (F : Nat → List Addr) (ρ : Ev) (σ : St) (H : Hp) (ds : List D) (m : Md) (R : It → Hp → Prop), Ok (gx X cm) x B F ρ σ H → f ρ = some (ds, m) →
      (∀ J B' H', Gr B H B' H' → Ok (gx X cm) x B' F ρ σ H' → Src (gx X cm) (rgOf x m B' H') ds J → R J H') → wi σ H R) (hjs : ∀ j ∈ js, j ∈ own.map (·.2))
    (x : Fx) (B : Hp) (F : Nat → List Addr) (ρ : Ev) (σ : St) (H : Hp) (d : D) (m0 : Md) (Q : VK) (ok : Ok (gx X cm) x B F ρ σ H) (hf : eLc f (own.map (·.2)) g t e ρ = some (d, m0))
    (hQ : ∀ v B' H', Gr B H B' H' → Ok (gx X cm) x B' F ρ σ H' → Val (gx X cm) x m0 B' H' d v → Q v H') : tLc wi (tGu (gx X cm) js g) (tPt (gx X cm) t) (tPu (gx X cm) e) (own.map (·.2)) σ H Q := by
  refine lc_hid q hjs x B F ρ σ H d m0 Q ok hf fun Dd B2 H2 ys accV g2 ok2 ed em hD b2D hacc iacc => ?_
  subst ed em
  have nb : Same B2 (upd B2 Dd (.lst accV)) := same_upd b2D
  have bh2 : Same (upd B2 Dd (.lst accV)) H2 := fun a u h => by
    by_cases z : a = Dd
    · subst z; rw [upd_same] at h; cases h; exact hacc
    · rw [upd_ne z] at h; exact ok2.bh a u h
  have nw : ∀ a u, (upd B2 Dd (.lst accV)) a = some u → (∃ xs, u = .tup xs) ∨ B a = some u ∨ H a = none := fun a u h => by
    by_cases z : a = Dd
    · subst z; exact .inr (.inr hD)
    · rw [upd_ne z] at h; exact g2.new a u h
  refine hQ (.ref Dd) (upd B2 Dd (.lst accV)) H2 ⟨g2.hh, g2.bb.trans nb, nw⟩ ?_ ⟨Dd, accV, rfl, upd_same, iacc.mono nb⟩
  exact ok.grow g2.hh (g2.bb.trans nb) bh2 (fun a xs h => nb _ _ (ok2.tup a xs h)) nw
theorem pu_lc (hN : X.N.Nodup) (hi : PuI cm X tg iter f) (ok : BlkOk X.N X.env.scope scope own) (hg : ∀ (s : Shared) (H : Hp) (C : Addr) (cl : List (Str × Addr)) (fp : List Addr), PuG cm (X.blk s H scope (compEnvC scope cl C X.env) fp) tg js g)
    (ht : ∀ (s : Shared) (H : Hp) (C : Addr) (cl : List (Str × Addr)) (fp : List Addr), PuTs cm (X.blk s H scope (compEnvC scope cl C X.env) fp) ifs t)
    (he : ∀ (s : Shared) (H : Hp) (C : Addr) (cl : List (Str × Addr)) (fp : List Addr), PuE cm (X.blk s H scope (compEnvC scope cl C X.env) fp) elt e) (hjs : ∀ j ∈ js, j ∈ own.map (·.2) := by decide) (hc : X.calm = true := by rfl) (hs : ∀ x, foldedSetIterable iter X.env x = pure x := by intro _; rfl) :
    PuE cm X (.ListComp elt [⟨tg, iter, ifs, 0⟩] scope pos) (eLc f (own.map (·.2)) g t e) := by
  obtain ⟨wi, p, q⟩ := hi
  exact ⟨_, pe_lc hc hN p ok (fun s H C cl fp => (hg s H C cl fp).can) (fun s H C cl fp => (show PTs (X.blk s H scope (compEnvC scope cl C X.env) fp) ifs (tPt (gx X cm) t) from ht s H C cl fp)) (fun s H C cl fp => (he s H C cl fp).can) hs, lc_reads q hjs⟩
end
end DL

/-! DL9: statements as functions of the slots; defs that change nothing. -/
namespace DL
open PySem L2

inductive Fl where
  | nx (ρ : Ev) | rt (d : D) (ρ : Ev) | bk (ρ : Ev) | ct (ρ : Ev)
abbrev SF := Ev → Option Fl
def Post (Γ : Ga) (x : Fx) (B0 : Hp) (r : Fl) (E : Ends) : Prop := match r with
  | .nx ρ => ∀ B F σ H, Same B0 B → Ok Γ x B F ρ σ H → E.nx σ H
  | .bk ρ => ∀ B F σ H, Same B0 B → Ok Γ x B F ρ σ H → E.bk σ H
  | .ct ρ => ∀ B F σ H, Same B0 B → Ok Γ x B F ρ σ H → E.ct σ H
  | .rt d ρ => ∀ v B F σ H, Same B0 B → Ok Γ x B F ρ σ H → Is Γ B d v → E.rt v H
theorem Post.mono {Γ : Ga} {x : Fx} {B0 B1 : Hp} {r : Fl} {E : Ends} (s : Same B0 B1) (h : Post Γ x B0 r E) : Post Γ x B1 r E := by
  cases r with
  | nx => exact fun B F σ H s' o => h B F σ H (s.trans s') o
  | bk => exact fun B F σ H s' o => h B F σ H (s.trans s') o
  | ct => exact fun B F σ H s' o => h B F σ H (s.trans s') o
  | rt => exact fun v B F σ H s' o i => h v B F σ H (s.trans s') o i
def PuS (cm : Nat → Addr) (X : Cx) (st : Stmt) (g : SF) : Prop :=
  ∃ t, PS X st t ∧ ∀ (x : Fx) (B : Hp) (F : Nat → List Addr) (ρ : Ev) (σ : St) (H : Hp) (r : Fl) (E : Ends), Ok (gx X cm) x B F ρ σ H → g ρ = some r → Post (gx X cm) x B r E → t E σ H
def PuB (cm : Nat → Addr) (X : Cx) (st : List Stmt) (g : SF) : Prop :=
  ∃ t, PSs X st t ∧ ∀ (x : Fx) (B : Hp) (F : Nat → List Addr) (ρ : Ev) (σ : St) (H : Hp) (r : Fl) (E : Ends), Ok (gx X cm) x B F ρ σ H → g ρ = some r → Post (gx X cm) x B r E → t E σ H
section
variable {cm : Nat → Addr} {X : Cx} {pos : Pos} {st : Stmt} {sts : List Stmt} {e : Expr} {f : EF} {g h : SF}
def bNil : SF := fun ρ => some (.nx ρ)
def bSeq (g h : SF) : SF := fun ρ => (g ρ).bind fun r => match r with
  | .nx ρ' => h ρ'
  | r => some r
theorem pub_nil : PuB cm X [] bNil := ⟨_, pss_nil, fun x B F ρ σ H r E ok hf hE => by cases hf; exact hE B F σ H (Same.refl B) ok⟩
theorem pub_one (hs : PuS cm X st g) : PuB cm X [st] g := by
  obtain ⟨t, p, q⟩ := hs
  exact ⟨t, pss_one p, q⟩
theorem pub_cons (hs : PuS cm X st g) (hb : PuB cm X sts h) : PuB cm X (st :: sts) (bSeq g h) := by
  obtain ⟨t, p, q⟩ := hs
  obtain ⟨u, p2, q2⟩ := hb
  refine ⟨_, pss_cons p p2, fun x B F ρ σ H r E ok hf hE => ?_⟩
  unfold bSeq at hf
  cases e1 : g ρ with
  | none => rw [e1] at hf; cases hf
  | some r1 =>
    rw [e1] at hf
    refine q x B F ρ σ H r1 _ ok e1 ?_
    cases r1 with
    | nx ρ1 => exact fun B' F' σ' H' s ok' => q2 x B' F' ρ1 σ' H' r E ok' hf (hE.mono s)
    | bk => cases hf; exact hE
    | ct => cases hf; exact hE
    | rt => cases hf; exact hE
def sPass : SF := fun ρ => some (.nx ρ)
def sBreak : SF := fun ρ => some (.bk ρ)
def sCont : SF := fun ρ => some (.ct ρ)
def sNever : SF := fun _ => none
theorem pus_pass : PuS cm X (.Pass pos) sPass := ⟨_, ps_pass, fun x B F ρ σ H r E ok hf hE => by cases hf; exact hE B F σ H (Same.refl B) ok⟩
theorem pus_break : PuS cm X (.Break pos) sBreak := ⟨_, ps_break, fun x B F ρ σ H r E ok hf hE => by cases hf; exact hE B F σ H (Same.refl B) ok⟩
theorem pus_cont : PuS cm X (.Continue pos) sCont := ⟨_, ps_continue, fun x B F ρ σ H r E ok hf hE => by cases hf; exact hE B F σ H (Same.refl B) ok⟩
theorem pus_never : PuS cm X st sNever := ⟨_, ps_never, fun x B F ρ σ H r E ok hf hE => by cases hf⟩
def sDrop (f : EF) : SF := fun ρ => (f ρ).map fun _ => .nx ρ
theorem pus_expr (he : PuE cm X e f) (hs : swapsWith e none pos.line X.env = pure false := by rfl) : PuS cm X (.Expr e pos) (sDrop f) := by
  obtain ⟨t, p, q⟩ := he
  refine ⟨_, ps_expr p hs, fun x B F ρ σ H r E ok hf hE => ?_⟩
  unfold sDrop at hf
  cases e1 : f ρ with
  | none => rw [e1] at hf; cases hf
  | some a =>
    rw [e1] at hf
    cases hf
    exact q x B F ρ σ H a.1 a.2 _ ok e1 fun v B' H' gr ok' _ => hE B' F σ H' gr.bb ok'
def sSet (i : Nat) (f : EF) : SF := fun ρ => (f ρ).bind fun a => (setS i a.1 a.2 ρ).map .nx
theorem set_reads {te : TE} {i : Nat} (q : ∀ (x : Fx) (B : Hp) (F : Nat → List Addr) (ρ : Ev) (σ : St) (H : Hp) (d : D) (m : Md) (Q : VK), Ok (gx X cm) x B F ρ σ H → f ρ = some (d, m) →
      (∀ v B' H', Gr B H B' H' → Ok (gx X cm) x B' F ρ σ H' → Val (gx X cm) x m B' H' d v → Q v H') → te σ H Q)
    (x : Fx) (B : Hp) (F : Nat → List Addr) (ρ : Ev) (σ : St) (H : Hp) (r : Fl) (E : Ends) (ok : Ok (gx X cm) x B F ρ σ H) (hf : sSet i f ρ = some r) (hE : Post (gx X cm) x B r E) : tAsg te (gName i) E σ H := by
  unfold sSet at hf
  cases e1 : f ρ with
  | none => rw [e1] at hf; cases hf
  | some a =>
    rw [e1] at hf
    simp only [Option.bind_some] at hf
    cases e2 : setS i a.1 a.2 ρ with
    | none => rw [e2] at hf; cases hf
    | some ρ' =>
      rw [e2] at hf
      cases hf
      exact q x B F ρ σ H a.1 a.2 _ ok e1 fun v B' H' gr ok' hv => hE B' _ _ H' gr.bb (ok'.setS e2 hv)
theorem pus_set (i : Nat) {x : Str} {pos' : Pos} (hN : X.N.Nodup) (he : PuE cm X e f) (hi : X.N[i]? = some x := by rfl) (hx : Loc X.env.scope x := by first | exact .inl rfl | exact .inr rfl)
    (hs : swapsWith e (some (.Name x pos')) pos.line X.env = pure false := by rfl) (hf : X.fn x = true ∨ X.env.scope.names.lookup x = some .local := by first | exact .inl rfl | exact .inr rfl) : PuS cm X (.Assign [.Name x pos'] e pos) (sSet i f) := by
  obtain ⟨t, p, q⟩ := he
  exact ⟨_, ps_set hN hi hx p hs hf, set_reads q⟩
/-- name = [..] on one line -/
theorem pus_setLc (i : Nat) {y : Str} {py : Pos} {elt tg iter : Expr} {ifs : List Expr} {scope : Scope} {own : List (Str × Nat)} {js : List Nat} {spos : Pos} {fi : IF} {g : GF} {t : Ev → Option Bool} {e : EF} (hN : X.N.Nodup) (hi : PuI cm X tg iter fi) (ok : BlkOk X.N X.env.scope scope own)
    (hg : ∀ (s : Shared) (H : Hp) (C : Addr) (cl : List (Str × Addr)) (fp : List Addr), PuG cm (X.blk s H scope (compEnvC scope cl C X.env) fp) tg js g)
    (ht : ∀ (s : Shared) (H : Hp) (C : Addr) (cl : List (Str × Addr)) (fp : List Addr), PuTs cm (X.blk s H scope (compEnvC scope cl C X.env) fp) ifs t)
    (he : ∀ (s : Shared) (H : Hp) (C : Addr) (cl : List (Str × Addr)) (fp : List Addr), PuE cm (X.blk s H scope (compEnvC scope cl C X.env) fp) elt e)
    (hy : X.N[i]? = some y := by rfl) (hyl : X.env.scope.names.lookup y = some .local := by rfl) (hsw : swapsWith (.ListComp elt [⟨tg, iter, ifs, 0⟩] scope pos) (some (.Name y py)) spos.line X.env = pure true := by exact sw_true rfl rfl rfl (by decide +kernel))
    (hjs : ∀ j ∈ js, j ∈ own.map (·.2) := by decide) (hc : X.calm = true := by rfl) (hs : ∀ x, foldedSetIterable iter X.env x = pure x := by intro _; rfl) :
    PuS cm X (.Assign [.Name y py] (.ListComp elt [⟨tg, iter, ifs, 0⟩] scope pos) spos) (sSet i (eLc fi (own.map (·.2)) g t e)) := by
  obtain ⟨wi, p, q⟩ := hi
  exact ⟨_, ps_setLc hc hN hy hyl hsw p ok (fun s H C cl fp => (hg s H C cl fp).can) (fun s H C cl fp => (show PTs (X.blk s H scope (compEnvC scope cl C X.env) fp) ifs (tPt (gx X cm) t) from ht s H C cl fp)) (fun s H C cl fp => (he s H C cl fp).can) hs, set_reads (lc_reads q hjs)⟩
/-- a, b = e -/
def sUnp (f : EF) (g : GF) : SF := fun ρ => (f ρ).bind fun a => (g a.1 a.2 ρ).map .nx
theorem pus_unp {tg : Expr} {js : List Nat} {gg : GF} (he : PuE cm X e f) (hg : PuG cm X tg js gg) (hs : swapsWithSole [tg] e pos.line X.env = pure false := by rfl) (hw : swappedStores [tg] e X.env = pure none := by rfl) (h1 : (assignEach [tg] X.env).map (·.2) = [assign tg X.env] := by rfl) : PuS cm X (.Assign [tg] e pos) (sUnp f gg) := by
  obtain ⟨t, p, q⟩ := he
  obtain ⟨tg', p2, q2⟩ := hg
  refine ⟨_, ps_asg p p2 hs hw h1, fun x B F ρ σ H r E ok hf hE => ?_⟩
  unfold sUnp at hf
  cases e1 : f ρ with
  | none => rw [e1] at hf; cases hf
  | some a =>
    rw [e1] at hf
    simp only [Option.bind_some] at hf
    cases e2 : gg a.1 a.2 ρ with
    | none => rw [e2] at hf; cases hf
    | some ρ' =>
      rw [e2] at hf
      cases hf
      exact q x B F ρ σ H a.1 a.2 _ ok e1 fun v B' H' gr ok' hv => q2 x B' F ρ ρ' σ H' a.1 a.2 v _ ok' hv e2 fun F' σ' ok2 _ _ => hE B' F' σ' H' gr.bb ok2
/-- name += e, ints -/
def sAug (i : Nat) (o : D → D → Option D) (f : EF) : SF := fun ρ => (eV i ρ).bind fun a => (f ρ).bind fun b => (o a.1 b.1).bind fun c => (setS i c .new ρ).map .nx
theorem pus_augI (i : Nat) {x : Str} {pos' : Pos} {op : Operator} {fn : Int → Int → Int} {o : D → D → Option D} (hp : PIp X op (ipI fn)) (ho : ∀ a b c, o a b = some c → ∃ i j, a = .int i ∧ b = .int j ∧ c = .int (fn i j)) (hN : X.N.Nodup) (he : PuE cm X e f) (hi : X.N[i]? = some x := by rfl) (hx : Loc X.env.scope x := by first | exact .inl rfl | exact .inr rfl)
    (hf : X.fn x = true ∨ X.env.scope.names.lookup x = some .local := by first | exact .inl rfl | exact .inr rfl) : PuS cm X (.AugAssign (.Name x pos') op e pos) (sAug i o f) := by
  obtain ⟨t, p, q⟩ := he
  refine ⟨_, ps_aug hN hi hx p hp hf, fun x B F ρ σ H r E ok hg hE => ?_⟩
  unfold sAug at hg
  cases e1 : eV i ρ with
  | none => rw [e1] at hg; cases hg
  | some a =>
    rw [e1] at hg
    simp only [Option.bind_some] at hg
    cases e2 : f ρ with
    | none => rw [e2] at hg; cases hg
    | some b =>
      rw [e2] at hg
      simp only [Option.bind_some] at hg
      cases e3 : o a.1 b.1 with
      | none => rw [e3] at hg; cases hg
      | some c =>
        rw [e3] at hg
        simp only [Option.bind_some] at hg
        cases e4 : setS i c .new ρ with
        | none => rw [e4] at hg; cases hg
        | some ρ' =>
          rw [e4] at hg
          cases hg
          obtain ⟨n, k, ea, eb, rfl⟩ := ho _ _ _ e3
          obtain ⟨a, ma⟩ := a
          obtain ⟨b, mb⟩ := b
          cases ea
          cases eb
          have key : σ[i]? = some (some (.int n)) := by
            unfold eV at e1
            split at e1
            all_goals first
              | (rename_i z; cases e1; obtain ⟨_, v, h1, h2⟩ := ok.at_ i _ z; cases h2; exact h1)
              | (rename_i z; cases e1; obtain ⟨v, h1, h2, _⟩ := ok.at_ i _ z; cases h2.1; exact h1)
              | cases e1
          refine ⟨_, key, q x B F ρ σ H _ _ _ ok e2 fun v B' H' gr ok' hv => ?_⟩
          cases hv.is ok'
          exact ⟨n, k, rfl, rfl, hE B' _ _ H' gr.bb (ok'.setS e4 rfl)⟩
def augAdd (a b : D) : Option D := match a, b with
  | .int i, .int j => some (.int (i + j))
  | _, _ => none
theorem pus_augadd (i : Nat) {x : Str} {pos' : Pos} (hN : X.N.Nodup) (he : PuE cm X e f) (hi : X.N[i]? = some x := by rfl) (hx : Loc X.env.scope x := by first | exact .inl rfl | exact .inr rfl)
    (hf : X.fn x = true ∨ X.env.scope.names.lookup x = some .local := by first | exact .inl rfl | exact .inr rfl) : PuS cm X (.AugAssign (.Name x pos') .Add e pos) (sAug i augAdd f) :=
  pus_augI i (fn := fun i j => i + j) ip_add (fun a b c h => by unfold augAdd at h; split at h <;> cases h; exact ⟨_, _, rfl, rfl, rfl⟩) hN he hi hx hf
def sRet (f : EF) : SF := fun ρ => (f ρ).bind fun a => if (flat a.1 || isNew a.2) = true then some (.rt a.1 ρ) else none
theorem pus_ret (he : PuE cm X e f) : PuS cm X (.Return (some e) pos) (sRet f) := by
  obtain ⟨t, p, q⟩ := he
  refine ⟨_, ps_ret p, fun x B F ρ σ H r E ok hf hE => ?_⟩
  unfold sRet at hf
  cases e1 : f ρ with
  | none => rw [e1] at hf; cases hf
  | some a =>
    rw [e1] at hf
    simp only [Option.bind_some] at hf
    split at hf
    · rename_i hn
      cases hf
      exact q x B F ρ σ H a.1 a.2 _ ok e1 fun v B' H' gr ok' hv => hE v B' F σ H' gr.bb ok' (Val.new ok' hn hv)
    · cases hf
def sRetN : SF := fun ρ => some (.rt .non ρ)
theorem pus_retN : PuS cm X (.Return none pos) sRetN := ⟨_, ps_retN, fun x B F ρ σ H r E ok hf hE => by cases hf; exact hE _ B F σ H (Same.refl B) ok rfl⟩
def sIf (c : Ev → Option Bool) (g h : SF) : SF := fun ρ => (c ρ).bind fun k => if k = true then g ρ else h ρ
theorem pus_if {c : Expr} {fc : Ev → Option Bool} {a b : List Stmt} (hc : PuT cm X c fc) (ha : PuB cm X a g) (hb : PuB cm X b h) : PuS cm X (.If c a b pos) (sIf fc g h) := by
  obtain ⟨t, p, q⟩ := hc
  obtain ⟨ta, pa, qa⟩ := ha
  obtain ⟨tb, pb, qb⟩ := hb
  refine ⟨_, ps_if p pa pb, fun x B F ρ σ H r E ok hf hE => ?_⟩
  unfold sIf at hf
  cases e1 : fc ρ with
  | none => rw [e1] at hf; cases hf
  | some k =>
    rw [e1] at hf
    refine q x B F ρ σ H k _ ok e1 fun B' H' gr ok' => ?_
    cases k with
    | true => exact iteT (qa x B' F ρ σ H' r E ok' (by simpa using hf) (hE.mono gr.bb))
    | false => exact iteF (qb x B' F ρ σ H' r E ok' (by simpa using hf) (hE.mono gr.bb))

/-! ### for -/
def notOwn : Md → Bool
  | .own => false
  | _ => true
def forGo (g : GF) (b : SF) (m : Md) : List D → Ev → Option Fl
  | [], ρ => some (.nx ρ)
  | d :: r, ρ => (g d (effm m d) ρ).bind fun ρ1 => (b ρ1).bind fun s => match s with
    | .nx ρ2 => forGo g b m r ρ2
    | .ct ρ2 => forGo g b m r ρ2
    | .bk ρ2 => some (.nx ρ2)
    | .rt d ρ2 => some (.rt d ρ2)
def sFor (f : IF) (g : GF) (b : SF) : SF := fun ρ => (f ρ).bind fun s => if notOwn s.2 = true then forGo g b s.2 s.1 ρ else none
theorem Src.item2 {Γ : Ga} {x : Fx} {ds : List D} {J : It} {m : Md} {B0 H0 B H : Hp} {F : Nat → List Addr} {ρ : Ev} {σ : St} (S : Src Γ (rgOf x m B0 H0) ds J) (hm : notOwn m = true) (o : Ok Γ x B F ρ σ H) (bb : Same B0 B) {i : Nat} {d : D} (e : ds[i]? = some d) :
    J.go i H ∧ ∀ v H', J.yld i H v H' → ∃ B', Gr B H B' H' ∧ Ok Γ x B' F ρ σ H' ∧ Val Γ x (effm m d) B' H' d v := by
  have s : Same (rgOf x m B0 H0) H := by
    cases m with
    | own => simp [notOwn] at hm
    | par => exact o.kp
    | new => exact bb.trans o.bh
  refine ⟨S.go i H d s e, fun v H' y => ?_⟩
  rcases S.yld i H d v H' s e y with ⟨rfl, h⟩ | ⟨f, bn⟩
  · refine ⟨B, Gr.refl B _, o, Val.eff o ?_⟩
    cases m with
    | own => simp [notOwn] at hm
    | par => exact h
    | new => exact Is.mono bb h
  · obtain ⟨B', g', o', h⟩ := o.born' bn
    refine ⟨B', g', o', ?_⟩
    unfold effm
    rw [if_pos f]
    exact h
theorem pus_for {tg iter : Expr} {body : List Stmt} {js : List Nat} {fi : IF} {gg : GF} (hi : PuI cm X tg iter fi) (hg : PuG cm X tg js gg) (hb : PuB cm X body g) (hp : PassesOwn (model X.prog X.w) X.A X.env X.xe := by exact PassesOwn.never) (hc : X.calm = true := by rfl) (hs : ∀ x, foldedSetIterable iter X.env x = pure x := by intro _; rfl) : PuS cm X (.For tg iter body [] pos) (sFor fi gg g) := by
  obtain ⟨wi, p, q⟩ := hi
  obtain ⟨tg', p2, q2⟩ := hg
  obtain ⟨tb, p3, q3⟩ := hb
  refine ⟨_, ps_for hp hc p p2 p3 hs, fun x B F ρ σ H r E ok hf hE => ?_⟩
  unfold sFor at hf
  cases e1 : fi ρ with
  | none => rw [e1] at hf; cases hf
  | some s =>
    rw [e1] at hf
    obtain ⟨ds, m⟩ := s
    simp only [Option.bind_some] at hf
    split at hf
    · rename_i hm
      refine q x B F ρ σ H ds m _ ok e1 fun J B1 H1 g1 ok1 S => ?_
      refine ⟨fun i mm σ H => mm = ds.length - i ∧ i ≤ ds.length ∧ ∃ B F ρ, Ok (gx X cm) x B F ρ σ H ∧ Same B1 B ∧ forGo gg g m (ds.drop i) ρ = some r, ⟨ds.length, by simp, Nat.zero_le _, B1, F, ρ, ok1, Same.refl B1, by simpa using hf⟩, ?_⟩
      rintro i mm σ2 H2 ⟨rfl, hi, B2, F2, ρ2, ok2, bb, er⟩
      by_cases hlt : i < ds.length
      · have ed : ds[i]? = some ds[i] := List.getElem?_eq_getElem hlt
        rw [List.drop_eq_getElem_cons hlt, forGo] at er
        cases h1 : gg ds[i] (effm m ds[i]) ρ2 with
        | none => rw [h1] at er; cases er
        | some ρ3 =>
          rw [h1] at er
          simp only [Option.bind_some] at er
          cases h2 : g ρ3 with
          | none => rw [h2] at er; cases er
          | some r3 =>
            rw [h2] at er
            simp only [Option.bind_some] at er
            obtain ⟨hgo, hy⟩ := S.item2 (H0 := H1) hm ok2 bb ed
            refine .inr ⟨hgo, fun σ H => i + 1 ≤ ds.length ∧ ∃ B F ρ, Ok (gx X cm) x B F ρ σ H ∧ Same B1 B ∧ forGo gg g m (ds.drop (i + 1)) ρ = some r, fun σ' H' h => ⟨_, by omega, rfl, h⟩, fun v H3 y => ?_⟩
            obtain ⟨B3, g3, ok3, hv⟩ := hy v H3 y
            refine q2 x B3 F2 ρ2 ρ3 σ2 H3 _ _ v _ ok3 hv h1 fun F4 σ4 ok4 _ _ => ?_
            refine q3 x B3 F4 ρ3 σ4 H3 r3 _ ok4 h2 ?_
            have b13 : Same B1 B3 := bb.trans g3.bb
            cases r3 with
            | nx ρ4 => exact fun B' F' σ' H' s ok' => ⟨hlt, B', F', ρ4, ok', b13.trans s, er⟩
            | ct ρ4 => exact fun B' F' σ' H' s ok' => ⟨hlt, B', F', ρ4, ok', b13.trans s, er⟩
            | bk ρ4 => cases er; exact fun B' F' σ' H' s ok' => hE B' F' σ' H' (g1.bb.trans (b13.trans s)) ok'
            | rt d ρ4 => cases er; exact fun v B' F' σ' H' s ok' hi => hE v B' F' σ' H' (g1.bb.trans (b13.trans s)) ok' hi
      · have ei : i = ds.length := by omega
        subst ei
        rw [List.drop_length] at er
        cases er
        have s : Same (rgOf x m B1 H1) H2 := by
          cases m with
          | own => simp [notOwn] at hm
          | par => exact ok2.kp
          | new => exact bb.trans ok2.bh
        exact .inl ⟨S.stop _ H2 s (Nat.le_refl _), hE B2 F2 σ2 H2 (g1.bb.trans bb) ok2⟩
    · cases hf

/-! ### while -/
def whGo (c : Ev → Option Bool) (b : SF) : Nat → Ev → Option Fl
  | 0, _ => none
  | n + 1, ρ => (c ρ).bind fun k => if k = true then (b ρ).bind fun s => match s with
    | .nx ρ2 => whGo c b n ρ2
    | .ct ρ2 => whGo c b n ρ2
    | .bk ρ2 => some (.nx ρ2)
    | .rt d ρ2 => some (.rt d ρ2) else some (.nx ρ)
theorem whGo_step {c : Ev → Option Bool} {b : SF} : ∀ {n : Nat} {ρ : Ev} {r : Fl}, whGo c b n ρ = some r → whGo c b (n + 1) ρ = some r
  | 0, _, _, h => by cases h
  | n + 1, ρ, r, h => by
    rw [whGo] at h ⊢
    cases e1 : c ρ with
    | none => rw [e1] at h; cases h
    | some k =>
      rw [e1] at h
      simp only [Option.bind_some] at h ⊢
      split at h
      · rename_i hk
        rw [if_pos hk]
        cases e2 : b ρ with
        | none => rw [e2] at h; cases h
        | some s =>
          rw [e2] at h
          simp only [Option.bind_some] at h ⊢
          cases s with
          | nx ρ2 => exact whGo_step h
          | ct ρ2 => exact whGo_step h
          | bk => exact h
          | rt => exact h
      · rename_i hk
        rw [if_neg hk]
        exact h
theorem whGo_le {c : Ev → Option Bool} {b : SF} {n m : Nat} {ρ : Ev} {r : Fl} (h : whGo c b n ρ = some r) (l : n ≤ m) : whGo c b m ρ = some r := by
  induction l with
  | refl => exact h
  | step _ ih => exact whGo_step ih
open Classical in
noncomputable def sWhile (c : Ev → Option Bool) (b : SF) : SF := fun ρ => if h : ∃ n r, whGo c b n ρ = some r then some h.choose_spec.choose else none
theorem sWhile_of {c : Ev → Option Bool} {b : SF} {n : Nat} {ρ : Ev} {r : Fl} (h : whGo c b n ρ = some r) : sWhile c b ρ = some r := by
  have q : ∃ n r, whGo c b n ρ = some r := ⟨n, r, h⟩
  unfold sWhile
  rw [dif_pos q]
  have h2 := q.choose_spec.choose_spec
  have a := whGo_le h (Nat.le_max_left n q.choose)
  have a2 := whGo_le h2 (Nat.le_max_right n q.choose)
  rw [a] at a2
  exact a2.symm
theorem sWhile_some {c : Ev → Option Bool} {b : SF} {ρ : Ev} {r : Fl} (h : sWhile c b ρ = some r) : ∃ n, whGo c b n ρ = some r := by
  unfold sWhile at h
  split at h
  · rename_i q
    have h2 := q.choose_spec.choose_spec
    cases h
    exact ⟨_, h2⟩
  · cases h
theorem pus_while {c : Expr} {body : List Stmt} {fc : Ev → Option Bool} (hc : PuT cm X c fc) (hb : PuB cm X body g) (hp : PassesOwn (model X.prog X.w) X.A X.env X.xe := by exact PassesOwn.never) : PuS cm X (.While c body [] pos) (sWhile fc g) := by
  obtain ⟨t, p, q⟩ := hc
  obtain ⟨tb, p3, q3⟩ := hb
  refine ⟨_, ps_while hp p p3, fun x B F ρ σ H r E ok hf hE => ?_⟩
  obtain ⟨n, hn⟩ := sWhile_some hf
  refine ⟨fun m σ H => ∃ B' F ρ, Ok (gx X cm) x B' F ρ σ H ∧ Same B B' ∧ whGo fc g m ρ = some r, ⟨n, B, F, ρ, ok, Same.refl B, hn⟩, ?_⟩
  rintro m σ2 H2 ⟨B2, F2, ρ2, ok2, bb, er⟩
  cases m with
  | zero => cases er
  | succ m =>
    rw [whGo] at er
    cases e1 : fc ρ2 with
    | none => rw [e1] at er; cases er
    | some k =>
      rw [e1] at er
      simp only [Option.bind_some] at er
      refine q x B2 F2 ρ2 σ2 H2 k _ ok2 e1 fun B3 H3 g3 ok3 => ?_
      cases k with
      | false =>
        simp at er
        subst er
        exact iteF (hE B3 F2 σ2 H3 (bb.trans g3.bb) ok3)
      | true =>
        rw [if_pos rfl] at er
        cases e2 : g ρ2 with
        | none => rw [e2] at er; cases er
        | some s =>
          rw [e2] at er
          simp only [Option.bind_some] at er
          refine iteT ⟨fun σ H => ∃ B' F ρ, Ok (gx X cm) x B' F ρ σ H ∧ Same B B' ∧ whGo fc g m ρ = some r, fun σ' H' h => ⟨m, Nat.lt_succ_self _, h⟩, ?_⟩
          refine q3 x B3 F2 ρ2 σ2 H3 s _ ok3 e2 ?_
          have b13 : Same B B3 := bb.trans g3.bb
          cases s with
          | nx ρ4 => exact fun B' F' σ' H' s ok' => ⟨B', F', ρ4, ok', b13.trans s, er⟩
          | ct ρ4 => exact fun B' F' σ' H' s ok' => ⟨B', F', ρ4, ok', b13.trans s, er⟩
          | bk ρ4 => cases er; exact fun B' F' σ' H' s ok' => hE B' F' σ' H' (b13.trans s) ok'
          | rt d ρ4 => cases er; exact fun v B' F' σ' H' s ok' hi => hE v B' F' σ' H' (b13.trans s) ok' hi
end

/-! ### a def that changes nothing -/
/-- the slots at the entry -/
def ent (n : Nat) (ds : List D) : Ev := ds.map .fz ++ List.replicate (n - ds.length) .emp
/-- what the body b says of the arguments; n: the number of slots, k: of arguments -/
def fnP (n k : Nat) (b : SF) (ds : List D) : Option D := if ds.length = k then (b (ent n ds)).bind fun r => match r with
  | .rt d _ => some d
  | .nx _ => some .non
  | _ => none else none
theorem ok_start {K : PySem.W.Frag} {cm : Nat → Addr} {H : Hp} {ds : List D} {vs : List V} {N : List Str} (h : Iss ⟨K, cm⟩ H ds vs) (hl : ds.length ≤ N.length) :
    Ok ⟨K, cm⟩ ⟨H, H, fun _ => False, L2.start N vs⟩ (tupOf H) (fun _ => []) (ent N.length ds) (L2.start N vs) H where
  kp := Same.refl H
  bh := tupOf_same
  tup := fun a xs e => tupOf_tup e
  born := fun a o e => .inl (tupOf_some e).2
  dom := fun a e => e
  fk := fun i a ha => nomatch ha
  dj := fun i j a ha => nomatch ha
  nd := fun i => List.nodup_nil
  out := fun i _ => rfl
  len := by unfold ent L2.start; simp [h.length]
  at_ := fun i s e => by
    unfold ent at e
    by_cases q : i < ds.length
    · rw [List.getElem?_append_left (by simpa using q), List.getElem?_map] at e
      have e1 : ds[i]? = some ds[i] := List.getElem?_eq_getElem q
      rw [e1] at e
      cases e
      obtain ⟨v, ev, hv⟩ := h.get e1
      refine ⟨rfl, v, ?_, hv⟩
      unfold L2.start
      rw [List.getElem?_append_left (by simpa [h.length] using q), List.getElem?_map, ev]; rfl
    · rw [List.getElem?_append_right (by simpa using q)] at e
      have := List.mem_of_getElem? e
      rw [List.eq_of_mem_replicate this]
      rfl
theorem fn_pure {P : Program} {w : World} {K : PySem.W.Frag} {mg : Str → Option Value} {base : Heap} {cm : Nat → Addr} {x qual : Str} {st : Stmt} {f : Addr} {fd : FuncData} {N ps : List Str} {k : Nat} {b : SF} (F : Fun K x qual st f fd) (S : FnScope N ps (defScope st)) (hN : ps.length ≤ N.length)
    (hb : ∀ (cdv : Value) (A : Around) (outer : List Env) (s : Shared) (H : Hp) (E : XK), Room k (A.deeper (PyProof.Rows.envOfC qual (defScope st) s.heap.objs.size f cdv)) → PuB cm (cxOf CX0 P w K mg base N qual (defScope st) f cdv A outer s H E).nox (defBody st) b) :
    FnOk P w K mg base CX0 (k + 1) f fd ps (spP K cm (fnP N.length ps.length b)) := by
  refine F.ok S (fun vs H Q E h => ?_) (fun cdv A outer s H vs Q E hr h => ?_)
  · obtain ⟨ds, d, h1, h2, _⟩ := h
    unfold fnP at h2
    split at h2
    · rename_i e
      rw [h1.length, e]
    · cases h2
  · obtain ⟨ds, d, h1, h2, h3⟩ := h
    unfold fnP at h2
    split at h2
    · rename_i e
      obtain ⟨t, p, q⟩ := hb cdv A outer s H E hr
      cases e1 : b (ent N.length ds) with
      | none => rw [e1] at h2; cases h2
      | some r =>
        rw [e1] at h2
        simp only [Option.bind_some] at h2
        refine ⟨t, p, q _ _ _ _ _ _ r _ (ok_start (N := N) h1 (by omega)) e1 ?_⟩
        have born : ∀ {v : V} {B : Hp} {F : Nat → List Addr} {ρ : Ev} {σ : St} {H' : Hp} {d : D}, Ok ⟨K, cm⟩ ⟨H, H, fun _ => False, L2.start N vs⟩ B F ρ σ H' → Is ⟨K, cm⟩ B d v → Born ⟨K, cm⟩ H H' d v := fun ok hi => ⟨ok.kp, _, ok.bh, ok.born, hi⟩
        cases r with
        | nx ρ => cases h2; exact fun B F σ H' s ok => h3 _ _ (born ok (v := .non) rfl)
        | rt c ρ => cases h2; exact fun v B F σ H' s ok hi => h3 _ _ (born ok hi)
        | bk => cases h2
        | ct => cases h2
    · cases h2
end DL

/-! DL10: things of one's own: made, found by their way, changed. -/
namespace DL
open PySem L2

def ownD (ρ : Ev) (i : Nat) : Option D := match ρ[i]? with
  | some (.ow d) => some d
  | some (.on d) => some d
  | _ => none
def setOwn (ρ : Ev) (i : Nat) (d : D) : Ev := match ρ[i]? with
  | some (.ow _) => ρ.set i (.ow d)
  | some (.on _) => ρ.set i (.on d)
  | _ => ρ
def onF (F : Nat → List Addr) (i : Nat) (l : List Addr) : Nat → List Addr := fun j => if j = i then l else F j
/-- addresses that no one knows of -/
def Loose (x : Fx) (B : Hp) (F : Nat → List Addr) (a : Addr) : Prop := B a = none ∧ x.Kp a = none ∧ x.H0 a = none ∧ ∀ j, a ∉ F j
section
variable {Γ : Ga} {x : Fx} {B : Hp} {F : Nat → List Addr} {ρ : Ev} {σ : St} {H H' : Hp}
theorem Ok.own (o : Ok Γ x B F ρ σ H) {i : Nat} {d : D} (h : ownD ρ i = some d) : ∃ v, σ[i]? = some (some v) ∧ Own Γ H d v (F i) := by
  unfold ownD at h
  split at h
  · rename_i e; cases h; obtain ⟨v, h1, h2, _⟩ := o.at_ i _ e; exact ⟨v, h1, h2⟩
  · rename_i e; cases h; obtain ⟨v, h1, h2, _⟩ := o.at_ i _ e; exact ⟨v, h1, h2⟩
  · cases h
theorem Ok.write (o : Ok Γ x B F ρ σ H) {i : Nat} {d d' : D} {v : V} {fp : List Addr} (h : ownD ρ i = some d) (hv : σ[i]? = some (some v)) (hk : ∀ a u, a ∉ F i → H a = some u → H' a = some u) (hd : ∀ a, H' a = none → H a = none)
    (ht : ∀ a xs, H' a = some (.tup xs) → H a = some (.tup xs)) (ho : Own Γ H' d' v fp) (hn : fp.Nodup) (hf : ∀ a ∈ fp, a ∈ F i ∨ Loose x B F a) : Ok Γ x B (onF F i fp) (setOwn ρ i d') σ H' := by
  have tk : TupK H H' := fun a xs e => hk a _ (fun z => by obtain ⟨u, hu, bx⟩ := o.box z; rw [e] at hu; cases hu; exact bx) e
  have hlt : i < ρ.length := by
    unfold ownD at h
    split at h
    · rename_i e; exact (List.getElem?_eq_some_iff.mp e).1
    · rename_i e; exact (List.getElem?_eq_some_iff.mp e).1
    · cases h
  have hlen : (setOwn ρ i d').length = ρ.length := by
    unfold setOwn
    split <;> simp
  have other : ∀ j, j ≠ i → (setOwn ρ i d')[j]? = ρ[j]? := fun j hj => by
    unfold setOwn
    split
    · exact List.getElem?_set_ne (Ne.symm hj)
    · exact List.getElem?_set_ne (Ne.symm hj)
    · rfl
  have mem : ∀ j a, a ∈ onF F i fp j → a ∈ F j ∨ (j = i ∧ Loose x B F a) := fun j a ha => by
    unfold onF at ha
    split at ha
    · rename_i q
      subst q
      rcases hf a ha with z | z
      · exact .inl z
      · exact .inr ⟨rfl, z⟩
    · exact .inl ha
  refine ⟨fun a u e => hk a u (fun z => by rw [(o.fk i a z).1] at e; cases e) (o.kp a u e), fun a u e => hk a u (fun z => by rw [(o.fk i a z).2.1] at e; cases e) (o.bh a u e), fun a xs e => o.tup a xs (ht a xs e), o.born, fun a e => o.dom a (hd a e), fun j a ha => ?_, fun j k a h1 h2 => ?_, fun j => ?_, fun j hj => ?_, by rw [hlen, o.len], fun j s hs => ?_⟩
  · rcases mem j a ha with z | ⟨_, z1, z2, z3, _⟩
    · exact o.fk j a z
    · exact ⟨z2, z1, .inr z3⟩
  · rcases mem j a h1 with z1 | ⟨rfl, z1⟩
    · rcases mem k a h2 with z2 | ⟨rfl, z2⟩
      · exact o.dj j k a z1 z2
      · exact absurd z1 (z2.2.2.2 j)
    · rcases mem k a h2 with z2 | ⟨rfl, z2⟩
      · exact absurd z2 (z1.2.2.2 k)
      · rfl
  · unfold onF
    split
    · exact hn
    · exact o.nd j
  · unfold onF
    split
    · rename_i q; subst q; omega
    · exact o.out j (by omega)
  · by_cases q : j = i
    · subst q
      rw [show onF F j fp j = fp from if_pos rfl]
      unfold ownD at h
      unfold setOwn at hs
      split at h
      · rename_i e
        rw [e] at hs
        simp only at hs
        rw [List.getElem?_set_self hlt] at hs
        cases hs
        obtain ⟨v', h1, h2, h3⟩ := o.at_ j _ e
        rw [hv] at h1
        cases h1
        exact ⟨v, hv, ho, h3⟩
      · rename_i e
        rw [e] at hs
        simp only at hs
        rw [List.getElem?_set_self hlt] at hs
        cases hs
        obtain ⟨v', h1, h2, h3⟩ := o.at_ j _ e
        rw [hv] at h1
        cases h1
        refine ⟨v, hv, ho, fun a ha => ?_⟩
        rcases hf a ha with z | z
        · exact h3 a z
        · exact z.2.2.1
      · cases h
    · rw [other j q] at hs
      rw [show onF F i fp j = F j from if_neg q]
      have r := o.at_ j s hs
      have hkk : ∀ a ∈ F j, H' a = H a := fun a ha => by
        obtain ⟨u, hu, _⟩ := o.box ha
        rw [hu, hk a u (fun z => q (o.dj j i a ha z)) hu]
      cases s with
      | ow => obtain ⟨v', q1, q2, q3⟩ := r; exact ⟨v', q1, q2.keep tk hkk, q3⟩
      | on => obtain ⟨v', q1, q2, q3⟩ := r; exact ⟨v', q1, q2.keep tk hkk, q3⟩
      | _ => exact r
/-- a new thing of one's own at a slot -/
theorem Ok.putOn (o : Ok Γ x B F ρ σ H) {i : Nat} {d : D} {v : V} {fp : List Addr} (hi : i < ρ.length) (ho : Own Γ H d v fp) (hn : fp.Nodup) (hf : ∀ a ∈ fp, Loose x B F a) : Ok Γ x B (onF F i fp) (ρ.set i (.on d)) (σ.set i (some v)) H where
  kp := o.kp
  bh := o.bh
  tup := o.tup
  born := o.born
  dom := o.dom
  fk := fun j a ha => by
    unfold onF at ha
    split at ha
    · obtain ⟨h1, h2, h3, _⟩ := hf a ha; exact ⟨h2, h1, .inr h3⟩
    · exact o.fk j a ha
  dj := fun j k a h1 h2 => by
    unfold onF at h1 h2
    split at h1
    · split at h2
      · rename_i q1 q2; rw [q1, q2]
      · exact absurd h2 ((hf a h1).2.2.2 k)
    · split at h2
      · exact absurd h1 ((hf a h2).2.2.2 j)
      · exact o.dj j k a h1 h2
  nd := fun j => by
    unfold onF
    split
    · exact hn
    · exact o.nd j
  out := fun j hj => by
    rw [List.length_set] at hj
    unfold onF
    split
    · omega
    · exact o.out j hj
  len := by rw [List.length_set, List.length_set, o.len]
  at_ := fun j s hs => by
    by_cases q : j = i
    · subst q
      rw [List.getElem?_set_self hi] at hs
      cases hs
      rw [List.getElem?_set_self (by rw [← o.len]; exact hi), show onF F j fp j = fp from if_pos rfl]
      exact ⟨v, rfl, ho, fun a ha => (hf a ha).2.2.1⟩
    · rw [List.getElem?_set_ne (Ne.symm q)] at hs ⊢
      rw [show onF F i fp j = F j from if_neg q]
      exact o.at_ j s hs
theorem Ok.loose {B0 H0 : Hp} (o : Ok Γ x B F ρ σ H) (o0 : Ok Γ x B0 F ρ σ H0) {a : Addr} (h0 : H0 a = none) (hb : B a = none) : Loose x B F a :=
  ⟨hb, Same.free o0.kp h0, o0.dom a h0, fun j hj => by obtain ⟨u, hu, _⟩ := o0.box hj; rw [h0] at hu; cases hu⟩
end

/-! ### a thing made anew (or flat) -/
abbrev NF := Ev → Option D
def PuN (cm : Nat → Addr) (X : Cx) (e : Expr) (f : NF) : Prop :=
  ∃ t, PE X e t ∧ ∀ (x : Fx) (B : Hp) (F : Nat → List Addr) (ρ : Ev) (σ : St) (H : Hp) (d : D) (Q : VK), Ok (gx X cm) x B F ρ σ H → f ρ = some d →
    (∀ v B' H' fp, Gr B H B' H' → Ok (gx X cm) x B' F ρ σ H' → Own (gx X cm) H' d v fp → fp.Nodup → (∀ a ∈ fp, H a = none ∧ B' a = none) → Q v H') → t σ H Q
section
variable {cm : Nat → Addr} {X : Cx} {pos : Pos} {e : Expr} {f : EF}
def nFlat (f : EF) : NF := fun ρ => (f ρ).bind fun a => if flat a.1 = true then some a.1 else none
theorem pn_flat (h : PuE cm X e f) : PuN cm X e (nFlat f) := by
  obtain ⟨t, p, q⟩ := h
  refine ⟨t, p, fun x B F ρ σ H d Q ok hf hQ => ?_⟩
  unfold nFlat at hf
  cases e1 : f ρ with
  | none => rw [e1] at hf; cases hf
  | some a =>
    rw [e1] at hf
    simp only [Option.bind_some] at hf
    split at hf
    · rename_i hfl
      cases hf
      exact q x B F ρ σ H a.1 a.2 Q ok e1 fun v B' H' g ok' hv => hQ v B' H' [] g ok' (Own.ofFlat hfl (hv.is ok')) List.nodup_nil (fun _ h => nomatch h)
    · cases hf
/-- several, one after another -/
def PuNs (cm : Nat → Addr) (X : Cx) (es : List Expr) (f : Ev → Option (List D)) : Prop :=
  ∃ t, PA X es t ∧ ∀ (x : Fx) (B : Hp) (F : Nat → List Addr) (ρ : Ev) (σ : St) (H : Hp) (ds : List D) (Q : List V → Hp → Prop), Ok (gx X cm) x B F ρ σ H → f ρ = some ds →
    (∀ vs B' H' fp, Gr B H B' H' → Ok (gx X cm) x B' F ρ σ H' → Owns (gx X cm) H' ds vs fp → fp.Nodup → (∀ a ∈ fp, H a = none ∧ B' a = none) → Q vs H') → t σ H Q
def nNil : Ev → Option (List D) := fun _ => some []
def nCons (f : NF) (g : Ev → Option (List D)) : Ev → Option (List D) := fun ρ => (f ρ).bind fun a => (g ρ).bind fun r => some (a :: r)
theorem pns_nil : PuNs cm X [] nNil := ⟨_, pa_nil, fun x B F ρ σ H ds Q ok hf hQ => by cases hf; exact hQ [] B H [] (Gr.refl B H) ok ⟨rfl, rfl⟩ List.nodup_nil (fun _ h => nomatch h)⟩
/-- a tree stays over what only grows -/
theorem own_gr {Γ : Ga} {B H B' H' : Hp} {d : D} {v : V} {fp : List Addr} (g : Gr B H B' H') (h : Own Γ H d v fp) : Own Γ H' d v fp := h.keep (TupK.of g.hh) fun a ha => by
  obtain ⟨u, hu, _⟩ := h.box a ha
  rw [hu, g.hh a u hu]
theorem box_gr {B H B' H' : Hp} {a : Addr} {u : HO} (bh : Same B' H') (g : Gr B H B' H') (hb : B a = none) (hu : H a = some u) (bx : Box u) : B' a = none := by
  cases z : B' a with
  | none => rfl
  | some w =>
    have e := bh a w z
    rw [g.hh a u hu] at e
    cases e
    rcases g.new a u z with ⟨xs, rfl⟩ | h | h
    · exact bx.elim
    · rw [hb] at h; cases h
    · rw [hu] at h; cases h
theorem pns_cons {es : List Expr} {f : NF} {g : Ev → Option (List D)} (ha : PuN cm X e f) (hr : PuNs cm X es g) (hs : starEach (e :: es) X.env = (false, eval e X.env) :: starEach es X.env := by rfl) : PuNs cm X (e :: es) (nCons f g) := by
  obtain ⟨t, p, q⟩ := ha
  obtain ⟨u, p2, q2⟩ := hr
  refine ⟨_, pa_cons p p2 hs, fun x B F ρ σ H ds Q ok hf hQ => ?_⟩
  unfold nCons at hf
  cases e1 : f ρ with
  | none => rw [e1] at hf; cases hf
  | some a =>
    rw [e1] at hf
    simp only [Option.bind_some] at hf
    cases e2 : g ρ with
    | none => rw [e2] at hf; cases hf
    | some r =>
      rw [e2] at hf
      cases hf
      refine q x B F ρ σ H a _ ok e1 fun v B1 H1 f1 g1 ok1 o1 n1 l1 => ?_
      refine q2 x B1 F ρ σ H1 r _ ok1 e2 fun vs B2 H2 f2 g2 ok2 o2 n2 l2 => ?_
      refine hQ (v :: vs) B2 H2 (f1 ++ f2) (g1.trans g2) ok2 ⟨v, vs, f1, f2, rfl, own_gr g2 o1, o2, rfl⟩ (List.nodup_append.mpr ⟨n1, n2, ?_⟩) fun b hb => ?_
      · rintro b hb c hc rfl
        obtain ⟨u, hu, _⟩ := o1.box b hb
        rw [(l2 b hc).1] at hu
        cases hu
      · rcases List.mem_append.mp hb with hb | hb
        · obtain ⟨u, hu, bx⟩ := o1.box b hb
          exact ⟨(l1 b hb).1, box_gr ok2.bh g2 (l1 b hb).2 hu bx⟩
        · exact ⟨g1.hh.free (l2 b hb).1, (l2 b hb).2⟩
/-- a new object is laid, unknown -/
theorem Ok.laidH {Γ : Ga} {x : Fx} {B : Hp} {F : Nat → List Addr} {ρ : Ev} {σ : St} {H : Hp} (ok : Ok Γ x B F ρ σ H) {p : Addr} {o : HO} (hp : H p = none) (ho : ∀ xs, o ≠ .tup xs) : Gr B H B (upd H p o) ∧ Ok Γ x B F ρ σ (upd H p o) := by
  have g : Gr B H B (upd H p o) := ⟨same_upd hp, Same.refl B, fun a u e => .inr (.inl e)⟩
  refine ⟨g, ok.grow g.hh g.bb (ok.bh.trans g.hh) (fun a xs e => ?_) g.new⟩
  by_cases q : a = p
  · subst q; rw [upd_same] at e; cases e; exact absurd rfl (ho xs)
  · rw [upd_ne q] at e; exact ok.tup a xs e
def nLst (g : Ev → Option (List D)) : NF := fun ρ => (g ρ).bind fun ds => if ds.length ≤ 16777216 then some (.lst ds) else none
theorem Owns.length {Γ : Ga} {H : Hp} : ∀ {ds : List D} {vs : List V} {fp : List Addr}, Owns Γ H ds vs fp → vs.length = ds.length
  | [], _, _, h => by rw [h.1]; rfl
  | _ :: _, _, _, ⟨v, r, f1, f2, e, _, h2, _⟩ => by subst e; rw [List.length_cons, List.length_cons, Owns.length h2]
theorem pn_lst {es : List Expr} {g : Ev → Option (List D)} (ha : PuNs cm X es g) : PuN cm X (.List es pos) (nLst g) := by
  obtain ⟨t, p, q⟩ := ha
  refine ⟨_, pe_lst p, fun x B F ρ σ H d Q ok hf hQ => ?_⟩
  unfold nLst at hf
  cases e1 : g ρ with
  | none => rw [e1] at hf; cases hf
  | some ds =>
    rw [e1] at hf
    simp only [Option.bind_some] at hf
    split at hf
    · rename_i hl
      cases hf
      refine q x B F ρ σ H ds _ ok e1 fun vs B1 H1 fp g1 ok1 o1 n1 l1 => ⟨by rw [line_eq, o1.length]; exact hl, fun l hlz => ?_⟩
      obtain ⟨g2, ok2⟩ := ok1.laidH (o := .lst vs) hlz (fun xs z => nomatch z)
      have keep : ∀ a ∈ fp, (upd H1 l (.lst vs)) a = H1 a := fun a ha => by
        obtain ⟨u, hu, _⟩ := o1.box a ha
        exact upd_ne fun z => by rw [z, hlz] at hu; cases hu
      refine hQ (.ref l) B1 _ (l :: fp) (g1.trans g2) ok2 ⟨l, vs, fp, rfl, upd_same, o1.keep (TupK.of g2.hh) keep, rfl⟩ (List.nodup_cons.mpr ⟨fun z => ?_, n1⟩) fun a ha => ?_
      · obtain ⟨u, hu, _⟩ := o1.box l z
        rw [hlz] at hu
        cases hu
      · rcases List.mem_cons.mp ha with rfl | ha
        · exact ⟨g1.hh.free hlz, Same.free ok1.bh hlz⟩
        · exact l1 a ha
    · cases hf
def nDic0 : NF := fun _ => some (.dic [])
theorem pn_dic0 : PuN cm X (.Dict [] [] pos) nDic0 := by
  refine ⟨_, pe_dnewK, fun x B F ρ σ H d Q ok hf hQ => ?_⟩
  cases hf
  intro l hlz
  obtain ⟨g2, ok2⟩ := ok.laidH (o := .dK []) hlz (fun xs z => nomatch z)
  refine hQ (.ref l) B _ [l] g2 ok2 ⟨l, [], [], rfl, upd_same, ⟨rfl, rfl⟩, rfl⟩ (by simp) fun a ha => ?_
  rcases List.mem_cons.mp ha with rfl | ha
  · exact ⟨hlz, Same.free ok.bh hlz⟩
  · cases ha
/-- [.. for ..] of flat things -/
def nLc (f : EF) : NF := fun ρ => (f ρ).bind fun a => match a.1 with
  | .lst ds => if flats ds = true then some (.lst ds) else none
  | _ => none
theorem lc_own {own : List (Str × Nat)} {js : List Nat} {wi : TI} {fi : IF} {g : GF} {t : Ev → Option Bool} {e : EF} (q : ∀ (x : Fx) (B : Hp) (F : Nat → List Addr) (ρ : Ev) (σ : St) (H : Hp) (ds : List D) (m : Md) (R : It → Hp → Prop), Ok (gx X cm) x B F ρ σ H → fi ρ = some (ds, m) →
      (∀ J B' H', Gr B H B' H' → Ok (gx X cm) x B' F ρ σ H' → Src (gx X cm) (rgOf x m B' H') ds J → R J H') → wi σ H R) (hjs : ∀ j ∈ js, j ∈ own.map (·.2))
    (x : Fx) (B : Hp) (F : Nat → List Addr) (ρ : Ev) (σ : St) (H : Hp) (d : D) (Q : VK) (ok : Ok (gx X cm) x B F ρ σ H) (hf : nLc (eLc fi (own.map (·.2)) g t e) ρ = some d)
    (hQ : ∀ v B' H' fp, Gr B H B' H' → Ok (gx X cm) x B' F ρ σ H' → Own (gx X cm) H' d v fp → fp.Nodup → (∀ a ∈ fp, H a = none ∧ B' a = none) → Q v H') : tLc wi (tGu (gx X cm) js g) (tPt (gx X cm) t) (tPu (gx X cm) e) (own.map (·.2)) σ H Q := by
  unfold nLc at hf
  cases e1 : eLc fi (own.map (·.2)) g t e ρ with
  | none => rw [e1] at hf; cases hf
  | some a =>
    rw [e1] at hf
    obtain ⟨a, ma⟩ := a
    simp only [Option.bind_some] at hf
    split at hf
    · rename_i ds
      split at hf
      · rename_i hfl
        cases hf
        refine lc_hid q hjs x B F ρ σ H _ ma Q ok e1 fun Dd B2 H2 ys accV g2 ok2 ed em hD b2D hacc iacc => ?_
        cases ed
        refine hQ (.ref Dd) B2 H2 [Dd] g2 ok2 ⟨Dd, accV, [], rfl, hacc, Owns.ofFlat hfl (iacc.mono ok2.bh), rfl⟩ (by simp) fun a ha => ?_
        rcases List.mem_cons.mp ha with rfl | ha
        · exact ⟨hD, b2D⟩
        · cases ha
      · cases hf
    · cases hf
theorem pn_lc {tg iter elt : Expr} {ifs : List Expr} {scope : Scope} {own : List (Str × Nat)} {js : List Nat} {fi : IF} {g : GF} {t : Ev → Option Bool} {e : EF} (hN : X.N.Nodup) (hi : PuI cm X tg iter fi) (ok : BlkOk X.N X.env.scope scope own)
    (hg : ∀ (s : Shared) (H : Hp) (C : Addr) (cl : List (Str × Addr)) (fp : List Addr), PuG cm (X.blk s H scope (compEnvC scope cl C X.env) fp) tg js g)
    (ht : ∀ (s : Shared) (H : Hp) (C : Addr) (cl : List (Str × Addr)) (fp : List Addr), PuTs cm (X.blk s H scope (compEnvC scope cl C X.env) fp) ifs t)
    (he : ∀ (s : Shared) (H : Hp) (C : Addr) (cl : List (Str × Addr)) (fp : List Addr), PuE cm (X.blk s H scope (compEnvC scope cl C X.env) fp) elt e) (hjs : ∀ j ∈ js, j ∈ own.map (·.2) := by decide) (hc : X.calm = true := by rfl) (hs : ∀ x, foldedSetIterable iter X.env x = pure x := by intro _; rfl) :
    PuN cm X (.ListComp elt [⟨tg, iter, ifs, 0⟩] scope pos) (nLc (eLc fi (own.map (·.2)) g t e)) := by
  obtain ⟨wi, p, q⟩ := hi
  exact ⟨_, pe_lc hc hN p ok (fun s H C cl fp => (hg s H C cl fp).can) (fun s H C cl fp => (show PTs (X.blk s H scope (compEnvC scope cl C X.env) fp) ifs (tPt (gx X cm) t) from ht s H C cl fp)) (fun s H C cl fp => (he s H C cl fp).can) hs, lc_own q hjs⟩

/-! ### name = a thing of one's own -/
def sSetN (i : Nat) (f : NF) : SF := fun ρ => (f ρ).bind fun d => (ρ[i]?).bind fun s => if freeS s = true then some (.nx (ρ.set i (.on d))) else none
theorem setN_reads {te : TE} {i : Nat} {f : NF} (q : ∀ (x : Fx) (B : Hp) (F : Nat → List Addr) (ρ : Ev) (σ : St) (H : Hp) (d : D) (Q : VK), Ok (gx X cm) x B F ρ σ H → f ρ = some d →
    (∀ v B' H' fp, Gr B H B' H' → Ok (gx X cm) x B' F ρ σ H' → Own (gx X cm) H' d v fp → fp.Nodup → (∀ a ∈ fp, H a = none ∧ B' a = none) → Q v H') → te σ H Q)
    (x : Fx) (B : Hp) (F : Nat → List Addr) (ρ : Ev) (σ : St) (H : Hp) (r : Fl) (E : Ends) (ok : Ok (gx X cm) x B F ρ σ H) (hf : sSetN i f ρ = some r) (hE : Post (gx X cm) x B r E) : tAsg te (gName i) E σ H := by
  unfold sSetN at hf
  cases e1 : f ρ with
  | none => rw [e1] at hf; cases hf
  | some d =>
    rw [e1] at hf
    simp only [Option.bind_some] at hf
    cases e2 : ρ[i]? with
    | none => rw [e2] at hf; cases hf
    | some s =>
      rw [e2] at hf
      simp only [Option.bind_some] at hf
      split at hf
      · cases hf
        refine q x B F ρ σ H d _ ok e1 fun v B' H' fp g ok' o n l => ?_
        exact hE B' _ _ H' g.bb (ok'.putOn (List.getElem?_eq_some_iff.mp e2).1 o n fun a ha => ok'.loose ok (l a ha).1 (l a ha).2)
      · cases hf
theorem pus_setN (i : Nat) {x : Str} {pos' : Pos} {f : NF} (hN : X.N.Nodup) (he : PuN cm X e f) (hi : X.N[i]? = some x := by rfl) (hx : Loc X.env.scope x := by first | exact .inl rfl | exact .inr rfl)
    (hs : swapsWith e (some (.Name x pos')) pos.line X.env = pure false := by rfl) (hf : X.fn x = true ∨ X.env.scope.names.lookup x = some .local := by first | exact .inl rfl | exact .inr rfl) : PuS cm X (.Assign [.Name x pos'] e pos) (sSetN i f) := by
  obtain ⟨t, p, q⟩ := he
  exact ⟨_, ps_set hN hi hx p hs hf, setN_reads q⟩
theorem pus_setNLc (i : Nat) {y : Str} {py : Pos} {elt tg iter : Expr} {ifs : List Expr} {scope : Scope} {own : List (Str × Nat)} {js : List Nat} {spos : Pos} {fi : IF} {g : GF} {t : Ev → Option Bool} {e : EF} (hN : X.N.Nodup) (hi : PuI cm X tg iter fi) (ok : BlkOk X.N X.env.scope scope own)
    (hg : ∀ (s : Shared) (H : Hp) (C : Addr) (cl : List (Str × Addr)) (fp : List Addr), PuG cm (X.blk s H scope (compEnvC scope cl C X.env) fp) tg js g)
    (ht : ∀ (s : Shared) (H : Hp) (C : Addr) (cl : List (Str × Addr)) (fp : List Addr), PuTs cm (X.blk s H scope (compEnvC scope cl C X.env) fp) ifs t)
    (he : ∀ (s : Shared) (H : Hp) (C : Addr) (cl : List (Str × Addr)) (fp : List Addr), PuE cm (X.blk s H scope (compEnvC scope cl C X.env) fp) elt e)
    (hy : X.N[i]? = some y := by rfl) (hyl : X.env.scope.names.lookup y = some .local := by rfl) (hsw : swapsWith (.ListComp elt [⟨tg, iter, ifs, 0⟩] scope pos) (some (.Name y py)) spos.line X.env = pure true := by exact sw_true rfl rfl rfl (by decide +kernel))
    (hjs : ∀ j ∈ js, j ∈ own.map (·.2) := by decide) (hc : X.calm = true := by rfl) (hs : ∀ x, foldedSetIterable iter X.env x = pure x := by intro _; rfl) :
    PuS cm X (.Assign [.Name y py] (.ListComp elt [⟨tg, iter, ifs, 0⟩] scope pos) spos) (sSetN i (nLc (eLc fi (own.map (·.2)) g t e))) := by
  obtain ⟨wi, p, q⟩ := hi
  exact ⟨_, ps_setLc hc hN hy hyl hsw p ok (fun s H C cl fp => (hg s H C cl fp).can) (fun s H C cl fp => (show PTs (X.blk s H scope (compEnvC scope cl C X.env) fp) ifs (tPt (gx X cm) t) from ht s H C cl fp)) (fun s H C cl fp => (he s H C cl fp).can) hs, setN_reads (lc_own q hjs)⟩

/-! ### known from now on -/
/-- the slot's own thing is from now on only read -/
def froz (ρ : Ev) (i : Nat) : Option Ev := match ρ[i]? with
  | some (.on d) => some (ρ.set i (.fn d))
  | some _ => some ρ
  | none => none
theorem Ok.freeze {Γ : Ga} {x : Fx} {B : Hp} {F : Nat → List Addr} {ρ : Ev} {σ : St} {H : Hp} (o : Ok Γ x B F ρ σ H) {i : Nat} {d : D} (h : ρ[i]? = some (.on d)) : ∃ B', Same B B' ∧ Ok Γ x B' (offF F i) (ρ.set i (.fn d)) σ H := by
  obtain ⟨v, hv, ho, h0⟩ := o.at_ i _ h
  let R : Hp := fun a => if a ∈ F i then H a else none
  have hR : Same R H := fun a u e => by
    show H a = some u
    have e' : (if a ∈ F i then H a else none) = some u := e
    split at e'
    · exact e'
    · cases e'
  have t : Same (tupOf H) H := tupOf_same
  have sB : Same B (jn (tupOf H) B R) := fun a u z => jn_at t o.bh hR (.inr (.inl z))
  have hlt := (List.getElem?_eq_some_iff.mp h).1
  refine ⟨jn (tupOf H) B R, sB, ?_⟩
  refine ⟨o.kp, fun a u z => ?_, fun a xs e => jn_at t o.bh hR (.inl (tupOf_tup e)), fun a u z => ?_, o.dom, fun j a ha => ?_, fun j k a h1 h2 => o.dj j k a (offF_sub h1).1 (offF_sub h2).1, fun j => by unfold offF; split; exact List.nodup_nil; exact o.nd j, fun j hj => ?_, by rw [List.length_set, o.len], fun j s hs => ?_⟩
  · rcases jn_cases z with z | z | z
    · exact t a u z
    · exact o.bh a u z
    · exact hR a u z
  · rcases jn_cases z with z | z | z
    · exact .inl (tupOf_some z).2
    · exact o.born a u z
    · have e' : (if a ∈ F i then H a else none) = some u := z
      split at e'
      · rename_i q; exact .inr (h0 a q)
      · cases e'
  · obtain ⟨ha, hj⟩ := offF_sub ha
    obtain ⟨h1, h2, h3⟩ := o.fk j a ha
    refine ⟨h1, ?_, h3⟩
    cases z : jn (tupOf H) B R a with
    | none => rfl
    | some u =>
      obtain ⟨w, hw, bx⟩ := o.box ha
      rcases jn_cases z with z | z | z
      · obtain ⟨q1, xs, rfl⟩ := tupOf_some z
        rw [hw] at q1
        cases q1
        exact bx.elim
      · rw [h2] at z; cases z
      · have e' : (if a ∈ F i then H a else none) = some u := z
        split at e'
        · rename_i q; exact absurd (o.dj j i a ha q) hj
        · cases e'
  · rw [List.length_set] at hj
    unfold offF
    split
    · rfl
    · exact o.out j hj
  · by_cases q : j = i
    · subst q
      rw [List.getElem?_set_self hlt] at hs
      cases hs
      rw [show offF F j j = [] from if_pos rfl]
      refine ⟨rfl, v, hv, ho.isIn (fun a u z => jn_at t o.bh hR (.inl z)) fun a ha => ?_⟩
      obtain ⟨u, hu, _⟩ := o.box ha
      rw [hu]
      refine jn_at t o.bh hR (.inr (.inr ?_))
      show (if a ∈ F j then H a else none) = some u
      rw [if_pos ha, hu]
    · rw [List.getElem?_set_ne (Ne.symm q)] at hs
      rw [show offF F i j = F j from if_neg q]
      have r := o.at_ j s hs
      cases s with
      | fn => obtain ⟨q1, v', q2, q3⟩ := r; exact ⟨q1, v', q2, q3.mono sB⟩
      | _ => exact r
def bFroz (i : Nat) (g : SF) : SF := fun ρ => (froz ρ i).bind g
theorem pub_froz (i : Nat) {sts : List Stmt} {g : SF} (h : PuB cm X sts g) : PuB cm X sts (bFroz i g) := by
  obtain ⟨t, p, q⟩ := h
  refine ⟨t, p, fun x B F ρ σ H r E ok hf hE => ?_⟩
  unfold bFroz froz at hf
  split at hf
  · rename_i d e
    obtain ⟨B', s, ok'⟩ := ok.freeze e
    exact q x B' _ _ σ H r E ok' hf (hE.mono s)
  · exact q x B F ρ σ H r E ok hf hE
  · cases hf
end

/-! ### the way to a part of one's own -/
/-- at slot i, by the steps p, stands d -/
def wayD (ρ : Ev) (i : Nat) (p : List Stp) : Option D := (ownD ρ i).bind fun d => dgets d p
abbrev WF := Ev → Option (List Stp)
def PuL (cm : Nat → Addr) (X : Cx) (e : Expr) (i : Nat) (f : WF) : Prop :=
  ∃ t, PE X e t ∧ ∀ (x : Fx) (B : Hp) (F : Nat → List Addr) (ρ : Ev) (σ : St) (H : Hp) (p : List Stp) (d : D) (Q : VK), Ok (gx X cm) x B F ρ σ H → f ρ = some p → wayD ρ i p = some d →
    (∀ v v0 B' H', Gr B H B' H' → Ok (gx X cm) x B' F ρ σ H' → σ[i]? = some (some v0) → vgets H' v0 p = some v → Q v H') → t σ H Q
theorem dgets_app : ∀ {p q : List Stp} {d : D}, dgets d (p ++ q) = (dgets d p).bind fun e => dgets e q
  | [], _, _ => rfl
  | s :: p, q, d => by
    rw [List.cons_append, dgets, dgets]
    cases dget d s with
    | none => rfl
    | some e => exact dgets_app
theorem vgets_app {H : Hp} : ∀ {p q : List Stp} {v : V}, vgets H v (p ++ q) = (vgets H v p).bind fun e => vgets H e q
  | [], _, _ => rfl
  | s :: p, q, v => by
    rw [List.cons_append, vgets, vgets]
    cases vget H v s with
    | none => rfl
    | some e => exact vgets_app
section
variable {cm : Nat → Addr} {X : Cx} {pos : Pos} {e : Expr} {f : EF}
theorem wayD_some {ρ : Ev} {i : Nat} {p : List Stp} {d : D} (h : wayD ρ i p = some d) : ∃ d0, ownD ρ i = some d0 ∧ dgets d0 p = some d := by
  unfold wayD at h
  cases e : ownD ρ i with
  | none => rw [e] at h; cases h
  | some d0 => rw [e] at h; exact ⟨d0, rfl, h⟩
/-- the part, and how it is exchanged -/
theorem Ok.part {Γ : Ga} {x : Fx} {B : Hp} {F : Nat → List Addr} {ρ : Ev} {σ : St} {H : Hp} (o : Ok Γ x B F ρ σ H) {i : Nat} {p : List Stp} {d : D} {v v0 : V} (h : wayD ρ i p = some d) (hv : σ[i]? = some (some v0)) (hg : vgets H v0 p = some v) :
    ∃ d0 l fq r, ownD ρ i = some d0 ∧ F i = l ++ fq ++ r ∧ Own Γ H d v fq ∧ ∀ (H' : Hp) (y : D) (fx : List Addr), (∀ a ∈ l ++ r, H' a = H a) → TupK H H' → Own Γ H' y v fx → Own Γ H' (dreps d0 p y) v0 (l ++ fx ++ r) := by
  obtain ⟨d0, e0, e1⟩ := wayD_some h
  obtain ⟨w, hw, ho⟩ := o.own e0
  rw [hv] at hw
  cases hw
  obtain ⟨v', e2, ⟨l, fq, r, ef, hp, hk⟩⟩ := ho.parts e1
  rw [hg] at e2
  cases e2
  exact ⟨d0, l, fq, r, e0, ef, hp, hk⟩
def wN : WF := fun _ => some []
theorem pul_name (i : Nat) {x : Str} (hN : X.N[i]? = some x := by rfl) (hv : Vis X.env.scope x := by first | exact Or.inl rfl | exact Or.inr (Or.inl rfl) | exact Or.inr (Or.inr rfl))
    (hd : (x == ("__debug__" : Str)) = false := by decide) (hcd : (x == ("__classdict__" : Str)) = false := by decide) : PuL cm X (.Name x pos) i wN := by
  refine ⟨_, pe_var hN hv hd hcd, fun z B F ρ σ H p d Q ok hf hw hQ => ?_⟩
  cases hf
  obtain ⟨d0, e0, _⟩ := wayD_some hw
  obtain ⟨v, ev, _⟩ := ok.own e0
  exact ⟨v, ev, hQ v v B H (Gr.refl B H) ok ev rfl⟩
def wFld (n : Nat) (f : Str) (i : Nat) (w : WF) : WF := fun ρ => (w ρ).bind fun p => (wayD ρ i p).bind fun d => match d with
  | .ins c _ => if c = n then some (p ++ [.fd f]) else none
  | _ => none
theorem pul_fld (n : Nat) {f : Str} {i : Nat} {w : WF} (hc : Cls X.K (cm n)) (hn : NoAttr X.K (cm n) f) (ha : PuL cm X e i w) (hb : attributeBase e f X.env (eval e X.env) = eval e X.env := by rfl) : PuL cm X (.Attribute e f pos) i (wFld n f i w) := by
  obtain ⟨t, p, q⟩ := ha
  refine ⟨_, pe_fld p hb, fun z B F ρ σ H p d Q ok hf hw hQ => ?_⟩
  unfold wFld at hf
  cases e1 : w ρ with
  | none => rw [e1] at hf; cases hf
  | some p0 =>
    rw [e1] at hf
    simp only [Option.bind_some] at hf
    cases e2 : wayD ρ i p0 with
    | none => rw [e2] at hf; cases hf
    | some d1 =>
      rw [e2] at hf
      simp only [Option.bind_some] at hf
      split at hf
      · rename_i c fs
        split at hf
        · rename_i hcn
          subst hcn
          cases hf
          refine q z B F ρ σ H p0 _ _ ok e1 e2 fun v v0 B' H' g ok' hv hg => ?_
          obtain ⟨d0, l, fq, r, e0, ef, ho, _⟩ := ok'.part e2 hv hg
          obtain ⟨a, dx, vs, fq', rfl, h1, h2, rfl⟩ := ho
          have e3 : getF fs f = some d := by
            obtain ⟨d0', e0', e1'⟩ := wayD_some hw
            obtain ⟨d0'', e0'', e1''⟩ := wayD_some e2
            rw [e0'] at e0''
            cases e0''
            rw [dgets_app, e1''] at e1'
            simpa [dgets, dget] using e1'
          obtain ⟨v', e4, _⟩ := h2.part e3
          exact ⟨a, cm c, dx, vs, v', rfl, h1, hc, hn, e4, hQ v' v0 B' H' g ok' hv (by rw [vgets_app, hg]; simp only [Option.bind_some, vgets, vget, h1, e4])⟩
        · cases hf
      · cases hf
/-- the step that an index is -/
def stpOf (d k : D) : Option Stp := match d with
  | .dic _ => (keyOf k).map .ky
  | .lst ds => (intD k).bind fun j => (ixN ds.length j).map .ix
  | _ => none
def wIx (i : Nat) (w : WF) (f : EF) : WF := fun ρ => (w ρ).bind fun p => (wayD ρ i p).bind fun d => (f ρ).bind fun k => (stpOf d k.1).map fun s => p ++ [s]
theorem pul_ix {i : Nat} {w : WF} {k : Expr} (hu : X.A.units + 1 < cLine) (ha : PuL cm X e i w) (hk : PuE cm X k f) (hs : PlainIx k := by intro _ _; rfl) : PuL cm X (.Subscript e k pos) i (wIx i w f) := by
  obtain ⟨t, p, q⟩ := ha
  obtain ⟨t2, p2, q2⟩ := hk
  refine ⟨_, pe_ix (ix_seq.or (ix_dict hu)) p p2 hs, fun z B F ρ σ H p d Q ok hf hw hQ => ?_⟩
  unfold wIx at hf
  cases e1 : w ρ with
  | none => rw [e1] at hf; cases hf
  | some p0 =>
    rw [e1] at hf
    simp only [Option.bind_some] at hf
    cases e2 : wayD ρ i p0 with
    | none => rw [e2] at hf; cases hf
    | some d1 =>
      rw [e2] at hf
      simp only [Option.bind_some] at hf
      cases e3 : f ρ with
      | none => rw [e3] at hf; cases hf
      | some kk =>
        rw [e3] at hf
        simp only [Option.bind_some] at hf
        cases e4 : stpOf d1 kk.1 with
        | none => rw [e4] at hf; cases hf
        | some s =>
          rw [e4] at hf
          cases hf
          refine q z B F ρ σ H p0 _ _ ok e1 e2 fun v v0 B1 H1 g1 ok1 hv hg1 => ?_
          refine q2 z B1 F ρ σ H1 kk.1 kk.2 _ ok1 e3 fun u B2 H2 g2 ok2 hu2 => ?_
          have e5 : dget d1 s = some d := by
            obtain ⟨d0', e0', e1'⟩ := wayD_some hw
            obtain ⟨d0'', e0'', e1''⟩ := wayD_some e2
            rw [e0'] at e0''
            cases e0''
            rw [dgets_app, e1''] at e1'
            cases eq : dget d1 s with
            | none => rw [Option.bind_some, dgets, eq] at e1'; cases e1'
            | some y => rw [Option.bind_some, dgets, eq] at e1'; exact e1'
          obtain ⟨d0, l, fq, r, e0, ef, ho, _⟩ := ok1.part e2 hv hg1
          have ho2 := own_gr g2 ho
          -- the way is the same in the later heap
          obtain ⟨d0', e0', e1'⟩ := wayD_some e2
          obtain ⟨w1, hw1, how1⟩ := ok1.own e0'
          rw [hv] at hw1
          cases hw1
          obtain ⟨w2, hw2, how2⟩ := ok2.own e0'
          rw [hv] at hw2
          cases hw2
          have hg2 : vgets H2 v0 p0 = some v := by
            obtain ⟨va, ea, ⟨la, fa, ra, efa, hoa, _⟩⟩ := how2.parts e1'
            have : va = v := by
              have same : ∀ (p : List Stp) (a b c : V), vgets H1 a p = some b → vgets H2 a p = some c → c = b := by
                intro p
                induction p with
                | nil => intro a b c h1 h2; cases h1; cases h2; rfl
                | cons s p ih =>
                  intro a b c h1 h2
                  rw [vgets] at h1 h2
                  cases x1 : vget H1 a s with
                  | none => rw [x1] at h1; cases h1
                  | some y1 =>
                    rw [x1] at h1
                    have x2 : vget H2 a s = some y1 := by
                      cases a with
                      | ref a =>
                        cases s with
                        | ix i =>
                          simp only [vget] at x1 ⊢
                          cases hh : H1 a with
                          | none => rw [hh] at x1; cases x1
                          | some o => rw [hh] at x1; rw [g2.hh a o hh]; exact x1
                        | ky i =>
                          simp only [vget] at x1 ⊢
                          cases hh : H1 a with
                          | none => rw [hh] at x1; cases x1
                          | some o => rw [hh] at x1; rw [g2.hh a o hh]; exact x1
                        | fd i =>
                          simp only [vget] at x1 ⊢
                          cases hh : H1 a with
                          | none => rw [hh] at x1; cases x1
                          | some o => rw [hh] at x1; rw [g2.hh a o hh]; exact x1
                      | _ => cases s <;> simp [vget] at x1
                    rw [x2] at h2
                    exact ih y1 b c h1 h2
              exact same p0 v0 v va hg1 ea
            rw [ea, this]
          obtain ⟨v', e6, _⟩ := ho2.part1 e5
          have fin : Q v' H2 := hQ v' v0 B2 H2 (g1.trans g2) ok2 hv (by rw [vgets_app, hg2]; simp only [Option.bind_some, vgets, e6])
          have huis := hu2.is ok2
          cases d1 with
          | lst ds =>
            obtain ⟨a, vs, fq', rfl, h1, h2, rfl⟩ := ho2
            simp only [stpOf] at e4
            cases ek : intD kk.1 with
            | none => rw [ek] at e4; cases e4
            | some j =>
              rw [ek] at e4
              simp only [Option.bind_some] at e4
              cases ei : ixN ds.length j with
              | none => rw [ei] at e4; cases e4
              | some n =>
                rw [ei] at e4
                cases e4
                have eu : u = .int j := by
                  cases hkk : kk.1 <;> rw [hkk] at ek huis <;> simp [intD] at ek
                  subst ek
                  exact huis
                subst eu
                refine .inl (.inl ⟨a, vs, j, v', rfl, rfl, SqL.of h1, ?_, fin⟩)
                simp only [vget, h1] at e6
                unfold atI
                rw [h2.length, ei]
                exact e6
          | dic kvs =>
            obtain ⟨a, vs, fq', rfl, h1, h2, rfl⟩ := ho2
            simp only [stpOf] at e4
            cases ek : keyOf kk.1 with
            | none => rw [ek] at e4; cases e4
            | some j =>
              rw [ek] at e4
              cases e4
              cases keyOf_is ek huis
              simp only [vget, h1] at e6
              exact .inr ⟨a, v', rfl, by rw [← e6]; exact DGet.k h1, fin⟩
          | _ => simp [stpOf] at e4
end
end DL

/-! DL11: changes of one's own things. -/
namespace DL
open PySem L2

section
variable {Γ : Ga} {x : Fx} {B : Hp} {F : Nat → List Addr} {ρ : Ev} {σ : St} {H : Hp}
theorem ownD_get {ρ : Ev} {i : Nat} {d : D} (h : ownD ρ i = some d) : i < ρ.length := by
  unfold ownD at h
  split at h
  · rename_i e; exact (List.getElem?_eq_some_iff.mp e).1
  · rename_i e; exact (List.getElem?_eq_some_iff.mp e).1
  · cases h
/-- the object at a, the head of a part, is written; what it holds besides may be loose -/
theorem Ok.writePart (o : Ok Γ x B F ρ σ H) {i : Nat} {p : List Stp} {d y : D} {a : Addr} {v0 : V} {u : HO} {fx : List Addr} (hw : wayD ρ i p = some d) (hv : σ[i]? = some (some v0)) (hg : vgets H v0 p = some (.ref a))
    (hu : Box u) (hy : ∀ fq, Own Γ H d (.ref a) (a :: fq) → (a :: fq ++ fx).Nodup → ∃ fz, Own Γ (upd H a u) y (.ref a) fz ∧ fz.Nodup ∧ ∀ b ∈ fz, b ∈ a :: fq ∨ b ∈ fx) (hfx : fx.Nodup) (hl : ∀ b ∈ fx, Loose x B F b) (hbox : ∃ w, H a = some w ∧ Box w) (hda : ∀ fq, Own Γ H d (.ref a) fq → ∃ fr, fq = a :: fr) :
    ∀ d0, ownD ρ i = some d0 → ∃ F', Ok Γ x B F' (setOwn ρ i (dreps d0 p y)) σ (upd H a u) := by
  intro d0' h0'
  obtain ⟨d0, l, fq, r, e0, ef, ho, hk⟩ := o.part hw hv hg
  rw [h0'] at e0
  cases e0
  obtain ⟨fr, rfl⟩ := hda fq ho
  have nd := o.nd i
  rw [ef] at nd
  have hna : ∀ b ∈ l ++ r, b ≠ a := by
    rintro b hb rfl
    rw [List.nodup_append, List.nodup_append] at nd
    rcases List.mem_append.mp hb with hb | hb
    · exact nd.1.2.2 b hb b (by simp) rfl
    · exact nd.2.2 b (by simp) b hb rfl
  have hnd : (a :: fr).Nodup := by
    rw [List.nodup_append, List.nodup_append] at nd
    exact nd.1.2.1
  have memF : ∀ b ∈ a :: fr, b ∈ F i := fun b hb => by rw [ef]; simp only [List.mem_append]; exact .inl (.inr hb)
  obtain ⟨fz, hz, hzn, hzm⟩ := hy fr ho (by
    show ((a :: fr) ++ fx).Nodup
    refine List.nodup_append.mpr ⟨hnd, hfx, ?_⟩
    rintro b hb c hc rfl
    exact (hl b hc).2.2.2 i (memF b hb))
  have tk : TupK H (upd H a u) := TupK.upd (by
    obtain ⟨w, hw, bw⟩ := hbox
    intro xs e
    rw [hw] at e
    cases e
    exact bw.elim)
  have hnew := hk (upd H a u) y fz (fun b hb => upd_ne (hna b hb)) tk hz
  refine ⟨_, o.write h0' hv (fun b w hb hw => ?_) (fun b hb => ?_) (fun b xs hb => ?_) hnew ?_ fun b hb => ?_⟩
  · rw [upd_ne]
    · exact hw
    · rintro rfl
      exact hb (memF b (by simp))
  · by_cases q : b = a
    · subst q; rw [upd_same] at hb; cases hb
    · rw [upd_ne q] at hb; exact hb
  · by_cases q : b = a
    · subst q
      rw [upd_same] at hb
      cases hb
      exact hu.elim
    · rw [upd_ne q] at hb; exact hb
  · rw [List.nodup_append, List.nodup_append] at nd ⊢
    refine ⟨⟨nd.1.1, hzn, ?_⟩, nd.2.1, ?_⟩
    · rintro b hb c hc rfl
      rcases hzm b hc with z | z
      · exact nd.1.2.2 b hb b z rfl
      · exact (hl b z).2.2.2 i (by rw [ef]; simp [hb])
    · rintro b hb c hc rfl
      rcases List.mem_append.mp hb with hb | hb
      · exact nd.2.2 b (by simp [hb]) b hc rfl
      · rcases hzm b hb with z | z
        · exact nd.2.2 b (List.mem_append_right _ z) b hc rfl
        · exact (hl b z).2.2.2 i (by rw [ef]; simp [hc])
  · rcases List.mem_append.mp hb with hb | hb
    · rcases List.mem_append.mp hb with hb | hb
      · exact .inl (by rw [ef]; simp [hb])
      · rcases hzm b hb with z | z
        · exact .inl (memF b z)
        · exact .inr (hl b z)
    · exact .inl (by rw [ef]; simp [hb])
/-- behind what only grows the way is the same -/
theorem vgets_gr {B H B' H' : Hp} (g : Gr B H B' H') : ∀ {p : List Stp} {a b : V}, vgets H a p = some b → vgets H' a p = some b
  | [], _, _, h => h
  | s :: p, a, b, h => by
    rw [vgets] at h ⊢
    cases x1 : vget H a s with
    | none => rw [x1] at h; cases h
    | some y1 =>
      rw [x1] at h
      have x2 : vget H' a s = some y1 := by
        cases a with
        | ref a =>
          cases s with
          | ix i =>
            simp only [vget] at x1 ⊢
            cases hh : H a with
            | none => rw [hh] at x1; cases x1
            | some o => rw [hh] at x1; rw [g.hh a o hh]; exact x1
          | ky i =>
            simp only [vget] at x1 ⊢
            cases hh : H a with
            | none => rw [hh] at x1; cases x1
            | some o => rw [hh] at x1; rw [g.hh a o hh]; exact x1
          | fd i =>
            simp only [vget] at x1 ⊢
            cases hh : H a with
            | none => rw [hh] at x1; cases x1
            | some o => rw [hh] at x1; rw [g.hh a o hh]; exact x1
        | _ => cases s <;> simp [vget] at x1
      rw [x2]
      exact vgets_gr g h
theorem Owns.snoc {Γ : Ga} {H : Hp} : ∀ {ds : List D} {vs : List V} {fp fx : List Addr} {d : D} {v : V}, Owns Γ H ds vs fp → Own Γ H d v fx → Owns Γ H (ds ++ [d]) (vs ++ [v]) (fp ++ fx)
  | [], _, _, fx, d, v, h, k => by
    obtain ⟨rfl, rfl⟩ := h
    exact ⟨v, [], fx, [], rfl, k, ⟨rfl, rfl⟩, by simp⟩
  | _ :: _, _, _, fx, d, v, ⟨u, r, f1, f2, e, h1, h2, ef⟩, k => by
    subst e ef
    exact ⟨u, r ++ [v], f1, f2 ++ fx, rfl, h1, Owns.snoc h2 k, by simp⟩
theorem Owns.app {Γ : Ga} {H : Hp} : ∀ {ds es : List D} {vs us : List V} {fp fx : List Addr}, Owns Γ H ds vs fp → Owns Γ H es us fx → Owns Γ H (ds ++ es) (vs ++ us) (fp ++ fx)
  | [], _, _, _, _, fx, h, k => by
    obtain ⟨rfl, rfl⟩ := h
    exact k
  | _ :: _, _, _, _, _, fx, ⟨u, r, f1, f2, e, h1, h2, ef⟩, k => by
    subst e ef
    exact ⟨u, r ++ _, f1, f2 ++ fx, rfl, h1, Owns.app h2 k, by simp⟩
end

section
variable {cm : Nat → Addr} {X : Cx} {pos : Pos} {e e2 : Expr} {f : EF} {nf : NF} {i : Nat} {w : WF}
/-! ### P.append(e) -/
def putW (ρ : Ev) (i : Nat) (p : List Stp) (y : D) : Option Ev := (ownD ρ i).map fun d0 => setOwn ρ i (dreps d0 p y)
def sApp (i : Nat) (w : WF) (f : NF) : SF := fun ρ => (w ρ).bind fun p => (wayD ρ i p).bind fun d => (f ρ).bind fun y => match d with
  | .lst ds => if ds.length < 16777216 then (putW ρ i p (.lst (ds ++ [y]))).map .nx else none
  | _ => none
theorem own_lst {Γ : Ga} {H : Hp} {ds : List D} {v : V} {fp : List Addr} (h : Own Γ H (.lst ds) v fp) : ∃ a vs fq, v = .ref a ∧ H a = some (.lst vs) ∧ Owns Γ H ds vs fq ∧ fp = a :: fq := h
theorem pus_app {apos : Pos} {pos2 : Pos} (hP : PuL cm X e i w) (hv : PuN cm X e2 nf) (hs : swapsWith (.Call (.Attribute e "append" apos) [e2] [] pos) none pos2.line X.env = pure false := by rfl)
    (hbase : attributeBase e "append" X.env (eval e X.env) = eval e X.env := by rfl)
    (hfew : ((backTo pos (starEach [e2] X.env)).all (fun x => !x.1) && (backToKw pos (keywordEach [] X.env)).all (fun x => x.1.isSome)
      && decide ([e2].length + ([] : List Keyword).length + (if ([] : List Keyword).isEmpty then 0 else 1) < 30)) = true := by rfl)
    (hline : (apos.endLine == pos.line) = true := by rfl) (hst : starEach [e2] X.env = (false, eval e2 X.env) :: starEach [] X.env := by rfl) (hplain : (backTo pos (starEach [] X.env)).any (·.1) = false := by rfl) :
    PuS cm X (.Expr (.Call (.Attribute e "append" apos) [e2] [] pos) pos2) (sApp i w nf) := by
  obtain ⟨t, p, q⟩ := hP
  obtain ⟨t2, p2, q2⟩ := hv
  refine ⟨_, ps_expr (pe_bm PySem.F.plainAttrs_list PySem.F.slot_list_append PySem.F.type_list_append mt_append p (pa_cons p2 pa_nil hst) hbase hfew hline hst hplain) hs, fun x B F ρ σ H r E ok hf hE => ?_⟩
  unfold sApp at hf
  cases e1 : w ρ with
  | none => rw [e1] at hf; cases hf
  | some pth =>
    rw [e1] at hf
    simp only [Option.bind_some] at hf
    cases ew : wayD ρ i pth with
    | none => rw [ew] at hf; cases hf
    | some d =>
      rw [ew] at hf
      simp only [Option.bind_some] at hf
      cases en : nf ρ with
      | none => rw [en] at hf; cases hf
      | some y =>
        rw [en] at hf
        simp only [Option.bind_some] at hf
        split at hf
        · rename_i ds
          split at hf
          · rename_i hlen
            obtain ⟨d0, ho0, _⟩ := wayD_some ew
            rw [putW, ho0] at hf
            cases hf
            refine q x B F ρ σ H pth _ _ ok e1 ew fun v v0 B1 H1 g1 ok1 hv0 hg1 => ?_
            obtain ⟨_, l, fq, rr, _, _, ho, _⟩ := ok1.part ew hv0 hg1
            obtain ⟨a, vs, fr, rfl, h1, h2, rfl⟩ := own_lst ho
            refine ⟨.inl ⟨rfl, _, SqL.of h1⟩, ?_⟩
            refine q2 x B1 F ρ σ H1 y _ ok1 en fun u B2 H2 fx g2 ok2 ou nu lu => ?_
            have h1' := g2.hh _ _ h1
            have hlv : vs.length = ds.length := h2.length
            refine ⟨a, vs, u, rfl, rfl, h1', by rw [line_eq]; omega, ?_⟩
            obtain ⟨F', ok3⟩ := ok2.writePart (y := .lst (ds ++ [y])) (u := .lst (vs ++ [u])) (fx := fx) ew hv0 (vgets_gr g2 hg1) trivial (fun fq2 hq nq => by
                obtain ⟨a', vs', fr', ea, k1, k2, ef⟩ := own_lst hq
                cases ea
                rw [h1'] at k1
                cases k1
                cases ef
                have hkeep : ∀ b, b ≠ a → (upd H2 a (.lst (vs ++ [u]))) b = H2 b := fun b hb => upd_ne hb
                have tk : TupK H2 (upd H2 a (.lst (vs ++ [u]))) := TupK.upd (by intro xs z; rw [h1'] at z; cases z)
                rw [List.cons_append, List.nodup_cons] at nq
                refine ⟨a :: (fq2 ++ fx), ⟨a, vs ++ [u], fq2 ++ fx, rfl, upd_same, (k2.keep tk fun b hb => hkeep b fun z => nq.1 (by rw [← z]; simp [hb])).snoc (ou.keep tk fun b hb => hkeep b fun z => nq.1 (by rw [← z]; simp [hb])), rfl⟩, List.nodup_cons.mpr nq, fun b hb => ?_⟩
                rcases List.mem_cons.mp hb with rfl | hb
                · exact .inl (by simp)
                · rcases List.mem_append.mp hb with hb | hb
                  · exact .inl (by simp [hb])
                  · exact .inr hb) nu (fun b hb => ok2.loose ok1 (lu b hb).1 (lu b hb).2) ⟨_, h1', trivial⟩ (fun fq hq => by
                obtain ⟨a', vs', fr', ea, _, _, ef⟩ := own_lst hq
                cases ea
                exact ⟨fr', ef⟩) d0 ho0
            exact hE B2 F' σ _ (g1.bb.trans g2.bb) ok3
          · cases hf
        · cases hf
/-! ### P.extend(e) -/
def sExt (i : Nat) (w : WF) (f : EF) : SF := fun ρ => (w ρ).bind fun p => (wayD ρ i p).bind fun d => (f ρ).bind fun y => match d, y.1 with
  | .lst ds, .lst es => if flats es = true ∧ ds.length + es.length ≤ 16777216 then (putW ρ i p (.lst (ds ++ es))).map .nx else none
  | _, _ => none
theorem pus_ext {apos : Pos} {pos2 : Pos} (hP : PuL cm X e i w) (hv : PuE cm X e2 f) (hs : swapsWith (.Call (.Attribute e "extend" apos) [e2] [] pos) none pos2.line X.env = pure false := by rfl)
    (hbase : attributeBase e "extend" X.env (eval e X.env) = eval e X.env := by rfl)
    (hfew : ((backTo pos (starEach [e2] X.env)).all (fun x => !x.1) && (backToKw pos (keywordEach [] X.env)).all (fun x => x.1.isSome)
      && decide ([e2].length + ([] : List Keyword).length + (if ([] : List Keyword).isEmpty then 0 else 1) < 30)) = true := by rfl)
    (hline : (apos.endLine == pos.line) = true := by rfl) (hst : starEach [e2] X.env = (false, eval e2 X.env) :: starEach [] X.env := by rfl) (hplain : (backTo pos (starEach [] X.env)).any (·.1) = false := by rfl) :
    PuS cm X (.Expr (.Call (.Attribute e "extend" apos) [e2] [] pos) pos2) (sExt i w f) := by
  obtain ⟨t, p, q⟩ := hP
  obtain ⟨t2, p2, q2⟩ := hv
  refine ⟨_, ps_expr (pe_bm PySem.F.plainAttrs_list PySem.F.slot_list_extend PySem.F.type_list_extend mt_extend p (pa_cons p2 pa_nil hst) hbase hfew hline hst hplain) hs, fun x B F ρ σ H r E ok hf hE => ?_⟩
  unfold sExt at hf
  cases e1 : w ρ with
  | none => rw [e1] at hf; cases hf
  | some pth =>
    rw [e1] at hf
    simp only [Option.bind_some] at hf
    cases ew : wayD ρ i pth with
    | none => rw [ew] at hf; cases hf
    | some d =>
      rw [ew] at hf
      simp only [Option.bind_some] at hf
      cases en : f ρ with
      | none => rw [en] at hf; cases hf
      | some y =>
        rw [en] at hf
        obtain ⟨y, my⟩ := y
        simp only [Option.bind_some] at hf
        split at hf
        · rename_i ds es
          split at hf
          · rename_i hlen
            obtain ⟨d0, ho0, _⟩ := wayD_some ew
            rw [putW, ho0] at hf
            cases hf
            refine q x B F ρ σ H pth _ _ ok e1 ew fun v v0 B1 H1 g1 ok1 hv0 hg1 => ?_
            obtain ⟨_, l, fq, rr, _, _, ho, _⟩ := ok1.part ew hv0 hg1
            obtain ⟨a, vs, fr, rfl, h1, h2, rfl⟩ := own_lst ho
            refine ⟨.inl ⟨rfl, _, SqL.of h1⟩, ?_⟩
            refine q2 x B1 F ρ σ H1 _ _ _ ok1 en fun u B2 H2 g2 ok2 hu => ?_
            obtain ⟨b, us, rfl, k1, k2⟩ := hu.is ok2
            have h1' := g2.hh _ _ h1
            have hlv : vs.length = ds.length := h2.length
            refine ⟨a, b, vs, us, rfl, rfl, h1', k1, by rw [line_eq, k2.length]; omega, ?_⟩
            obtain ⟨F', ok3⟩ := ok2.writePart (y := .lst (ds ++ es)) (u := .lst (vs ++ us)) (fx := []) ew hv0 (vgets_gr g2 hg1) trivial (fun fq2 hq nq => by
                obtain ⟨a', vs', fr', ea, k1', k2', ef⟩ := own_lst hq
                cases ea
                rw [h1'] at k1'
                cases k1'
                cases ef
                have hkeep : ∀ b, b ≠ a → (upd H2 a (.lst (vs ++ us))) b = H2 b := fun b hb => upd_ne hb
                have tk : TupK H2 (upd H2 a (.lst (vs ++ us))) := TupK.upd (by intro xs z; rw [h1'] at z; cases z)
                rw [List.append_nil] at nq
                have nq' := List.nodup_cons.mp nq
                have oe : Owns (gx X cm) (upd H2 a (.lst (vs ++ us))) es us [] := (Owns.ofFlat hlen.1 k2).keep tk (fun _ h => nomatch h)
                refine ⟨a :: fq2, ⟨a, vs ++ us, fq2 ++ [], rfl, upd_same, (k2'.keep tk fun b hb => hkeep b fun z => nq'.1 (by rw [← z]; exact hb)).app oe, by simp⟩, nq, fun b hb => .inl hb⟩) List.nodup_nil (fun _ h => nomatch h) ⟨_, h1', trivial⟩ (fun fq hq => by
                obtain ⟨a', vs', fr', ea, _, _, ef⟩ := own_lst hq
                cases ea
                exact ⟨fr', ef⟩) d0 ho0
            exact hE B2 F' σ _ (g1.bb.trans g2.bb) ok3
          · cases hf
        · cases hf

/-! ### P[k] = e -/
def putG {β : Type} (kvs : List (Key × β)) (k : Key) (x : β) : List (Key × β) :=
  if (kvs.any fun kv => decide (kv.1 = k)) = true then kvs.map (fun kv => if kv.1 = k then (kv.1, x) else kv) else kvs ++ [(k, x)]
def cntK {β : Type} (kvs : List (Key × β)) (k : Key) : Nat := (kvs.filter fun kv => decide (kv.1 = k)).length
theorem OwnK.keys {Γ : Ga} {H : Hp} : ∀ {ds : List (Key × D)} {vs : List (Key × V)} {fp : List Addr}, OwnK Γ H ds vs fp → vs.map (·.1) = ds.map (·.1)
  | [], _, _, h => by rw [h.1]; rfl
  | (k, d) :: r, _, _, ⟨v, s, f1, f2, e, _, h2, _⟩ => by subst e; rw [List.map_cons, List.map_cons, OwnK.keys h2]
theorem any_keys {β γ : Type} {a : List (Key × β)} {b : List (Key × γ)} (h : a.map (·.1) = b.map (·.1)) (k : Key) : (a.any fun kv => decide (kv.1 = k)) = (b.any fun kv => decide (kv.1 = k)) := by
  have e1 : (a.any fun kv => decide (kv.1 = k)) = (a.map (·.1)).any fun j => decide (j = k) := by rw [List.any_map]; rfl
  have e2 : (b.any fun kv => decide (kv.1 = k)) = (b.map (·.1)).any fun j => decide (j = k) := by rw [List.any_map]; rfl
  rw [e1, e2, h]
theorem OwnK.snoc {Γ : Ga} {H : Hp} : ∀ {ds : List (Key × D)} {vs : List (Key × V)} {fp fx : List Addr} {k : Key} {d : D} {v : V}, OwnK Γ H ds vs fp → Own Γ H d v fx → OwnK Γ H (ds ++ [(k, d)]) (vs ++ [(k, v)]) (fp ++ fx)
  | [], _, _, fx, k, d, v, h, o => by
    obtain ⟨rfl, rfl⟩ := h
    exact ⟨v, [], fx, [], rfl, o, ⟨rfl, rfl⟩, by simp⟩
  | (k0, d0) :: _, _, _, fx, k, d, v, ⟨u, r, f1, f2, e, h1, h2, ef⟩, o => by
    subst e ef
    exact ⟨u, r ++ [(k, v)], f1, f2 ++ fx, rfl, h1, OwnK.snoc h2 o, by simp⟩
theorem cnt_none {β : Type} {k : Key} : ∀ {kvs : List (Key × β)}, cntK kvs k = 0 → ∀ x : β, kvs.map (fun kv => if kv.1 = k then (kv.1, x) else kv) = kvs
  | [], _, _ => rfl
  | (k0, d) :: r, h, x => by
    by_cases q : k0 = k
    · simp [cntK, q] at h
    · have h2 : cntK r k = 0 := by simpa [cntK, q] using h
      rw [List.map_cons, if_neg (show ¬ (k0, d).1 = k from q), cnt_none h2]
theorem OwnK.repl {Γ : Ga} {H : Hp} {k : Key} {x : D} {v : V} {fx : List Addr} (hx : Own Γ H x v fx) : ∀ {ds : List (Key × D)} {vs : List (Key × V)} {fp : List Addr}, OwnK Γ H ds vs fp → (fx = [] ∨ cntK ds k ≤ 1) → (fp ++ fx).Nodup →
    ∃ fz, OwnK Γ H (ds.map fun kv => if kv.1 = k then (kv.1, x) else kv) (vs.map fun kv => if kv.1 = k then (kv.1, v) else kv) fz ∧ fz.Nodup ∧ ∀ b ∈ fz, b ∈ fp ∨ b ∈ fx
  | [], _, _, h, _, _ => by
    obtain ⟨rfl, rfl⟩ := h
    exact ⟨[], ⟨rfl, rfl⟩, List.nodup_nil, fun _ h => nomatch h⟩
  | (k0, d) :: r, _, _, ⟨u, s, f1, f2, e, h1, h2, ef⟩, hc, hn => by
    subst e ef
    have hn2 : (f2 ++ fx).Nodup := by
      rw [List.append_assoc] at hn
      exact (List.nodup_append.mp hn).2.1
    by_cases q : k0 = k
    · rw [List.map_cons, List.map_cons, if_pos (show (k0, d).1 = k from q), if_pos (show (k0, u).1 = k from q)]
      rcases hc with rfl | hc
      · obtain ⟨fz, o, n, m⟩ := OwnK.repl hx h2 (.inl rfl) hn2
        exact ⟨[] ++ fz, ⟨v, _, [], fz, rfl, hx, o, rfl⟩, by simpa using n, fun b hb => (m b (by simpa using hb)).imp (fun z => by simp [z]) id⟩
      · have c0 : cntK r k = 0 := by simpa [cntK, q] using hc
        have cs : cntK s k = 0 := by
          have ek := h2.keys
          have e1 : cntK s k = ((s.map (·.1)).filter fun j => decide (j = k)).length := by unfold cntK; rw [List.filter_map, List.length_map]; rfl
          have e2 : cntK r k = ((r.map (·.1)).filter fun j => decide (j = k)).length := by unfold cntK; rw [List.filter_map, List.length_map]; rfl
          rw [e1, ek, ← e2, c0]
        rw [cnt_none c0, cnt_none cs]
        refine ⟨fx ++ f2, ⟨v, s, fx, f2, rfl, hx, h2, rfl⟩, ?_, fun b hb => ?_⟩
        · rw [List.nodup_append] at hn2 ⊢
          exact ⟨hn2.2.1, hn2.1, fun a ha b hb e => hn2.2.2 b hb a ha e.symm⟩
        · rcases List.mem_append.mp hb with hb | hb
          · exact .inr hb
          · exact .inl (by simp [hb])
    · rw [List.map_cons, List.map_cons, if_neg (show ¬ (k0, d).1 = k from q), if_neg (show ¬ (k0, u).1 = k from q)]
      have hc2 : fx = [] ∨ cntK r k ≤ 1 := hc.imp id fun z => by simpa [cntK, q] using z
      obtain ⟨fz, o, n, m⟩ := OwnK.repl hx h2 hc2 hn2
      refine ⟨f1 ++ fz, ⟨u, _, f1, fz, rfl, h1, o, rfl⟩, ?_, fun b hb => ?_⟩
      · rw [List.append_assoc, List.nodup_append] at hn
        refine List.nodup_append.mpr ⟨hn.1, n, fun a ha b hb e => ?_⟩
        rcases m b hb with z | z
        · exact hn.2.2 a ha b (by simp [z]) e
        · exact hn.2.2 a ha b (by simp [z]) e
      · rcases List.mem_append.mp hb with hb | hb
        · exact .inl (by simp [hb])
        · exact (m b hb).imp (fun z => by simp [z]) id
theorem OwnK.put {Γ : Ga} {H : Hp} {k : Key} {x : D} {v : V} {fx : List Addr} (hx : Own Γ H x v fx) {ds : List (Key × D)} {vs : List (Key × V)} {fp : List Addr} (h : OwnK Γ H ds vs fp) (hc : fx = [] ∨ cntK ds k ≤ 1) (hn : (fp ++ fx).Nodup) :
    ∃ fz, OwnK Γ H (putG ds k x) (putK vs k v) fz ∧ fz.Nodup ∧ ∀ b ∈ fz, b ∈ fp ∨ b ∈ fx := by
  unfold putG putK
  rw [any_keys h.keys k]
  split
  · exact OwnK.repl hx h hc hn
  · exact ⟨fp ++ fx, h.snoc hx, hn, fun b hb => List.mem_append.mp hb⟩
theorem Owns.put {Γ : Ga} {H : Hp} {x : D} {v : V} {fx : List Addr} (hx : Own Γ H x v fx) : ∀ {ds : List D} {vs : List V} {fp : List Addr} (j : Nat), Owns Γ H ds vs fp → (fp ++ fx).Nodup →
    ∃ fz, Owns Γ H (ds.set j x) (vs.set j v) fz ∧ fz.Nodup ∧ ∀ b ∈ fz, b ∈ fp ∨ b ∈ fx
  | [], _, _, _, h, _ => by
    obtain ⟨rfl, rfl⟩ := h
    exact ⟨[], ⟨rfl, rfl⟩, List.nodup_nil, fun _ h => nomatch h⟩
  | d :: r, _, _, 0, ⟨u, s, f1, f2, e, h1, h2, ef⟩, hn => by
    subst e ef
    have hn2 : (f2 ++ fx).Nodup := by
      rw [List.append_assoc] at hn
      exact (List.nodup_append.mp hn).2.1
    refine ⟨fx ++ f2, ⟨v, s, fx, f2, rfl, hx, h2, rfl⟩, ?_, fun b hb => ?_⟩
    · rw [List.nodup_append] at hn2 ⊢
      exact ⟨hn2.2.1, hn2.1, fun a ha b hb e => hn2.2.2 b hb a ha e.symm⟩
    · rcases List.mem_append.mp hb with hb | hb
      · exact .inr hb
      · exact .inl (by simp [hb])
  | d :: r, _, _, j + 1, ⟨u, s, f1, f2, e, h1, h2, ef⟩, hn => by
    subst e ef
    have hn2 : (f2 ++ fx).Nodup := by
      rw [List.append_assoc] at hn
      exact (List.nodup_append.mp hn).2.1
    obtain ⟨fz, o, n, m⟩ := Owns.put hx j h2 hn2
    refine ⟨f1 ++ fz, ⟨u, _, f1, fz, rfl, h1, o, rfl⟩, ?_, fun b hb => ?_⟩
    · rw [List.append_assoc, List.nodup_append] at hn
      refine List.nodup_append.mpr ⟨hn.1, n, fun a ha b hb e => ?_⟩
      rcases m b hb with z | z
      · exact hn.2.2 a ha b (by simp [z]) e
      · exact hn.2.2 a ha b (by simp [z]) e
    · rcases List.mem_append.mp hb with hb | hb
      · exact .inl (by simp [hb])
      · exact (m b hb).imp (fun z => by simp [z]) id
/-- the container with the item exchanged (or put in) -/
def itemD (d k y : D) : Option D := match d with
  | .dic kvs => (keyOf k).bind fun k => if kvs.length < 16777216 ∧ (flat y = true ∨ cntK kvs k ≤ 1) then some (.dic (putG kvs k y)) else none
  | .lst ds => (intD k).bind fun j => (ixN ds.length j).map fun n => .lst (ds.set n y)
  | _ => none
def rSetA : V → V → V → Hp → (Hp → Prop) → Prop := fun o i v H Q => rSetL o i v H Q ∨ ∃ a H', o = .ref a ∧ DPut H a i v H' ∧ Q H'
theorem set_any (hu : X.A.units + 1 < cLine) : PSet X rSetA := by
  intro pins s σ H o i v ov iv u Q I ro ri rv h
  rcases h with h | ⟨a, H', rfl, g, q⟩
  · exact set_list pins s σ H o i v ov iv u Q I ro ri rv h
  · cases ro
    exact d_setItem hu I g ri rv fun s' I' => ⟨H', I', q⟩
theorem own_flat_nil {Γ : Ga} {H : Hp} {d : D} {v : V} {fp : List Addr} (f : flat d = true) (h : Own Γ H d v fp) : fp = [] := by
  cases d with
  | non => exact h.2
  | bl => exact h.2
  | int => exact h.2
  | str => exact h.2
  | tup => exact h.2
  | scr => cases h
  | lst => simp [flat] at f
  | dic => simp [flat] at f
  | ins => simp [flat] at f
/-- the store itself: the state behind -/
theorem item_write {x : Fx} {B B1 : Hp} {F : Nat → List Addr} {ρ : Ev} {σ : St} {H H1 : Hp} {pth : List Stp} {d k y z d0 : D} {v v0 u ku : V} {fx : List Addr} {Q : Hp → Prop} (ok1 : Ok (gx X cm) x B1 F ρ σ H1) (ok : Ok (gx X cm) x B F ρ σ H) (g : Gr B1 H1 B H) (ew : wayD ρ i pth = some d) (ho0 : ownD ρ i = some d0)
    (hv0 : σ[i]? = some (some v0)) (hg : vgets H v0 pth = some v) (ek : Is (gx X cm) H k ku) (ou : Own (gx X cm) H y u fx) (nu : fx.Nodup) (lu : ∀ a ∈ fx, H1 a = none ∧ B a = none) (hz : itemD d k y = some z)
    (hQ : ∀ H' F', Ok (gx X cm) x B F' (setOwn ρ i (dreps d0 pth z)) σ H' → Q H') : rSetA v ku u H Q := by
  obtain ⟨_, l, fq, rr, _, _, ho, _⟩ := ok.part ew hv0 hg
  unfold itemD at hz
  split at hz
  · rename_i kvs
    obtain ⟨a, vs, fr, rfl, h1, h2, rfl⟩ := ho
    cases e1 : keyOf k with
    | none => rw [e1] at hz; cases hz
    | some kk =>
      rw [e1] at hz
      simp only [Option.bind_some] at hz
      split at hz
      · rename_i hc
        cases hz
        cases keyOf_is e1 ek
        have hlen : vs.length = kvs.length := by have := congrArg List.length h2.keys; simpa using this
        refine .inr ⟨a, _, rfl, DPut.k h1 (by rw [line_eq, hlen]; exact hc.1), ?_⟩
        obtain ⟨F', ok3⟩ := ok.writePart (y := .dic (putG kvs kk y)) (u := .dK (putK vs kk u)) (fx := fx) ew hv0 hg trivial (fun fq2 hq nq => by
            obtain ⟨a', vs', fr', ea, k1', k2', ef⟩ := hq
            cases ea
            rw [h1] at k1'
            cases k1'
            cases ef
            have hkeep : ∀ b, b ≠ a → (upd H a (.dK (putK vs kk u))) b = H b := fun b hb => upd_ne hb
            have tk : TupK H (upd H a (.dK (putK vs kk u))) := TupK.upd (by intro xs z; rw [h1] at z; cases z)
            rw [List.cons_append, List.nodup_cons] at nq
            obtain ⟨fz, o, n, m⟩ := OwnK.put (k := kk) (ou.keep tk fun b hb => hkeep b fun z => nq.1 (by rw [← z]; simp [hb])) (k2'.keep tk fun b hb => hkeep b fun z => nq.1 (by rw [← z]; simp [hb])) (hc.2.imp (fun f => own_flat_nil f ou) id) nq.2
            refine ⟨a :: fz, ⟨a, _, fz, rfl, upd_same, o, rfl⟩, List.nodup_cons.mpr ⟨fun hb => nq.1 (List.mem_append.mpr (m a hb)), n⟩, fun b hb => ?_⟩
            rcases List.mem_cons.mp hb with rfl | hb
            · exact .inl (by simp)
            · exact (m b hb).imp (fun z => by simp [z]) id) nu (fun b hb => ok.loose ok1 (lu b hb).1 (lu b hb).2) ⟨_, h1, trivial⟩ (fun fq hq => by
            obtain ⟨a', vs', fr', ea, _, _, ef⟩ := hq
            cases ea
            exact ⟨fr', ef⟩) d0 ho0
        exact hQ _ F' ok3
      · cases hz
  · rename_i ds
    obtain ⟨a, vs, fr, rfl, h1, h2, rfl⟩ := own_lst ho
    cases e1 : intD k with
    | none => rw [e1] at hz; cases hz
    | some j =>
      rw [e1] at hz
      simp only [Option.bind_some] at hz
      cases e2 : ixN ds.length j with
      | none => rw [e2] at hz; cases hz
      | some n =>
        rw [e2] at hz
        cases hz
        have eku : ku = .int j := by
          cases hk : k <;> rw [hk] at e1 ek <;> simp [intD] at e1
          subst e1
          exact ek
        subst eku
        refine .inl ⟨a, vs, j, n, rfl, rfl, h1, by rw [h2.length]; exact e2, ?_⟩
        obtain ⟨F', ok3⟩ := ok.writePart (y := .lst (ds.set n y)) (u := .lst (vs.set n u)) (fx := fx) ew hv0 hg trivial (fun fq2 hq nq => by
            obtain ⟨a', vs', fr', ea, k1', k2', ef⟩ := own_lst hq
            cases ea
            rw [h1] at k1'
            cases k1'
            cases ef
            have hkeep : ∀ b, b ≠ a → (upd H a (.lst (vs.set n u))) b = H b := fun b hb => upd_ne hb
            have tk : TupK H (upd H a (.lst (vs.set n u))) := TupK.upd (by intro xs z; rw [h1] at z; cases z)
            rw [List.cons_append, List.nodup_cons] at nq
            obtain ⟨fz, o, nn, m⟩ := Owns.put (ou.keep tk fun b hb => hkeep b fun z => nq.1 (by rw [← z]; simp [hb])) n (k2'.keep tk fun b hb => hkeep b fun z => nq.1 (by rw [← z]; simp [hb])) nq.2
            refine ⟨a :: fz, ⟨a, _, fz, rfl, upd_same, o, rfl⟩, List.nodup_cons.mpr ⟨fun hb => nq.1 (List.mem_append.mpr (m a hb)), nn⟩, fun b hb => ?_⟩
            rcases List.mem_cons.mp hb with rfl | hb
            · exact .inl (by simp)
            · exact (m b hb).imp (fun z => by simp [z]) id) nu (fun b hb => ok.loose ok1 (lu b hb).1 (lu b hb).2) ⟨_, h1, trivial⟩ (fun fq hq => by
            obtain ⟨a', vs', fr', ea, _, _, ef⟩ := own_lst hq
            cases ea
            exact ⟨fr', ef⟩) d0 ho0
        exact hQ _ F' ok3
  · cases hz
def sSub (i : Nat) (w : WF) (fk : EF) (f : NF) : SF := fun ρ => (f ρ).bind fun y => (w ρ).bind fun p => (wayD ρ i p).bind fun d => (fk ρ).bind fun k => (itemD d k.1 y).bind fun z => (putW ρ i p z).map .nx
theorem gr_loose {B H B' H' : Hp} {Γ : Ga} {d : D} {v : V} {fp : List Addr} {H0 : Hp} (bh : Same B' H') (g : Gr B H B' H') (o : Own Γ H d v fp) (l : ∀ a ∈ fp, H0 a = none ∧ B a = none) : ∀ a ∈ fp, H0 a = none ∧ B' a = none := fun a ha => by
  obtain ⟨u, hu, bx⟩ := o.box a ha
  exact ⟨(l a ha).1, box_gr bh g (l a ha).2 hu bx⟩
theorem pus_sub {k : Expr} {fk : EF} {pos' : Pos} (hu : X.A.units + 1 < cLine) (hv : PuN cm X e2 nf) (hP : PuL cm X e i w) (hk : PuE cm X k fk) (hs : swapsWithSole [.Subscript e k pos'] e2 pos.line X.env = pure false := by rfl) (hw : swappedStores [.Subscript e k pos'] e2 X.env = pure none := by rfl)
    (h1 : (assignEach [.Subscript e k pos'] X.env).map (·.2) = [assign (.Subscript e k pos') X.env] := by rfl)
    (ha : ∀ v, assign (.Subscript e k pos') X.env v = (do
      let ov ← holding [v] (eval e X.env)
      let iv ← holding [v, ov] (eval k X.env)
      standAt pos'
      holding [v, ov, iv] (setItem ov iv v)
      release [v, ov, iv] []) := by intro _; rfl) : PuS cm X (.Assign [.Subscript e k pos'] e2 pos) (sSub i w fk nf) := by
  obtain ⟨t, p, q⟩ := hP
  obtain ⟨t2, p2, q2⟩ := hv
  obtain ⟨t3, p3, q3⟩ := hk
  refine ⟨_, ps_asg p2 (pg_sub p p3 (set_any hu) ha) hs hw h1, fun x B F ρ σ H r E ok hf hE => ?_⟩
  unfold sSub at hf
  cases en : nf ρ with
  | none => rw [en] at hf; cases hf
  | some y =>
    rw [en] at hf
    simp only [Option.bind_some] at hf
    cases e1 : w ρ with
    | none => rw [e1] at hf; cases hf
    | some pth =>
      rw [e1] at hf
      simp only [Option.bind_some] at hf
      cases ew : wayD ρ i pth with
      | none => rw [ew] at hf; cases hf
      | some d =>
        rw [ew] at hf
        simp only [Option.bind_some] at hf
        cases ek : fk ρ with
        | none => rw [ek] at hf; cases hf
        | some kk =>
          rw [ek] at hf
          simp only [Option.bind_some] at hf
          cases ez : itemD d kk.1 y with
          | none => rw [ez] at hf; cases hf
          | some z =>
            rw [ez] at hf
            simp only [Option.bind_some] at hf
            obtain ⟨d0, ho0, _⟩ := wayD_some ew
            rw [putW, ho0] at hf
            cases hf
            refine q2 x B F ρ σ H y _ ok en fun u B1 H1 fx g1 ok1 ou nu lu => ?_
            refine q x B1 F ρ σ H1 pth _ _ ok1 e1 ew fun v v0 B2 H2 g2 ok2 hv0 hg2 => ?_
            refine q3 x B2 F ρ σ H2 _ _ _ ok2 ek fun ku B3 H3 g3 ok3 hku => ?_
            have g23 := g2.trans g3
            exact item_write (Q := fun H3 => E.nx σ H3) ok ok3 (g1.trans g23) ew ho0 hv0 (vgets_gr g3 hg2) (hku.is ok3) (own_gr g23 ou) nu (gr_loose ok3.bh g23 ou lu) ez fun H' F' ok' => hE B3 F' σ H' (g1.bb.trans g23.bb) ok'

/-! ### return of one's own -/
def sRetOn (i : Nat) : SF := fun ρ => match ρ[i]? with
  | some (.on d) => some (.rt d (ρ.set i (.fn d)))
  | _ => none
theorem pus_retOn (i : Nat) {x : Str} {p1 : Pos} (hN : X.N[i]? = some x := by rfl) (hv : Vis X.env.scope x := by first | exact Or.inl rfl | exact Or.inr (Or.inl rfl) | exact Or.inr (Or.inr rfl))
    (hd : (x == ("__debug__" : Str)) = false := by decide) (hcd : (x == ("__classdict__" : Str)) = false := by decide) : PuS cm X (.Return (some (.Name x p1)) pos) (sRetOn i) := by
  refine ⟨_, ps_ret (pe_var hN hv hd hcd), fun z B F ρ σ H r E ok hf hE => ?_⟩
  unfold sRetOn at hf
  split at hf
  · rename_i d ed
    cases hf
    obtain ⟨B', s, ok'⟩ := ok.freeze ed
    have hlt := (List.getElem?_eq_some_iff.mp ed).1
    obtain ⟨_, v, e1, e2⟩ := ok'.at_ i (.fn d) (List.getElem?_set_self hlt)
    exact ⟨v, e1, hE v B' _ σ H s ok' e2⟩
  · cases hf
end
end DL

/-! DL12: what a law's text is held against: built-ins, room, defs at their names, the end. -/
namespace DL
open PySem L2

/-- the built-ins are still the built-ins -/
structure Bm (mg : Str → Option Value) : Prop where
  len : mg "len" = none
  abs : mg "abs" = none
  max : mg "max" = none
  int : mg "int" = none
  list : mg "list" = none
  range : mg "range" = none
  enumerate : mg "enumerate" = none
  zip : mg "zip" = none
  isinstance : mg "isinstance" = none
  bool : mg "bool" = none
  str : mg "str" = none
  tuple : mg "tuple" = none
  sorted : mg "sorted" = none
theorem hu65 {A : Around} {k : Nat} (hr : Room k A) : A.units + 65 < cLine := by have := hr.un; omega
theorem hu64 {A : Around} {k : Nat} (hr : Room k A) : A.units + 64 < cLine := by have := hr.un; omega
theorem hu1 {A : Around} {k : Nat} (hr : Room k A) : A.units + 1 < cLine := by have := hr.un; omega

/-- a def of the module at its name -/
def DefAt (K : PySem.W.Frag) (mg : Str → Option Value) (x : Str) (st : Stmt) (ps : List Str) : Prop :=
  ∃ (f : Addr) (fd : FuncData), Fun K x x st f fd ∧ mg x = some (.ref f) ∧ PySem.W.keepIn K (.ref f) = true ∧ Binds K fd ps []
theorem defAt_mk {K : PySem.W.Frag} {mg : Str → Option Value} {x : Str} {st : Stmt} {ps : List Str} {f : Addr} {oc : Value} {od an : Option Addr} {osl : Array (Option Value)} {kV doc pm cdv ct : Value} (hm : mg x = some (.ref f))
    (l : K.lookup f = some ⟨oc, od, .func (PySem.W.fnOf x x (defArgs st) (defBody st) (defScope st) .none kV doc pm an cdv ct), osl⟩) (c : PySem.W.codeIn K cdv x = true) (k : PySem.W.keepIn K (.ref f) = true)
    (h : ∀ (kV doc pm : Value) (an : Option Addr) (cdv ct : Value) (us : List Value), us.length = ps.length → bindArgs (PySem.W.fnOf x x (defArgs st) (defBody st) (defScope st) .none kV doc pm an cdv ct) ⟨us, []⟩ = pure (ps.zip us)) : DefAt K mg x st ps := by
  have F := fun_mk (st := st) l c k
  exact ⟨f, _, F, hm, k, F.binds h⟩
theorem DefAt.cal {P : Program} {w : World} {K : PySem.W.Frag} {mg : Str → Option Value} {base : Heap} {cm : Nat → Addr} {x : Str} {st : Stmt} {ps : List Str} {k : Nat} {fn : List D → Option D} (D : DefAt K mg x st ps)
    (h : ∀ {f : Addr} {fd : FuncData}, Fun K x x st f fd → FnOk P w K mg base CX0 k f fd ps (spP K cm fn)) : CalP P w K mg base cm k x fn := by
  obtain ⟨f, fd, F, hm, kp, hb⟩ := D
  exact ⟨f, fd, ps, h F, hm, kp, hb⟩
/-- what the top has written, for the built-ins' names -/
structure FactB (K : PySem.W.Frag) : Prop where
  len : PySem.W.nsIn K mainGlobals "len" = some none
  abs : PySem.W.nsIn K mainGlobals "abs" = some none
  max : PySem.W.nsIn K mainGlobals "max" = some none
  int : PySem.W.nsIn K mainGlobals "int" = some none
  list : PySem.W.nsIn K mainGlobals "list" = some none
  range : PySem.W.nsIn K mainGlobals "range" = some none
  enumerate : PySem.W.nsIn K mainGlobals "enumerate" = some none
  zip : PySem.W.nsIn K mainGlobals "zip" = some none
  isinstance : PySem.W.nsIn K mainGlobals "isinstance" = some none
  bool : PySem.W.nsIn K mainGlobals "bool" = some none
  str : PySem.W.nsIn K mainGlobals "str" = some none
  tuple : PySem.W.nsIn K mainGlobals "tuple" = some none
  sorted : PySem.W.nsIn K mainGlobals "sorted" = some none
theorem FactB.bm {K : PySem.W.Frag} {h : Heap} {mg : Str → Option Value} (z : FactB K) (X : K.In h) (G : h.Ns mainGlobals mg) : Bm mg :=
  ⟨PySem.W.mg_none_of X G z.len, PySem.W.mg_none_of X G z.abs, PySem.W.mg_none_of X G z.max, PySem.W.mg_none_of X G z.int, PySem.W.mg_none_of X G z.list, PySem.W.mg_none_of X G z.range, PySem.W.mg_none_of X G z.enumerate, PySem.W.mg_none_of X G z.zip, PySem.W.mg_none_of X G z.isinstance, PySem.W.mg_none_of X G z.bool, PySem.W.mg_none_of X G z.str, PySem.W.mg_none_of X G z.tuple, PySem.W.mg_none_of X G z.sorted⟩
/-- a def that the top has written -/
def FactD (K : PySem.W.Frag) (x : Str) (st : Stmt) : Prop :=
  ∃ (f : Addr) (oc : Value) (od an : Option Addr) (osl : Array (Option Value)) (kV doc pm cdv ct : Value), PySem.W.nsIn K mainGlobals x = some (some (.ref f)) ∧
    K.lookup f = some ⟨oc, od, .func (PySem.W.fnOf x x (defArgs st) (defBody st) (defScope st) .none kV doc pm an cdv ct), osl⟩ ∧ PySem.W.codeIn K cdv x = true ∧ PySem.W.keepIn K (.ref f) = true
theorem factD_mk {K : PySem.W.Frag} {x : Str} {st : Stmt} {f : Addr} {oc : Value} {od an : Option Addr} {osl : Array (Option Value)} {kV doc pm cdv ct : Value} (a : PySem.W.nsIn K mainGlobals x = some (some (.ref f)))
    (l : K.lookup f = some ⟨oc, od, .func (PySem.W.fnOf x x (defArgs st) (defBody st) (defScope st) .none kV doc pm an cdv ct), osl⟩) (c : PySem.W.codeIn K cdv x = true) (k : PySem.W.keepIn K (.ref f) = true) : FactD K x st :=
  ⟨f, oc, od, an, osl, kV, doc, pm, cdv, ct, a, l, c, k⟩
theorem FactD.at_ {K : PySem.W.Frag} {x : Str} {st : Stmt} {ps : List Str} {h : Heap} {mg : Str → Option Value} (z : FactD K x st) (X : K.In h) (G : h.Ns mainGlobals mg)
    (hb : ∀ (kV doc pm : Value) (an : Option Addr) (cdv ct : Value) (us : List Value), us.length = ps.length → bindArgs (PySem.W.fnOf x x (defArgs st) (defBody st) (defScope st) .none kV doc pm an cdv ct) ⟨us, []⟩ = pure (ps.zip us)) : DefAt K mg x st ps := by
  obtain ⟨f, oc, od, an, osl, kV, doc, pm, cdv, ct, a, l, c, k⟩ := z
  exact defAt_mk (PySem.W.mg_of X G a) l c k hb
/-- whatever numbers the classes have -/
def spAny (K : PySem.W.Frag) (f : List D → Option D) : Sp := fun vs H Q E => ∀ cm, spP K cm f vs H Q E
/-- the law's promise, from its function -/
theorem law_sp {K : PySem.W.Frag} {cm : Nat → Addr} {f : List D → Option D} {H : Hp} {a : Addr} {ns : List Int} (h : f [.scr ns] = some (.bl true)) (hS : SqL K H a (ns.map V.int)) : spP K cm f [.ref a] H (fun v _ => v = .bl true) fun _ _ _ => False :=
  ⟨[.scr ns], .bl true, ⟨_, [], rfl, ⟨a, rfl, hS⟩, rfl⟩, h, fun v H' bn => bn.is⟩
end DL

/-! DL13: how the functions of data are reckoned, step by step. -/
namespace DL
open PySem L2

def Ve (f : EF) (ρ : Ev) (d : D) (m : Md) : Prop := f ρ = some (d, m)
def Te (c : Ev → Option Bool) (ρ : Ev) (b : Bool) : Prop := c ρ = some b
def Ae (f : AF) (ρ : Ev) (as : List (D × Md)) : Prop := f ρ = some as
def Oe (f : OF) (ρ : Ev) (o : Option Int) : Prop := f ρ = some o
def Ne (f : NF) (ρ : Ev) (d : D) : Prop := f ρ = some d
def Se (g : SF) (ρ : Ev) (r : Fl) : Prop := g ρ = some r
def Xe (f : IF) (ρ : Ev) (ds : List D) (m : Md) : Prop := f ρ = some (ds, m)

theorem ve_fz {i : Nat} {ρ : Ev} {d : D} (h : ρ[i]? = some (.fz d)) : Ve (eV i) ρ d .par := by unfold Ve eV; rw [h]
theorem ve_fa {i : Nat} {ρ : Ev} {d : D} (h : ρ[i]? = some (.fa d)) : Ve (eV i) ρ d .par := by unfold Ve eV; rw [h]
theorem ve_fn {i : Nat} {ρ : Ev} {d : D} (h : ρ[i]? = some (.fn d)) : Ve (eV i) ρ d .new := by unfold Ve eV; rw [h]
theorem ve_ow {i : Nat} {ρ : Ev} {d : D} (h : ρ[i]? = some (.ow d)) : Ve (eV i) ρ d .own := by unfold Ve eV; rw [h]
theorem ve_on {i : Nat} {ρ : Ev} {d : D} (h : ρ[i]? = some (.on d)) : Ve (eV i) ρ d .own := by unfold Ve eV; rw [h]
theorem ve_c {d : D} {ρ : Ev} : Ve (eC d) ρ d .new := rfl
theorem ve_e2 {o : D → D → Option D} {f g : EF} {ρ : Ev} {a b c : D} {m n : Md} (h1 : Ve f ρ a m) (h2 : Ve g ρ b n) (h : o a b = some c) : Ve (e2 o f g) ρ c .new := by
  unfold Ve at *; unfold e2; rw [h1, h2]; simp [h]
theorem ve_e1 {o : D → Option D} {f : EF} {ρ : Ev} {a c : D} {m : Md} (h1 : Ve f ρ a m) (h : o a = some c) : Ve (e1 o f) ρ c .new := by
  unfold Ve at *; unfold e1; rw [h1]; simp [h]
theorem ve_ix {o : D → D → Option D} {f g : EF} {ρ : Ev} {a b c : D} {m n : Md} (h1 : Ve f ρ a m) (h2 : Ve g ρ b n) (h : o a b = some c) : Ve (eIx o f g) ρ c (effm m c) := by
  unfold Ve at *; unfold eIx; rw [h1, h2]; simp [h]
theorem ve_fld {n : Nat} {f : Str} {g : EF} {ρ : Ev} {c : D} {fs : List (Str × D)} {m : Md} (h1 : Ve g ρ (.ins n fs) m) (h : getF fs f = some c) : Ve (eFld n f g) ρ c (effm m c) := by
  unfold Ve at *; unfold eFld; rw [h1]; simp [fldD, h]
theorem ve_call {f : List D → Option D} {g : AF} {ρ : Ev} {as : List (D × Md)} {d : D} (h1 : Ae g ρ as) (h : f (as.map (·.1)) = some d) : Ve (eCall f g) ρ d .new := by
  unfold Ve Ae at *; unfold eCall; rw [h1]; simp [h]
theorem ve_disp {mk : List D → D} {g : AF} {ρ : Ev} {as : List (D × Md)} (h1 : Ae g ρ as) (h2 : okNew as = true) (h3 : as.length ≤ 16777216) : Ve (eDisp mk g) ρ (mk (as.map (·.1))) .new := by
  unfold Ve Ae at *; unfold eDisp; rw [h1]; simp [h2, h3]
theorem ve_sl {f : EF} {l h : OF} {ρ : Ev} {a c : D} {m : Md} {lo hi : Option Int} (h1 : Ve f ρ a m) (h2 : Oe l ρ lo) (h3 : Oe h ρ hi) (h4 : slD a lo hi = some c) : Ve (eSl f l h) ρ c .new := by
  unfold Ve Oe at *; unfold eSl; rw [h1]; simp [h2, h3, h4]
theorem oe_none {ρ : Ev} : Oe oNone ρ none := rfl
theorem oe_some {f : EF} {ρ : Ev} {i : Int} {m : Md} (h : Ve f ρ (.int i) m) : Oe (oSome f) ρ (some i) := by
  unfold Ve at h; unfold Oe oSome; rw [h]; rfl
theorem ae_nil {ρ : Ev} : Ae aNil ρ [] := rfl
theorem ae_cons {f : EF} {g : AF} {ρ : Ev} {d : D} {m : Md} {as : List (D × Md)} (h1 : Ve f ρ d m) (h2 : Ae g ρ as) : Ae (aCons f g) ρ ((d, m) :: as) := by
  unfold Ve Ae at *; unfold aCons; rw [h1]; simp [h2]
theorem ve_and_t {f g : EF} {ρ : Ev} {m : Md} {d : D} {n : Md} (h1 : Ve f ρ (.bl true) m) (h2 : Ve g ρ d n) : Ve (eAnd f g) ρ d n := by
  unfold Ve at *; unfold eAnd; rw [h1]; simp [blD, h2]
theorem ve_and_f {f g : EF} {ρ : Ev} {m : Md} (h1 : Ve f ρ (.bl false) m) : Ve (eAnd f g) ρ (.bl false) .new := by
  unfold Ve at *; unfold eAnd; rw [h1]; simp [blD]
theorem ve_or_f {f g : EF} {ρ : Ev} {m : Md} {d : D} {n : Md} (h1 : Ve f ρ (.bl false) m) (h2 : Ve g ρ d n) : Ve (eOr f g) ρ d n := by
  unfold Ve at *; unfold eOr; rw [h1]; simp [blD, h2]
theorem ve_or_t {f g : EF} {ρ : Ev} {m : Md} (h1 : Ve f ρ (.bl true) m) : Ve (eOr f g) ρ (.bl true) .new := by
  unfold Ve at *; unfold eOr; rw [h1]; simp [blD]
theorem ve_if_t {c : Ev → Option Bool} {f g : EF} {ρ : Ev} {d : D} {m : Md} (h : Te c ρ true) (h1 : Ve f ρ d m) : Ve (eIf c f g) ρ d m := by
  unfold Ve Te at *; unfold eIf; rw [h]; simp [h1]
theorem ve_if_f {c : Ev → Option Bool} {f g : EF} {ρ : Ev} {d : D} {m : Md} (h : Te c ρ false) (h1 : Ve g ρ d m) : Ve (eIf c f g) ρ d m := by
  unfold Ve Te at *; unfold eIf; rw [h]; simp [h1]
theorem ve_lc {f : IF} {vs : List Nat} {g : GF} {t : Ev → Option Bool} {e : EF} {ρ : Ev} {ds ys : List D} {m : Md} (h1 : Xe f ρ ds m) (h2 : ds.length ≤ 16777216) (h3 : lcGo g t e m (wipeE ρ vs) ds = some ys) : Ve (eLc f vs g t e) ρ (.lst ys) .new := by
  unfold Ve Xe at *; unfold eLc; rw [h1]; simp [h2, h3]
/-- every item taken -/
theorem lc_map {g : GF} {e : EF} {m : Md} {ρ : Ev} {F : D → D} : ∀ {ds : List D}, (∀ d ∈ ds, ∃ ρ1 n, g d (effm m d) ρ = some ρ1 ∧ Ve e ρ1 (F d) n ∧ (flat (F d) || isNew n) = true) → lcGo g (fun _ => some true) e m ρ ds = some (ds.map F)
  | [], _ => rfl
  | d :: r, h => by
    obtain ⟨ρ1, n, h1, h2, h3⟩ := h d (by simp)
    unfold Ve at h2
    rw [lcGo, h1]
    simp only [Option.bind_some, h2, h3, if_true, lc_map (ds := r) fun d' hd => h d' (by simp [hd]), List.map_cons, Option.map_some]
/-- those that pass a test -/
theorem lc_filter {g : GF} {t : Ev → Option Bool} {e : EF} {m : Md} {ρ : Ev} {F : D → D} {p : D → Bool} : ∀ {ds : List D}, (∀ d ∈ ds, ∃ ρ1, g d (effm m d) ρ = some ρ1 ∧ Te t ρ1 (p d) ∧ (p d = true → ∃ n, Ve e ρ1 (F d) n ∧ (flat (F d) || isNew n) = true)) →
    lcGo g t e m ρ ds = some ((ds.filter p).map F)
  | [], _ => rfl
  | d :: r, h => by
    obtain ⟨ρ1, h1, h2, h3⟩ := h d (by simp)
    unfold Te at h2
    have ih := lc_filter (ds := r) fun d' hd => h d' (by simp [hd])
    rw [lcGo, h1]
    simp only [Option.bind_some, h2]
    by_cases q : p d = true
    · obtain ⟨n, h4, h5⟩ := h3 q
      unfold Ve at h4
      simp only [q, if_true, h4, Option.bind_some, h5, ih, Option.map_some, List.filter_cons, List.map_cons]
    · simp only [Bool.not_eq_true] at q
      simp [q, ih, List.filter_cons]
theorem xe_seq {f : EF} {ρ : Ev} {d : D} {ds : List D} {m : Md} (h : Ve f ρ d m) (h2 : itemsD d = some ds) : Xe (iE f) ρ ds m := by
  unfold Ve Xe at *; unfold iE; rw [h]; simp [h2]
theorem xe_range {f : EF} {ρ : Ev} {n : Int} {m : Md} (h : Ve f ρ (.int n) m) (h1 : -4611686018427387904 ≤ n) (h2 : n < 4611686018427387904) : Xe (iR f) ρ (rangeL n) .new := by
  unfold Ve Xe at *; unfold iR; rw [h]; simp [intD, h1, h2]
theorem xe_enum {f : EF} {ρ : Ev} {ds : List D} {m : Md} (h : Ve f ρ (.lst ds) m) (h2 : flats ds = true) : Xe (iEn f) ρ (enumL 0 ds) m := by
  unfold Ve Xe at *; unfold iEn; rw [h]; simp [h2]

theorem te_v {f : EF} {ρ : Ev} {b : Bool} {m : Md} (h : Ve f ρ (.bl b) m) : Te (tE f) ρ b := by
  unfold Ve at h; unfold Te tE; rw [h]; rfl
theorem te_and_t {f g : Ev → Option Bool} {ρ : Ev} {b : Bool} (h : Te f ρ true) (h2 : Te g ρ b) : Te (tAndD f g) ρ b := by
  unfold Te at *; unfold tAndD; rw [h]; simp [h2]
theorem te_and_f {f g : Ev → Option Bool} {ρ : Ev} (h : Te f ρ false) : Te (tAndD f g) ρ false := by
  unfold Te at *; unfold tAndD; rw [h]; simp
theorem te_and {f g : Ev → Option Bool} {ρ : Ev} {a b : Bool} (h : Te f ρ a) (h2 : a = true → Te g ρ b) : Te (tAndD f g) ρ (a && b) := by
  cases a with
  | true => rw [Bool.true_and]; exact te_and_t h (h2 rfl)
  | false => exact te_and_f h
theorem te_or_f {f g : Ev → Option Bool} {ρ : Ev} {b : Bool} (h : Te f ρ false) (h2 : Te g ρ b) : Te (tOrD f g) ρ b := by
  unfold Te at *; unfold tOrD; rw [h]; simp [h2]
theorem te_or_t {f g : Ev → Option Bool} {ρ : Ev} (h : Te f ρ true) : Te (tOrD f g) ρ true := by
  unfold Te at *; unfold tOrD; rw [h]; simp
theorem te_or {f g : Ev → Option Bool} {ρ : Ev} {a b : Bool} (h : Te f ρ a) (h2 : a = false → Te g ρ b) : Te (tOrD f g) ρ (a || b) := by
  cases a with
  | false => rw [Bool.false_or]; exact te_or_f h (h2 rfl)
  | true => exact te_or_t h
theorem te_not {f : Ev → Option Bool} {ρ : Ev} {b : Bool} (h : Te f ρ b) : Te (tNotD f) ρ (!b) := by
  unfold Te at *; unfold tNotD; rw [h]; rfl

theorem se_nil {ρ : Ev} : Se bNil ρ (.nx ρ) := rfl
theorem se_seq {g h : SF} {ρ ρ' : Ev} {r : Fl} (h1 : Se g ρ (.nx ρ')) (h2 : Se h ρ' r) : Se (bSeq g h) ρ r := by
  unfold Se at *; unfold bSeq; rw [h1]; exact h2
theorem se_seq_rt {g h : SF} {ρ ρ' : Ev} {d : D} (h1 : Se g ρ (.rt d ρ')) : Se (bSeq g h) ρ (.rt d ρ') := by
  unfold Se at *; unfold bSeq; rw [h1]; rfl
theorem se_set {i : Nat} {f : EF} {ρ ρ' : Ev} {d : D} {m : Md} (h : Ve f ρ d m) (h2 : setS i d m ρ = some ρ') : Se (sSet i f) ρ (.nx ρ') := by
  unfold Se Ve at *; unfold sSet; rw [h]; simp [h2]
theorem setS_flat {i : Nat} {d : D} {m : Md} {ρ : Ev} {s : Sl} (h : ρ[i]? = some s) (h2 : freeS s = true) (f : flat d = true) : setS i d m ρ = some (ρ.set i (.fn d)) := by
  unfold setS mkSl; simp [h, h2, f]
theorem setS_new {i : Nat} {d : D} {ρ : Ev} {s : Sl} (h : ρ[i]? = some s) (h2 : freeS s = true) : setS i d .new ρ = some (ρ.set i (.fn d)) := by
  unfold setS mkSl; simp [h, h2]
theorem setS_par {i : Nat} {d : D} {ρ : Ev} {s : Sl} (h : ρ[i]? = some s) (h2 : freeS s = true) (f : flat d = false) : setS i d .par ρ = some (ρ.set i (.fa d)) := by
  unfold setS mkSl; simp [h, h2, f]
theorem se_setN {i : Nat} {f : NF} {ρ : Ev} {d : D} {s : Sl} (h : Ne f ρ d) (h1 : ρ[i]? = some s) (h2 : freeS s = true) : Se (sSetN i f) ρ (.nx (ρ.set i (.on d))) := by
  unfold Se Ne at *; unfold sSetN; rw [h]; simp [h1, h2]
theorem ne_flat {f : EF} {ρ : Ev} {d : D} {m : Md} (h : Ve f ρ d m) (h2 : flat d = true) : Ne (nFlat f) ρ d := by
  unfold Ne Ve at *; unfold nFlat; rw [h]; simp [h2]
theorem ne_dic0 {ρ : Ev} : Ne nDic0 ρ (.dic []) := rfl
theorem ne_lst {g : Ev → Option (List D)} {ρ : Ev} {ds : List D} (h : g ρ = some ds) (h2 : ds.length ≤ 16777216) : Ne (nLst g) ρ (.lst ds) := by
  unfold Ne nLst; rw [h]; simp [h2]
theorem ne_nil {ρ : Ev} : nNil ρ = some [] := rfl
theorem ne_cons {f : NF} {g : Ev → Option (List D)} {ρ : Ev} {d : D} {ds : List D} (h : Ne f ρ d) (h2 : g ρ = some ds) : nCons f g ρ = some (d :: ds) := by
  unfold Ne at h; unfold nCons; rw [h]; simp [h2]
theorem ne_lc {f : EF} {ρ : Ev} {ds : List D} {m : Md} (h : Ve f ρ (.lst ds) m) (h2 : flats ds = true) : Ne (nLc f) ρ (.lst ds) := by
  unfold Ne Ve at *; unfold nLc; rw [h]; simp [h2]
theorem se_if_t {c : Ev → Option Bool} {g h : SF} {ρ : Ev} {r : Fl} {b : Bool} (h1 : Te c ρ b) (hb : b = true) (h2 : Se g ρ r) : Se (sIf c g h) ρ r := by
  subst hb; unfold Se Te at *; unfold sIf; rw [h1]; simp [h2]
theorem se_if_f {c : Ev → Option Bool} {g h : SF} {ρ : Ev} {r : Fl} {b : Bool} (h1 : Te c ρ b) (hb : b = false) (h2 : Se h ρ r) : Se (sIf c g h) ρ r := by
  subst hb; unfold Se Te at *; unfold sIf; rw [h1]; simp [h2]
/-- an if that sets one slot -/
theorem se_if_set {c : Ev → Option Bool} {i : Nat} {f : EF} {ρ : Ev} {b : Bool} {d d0 : D} {m : Md} (h1 : Te c ρ b) (h0 : ρ[i]? = some (.fn d0)) (h2 : b = true → Ve f ρ d m) (fl : flat d = true) : Se (sIf c (sSet i f) bNil) ρ (.nx (ρ.set i (.fn (if b = true then d else d0)))) := by
  cases b with
  | true => exact se_if_t h1 rfl (se_set (h2 rfl) (setS_flat h0 rfl fl))
  | false =>
    refine se_if_f h1 rfl ?_
    have e : ρ.set i (.fn d0) = ρ := by
      apply List.ext_getElem?
      intro j
      by_cases q : i = j
      · subst q
        rw [List.getElem?_set_self (List.getElem?_eq_some_iff.mp h0).1, h0]
      · rw [List.getElem?_set_ne q]
    simp only [Bool.false_eq_true, if_false, e]
    exact se_nil
theorem se_ret {f : EF} {ρ : Ev} {d d' : D} {m : Md} (h : Ve f ρ d m) (h2 : (flat d || isNew m) = true) (e : d = d') : Se (sRet f) ρ (.rt d' ρ) := by
  subst e; unfold Se Ve at *; unfold sRet; rw [h]; simp only [Option.bind_some, h2, if_true]
theorem se_retOn {i : Nat} {ρ : Ev} {d : D} (h : ρ[i]? = some (.on d)) : Se (sRetOn i) ρ (.rt d (ρ.set i (.fn d))) := by
  unfold Se sRetOn; rw [h]
theorem se_unp {f : EF} {g : GF} {ρ ρ' : Ev} {d : D} {m : Md} (h : Ve f ρ d m) (h2 : g d m ρ = some ρ') : Se (sUnp f g) ρ (.nx ρ') := by
  unfold Se Ve at *; unfold sUnp; rw [h]; simp [h2]
theorem se_app {i : Nat} {w : WF} {f : NF} {ρ ρ' : Ev} {p : List Stp} {ds : List D} {y : D} (h1 : w ρ = some p) (h2 : wayD ρ i p = some (.lst ds)) (h3 : Ne f ρ y) (hl : ds.length < 16777216) (h4 : putW ρ i p (.lst (ds ++ [y])) = some ρ') : Se (sApp i w f) ρ (.nx ρ') := by
  unfold Se Ne at *; unfold sApp; rw [h1]; simp [h2, h3, hl, h4]
theorem se_ext {i : Nat} {w : WF} {f : EF} {ρ ρ' : Ev} {p : List Stp} {ds es : List D} {m : Md} (h1 : w ρ = some p) (h2 : wayD ρ i p = some (.lst ds)) (h3 : Ve f ρ (.lst es) m) (hf : flats es = true) (hl : ds.length + es.length ≤ 16777216) (h4 : putW ρ i p (.lst (ds ++ es)) = some ρ') : Se (sExt i w f) ρ (.nx ρ') := by
  unfold Se Ve at *; unfold sExt; rw [h1]; simp [h2, h3, hl, hf, h4]
theorem se_sub {i : Nat} {w : WF} {fk : EF} {f : NF} {ρ ρ' : Ev} {p : List Stp} {d k y z : D} {m : Md} (h3 : Ne f ρ y) (h1 : w ρ = some p) (h2 : wayD ρ i p = some d) (hk : Ve fk ρ k m) (hz : itemD d k y = some z) (h4 : putW ρ i p z = some ρ') : Se (sSub i w fk f) ρ (.nx ρ') := by
  unfold Se Ne Ve at *; unfold sSub; rw [h3]; simp [h1, h2, hk, hz, h4]
theorem way_on0 {i : Nat} {ρ : Ev} {d : D} (h : ρ[i]? = some (.on d)) : wayD ρ i [] = some d := by unfold wayD ownD; rw [h]; rfl
theorem put_on0 {i : Nat} {ρ : Ev} {d y : D} (h : ρ[i]? = some (.on d)) : putW ρ i [] y = some (ρ.set i (.on y)) := by unfold putW ownD setOwn; rw [h]; rfl

/-- a loop by what holds of the slots; every turn goes on -/
theorem for_inv {g : GF} {b : SF} {m : Md} (P : Nat → Ev → Prop) : ∀ {ds : List D} {ρ : Ev} (k : Nat), P k ρ → (∀ i d ρ, ds[i]? = some d → P (k + i) ρ → ∃ ρ1 ρ2, g d (effm m d) ρ = some ρ1 ∧ (Se b ρ1 (.nx ρ2) ∨ Se b ρ1 (.ct ρ2)) ∧ P (k + i + 1) ρ2) →
    ∃ ρ', forGo g b m ds ρ = some (.nx ρ') ∧ P (k + ds.length) ρ'
  | [], ρ, k, h0, _ => ⟨ρ, rfl, h0⟩
  | d :: r, ρ, k, h0, h => by
    obtain ⟨ρ1, ρ2, h1, h2, h3⟩ := h 0 d ρ rfl h0
    obtain ⟨ρ', h4, h5⟩ := for_inv P (ds := r) (ρ := ρ2) (k + 1) (by simpa using h3) fun i d' ρ e p => by
      have q := h (i + 1) d' ρ (by simpa using e) (by rw [show k + (i + 1) = k + 1 + i by omega]; exact p)
      rw [show k + (i + 1) + 1 = k + 1 + i + 1 by omega] at q
      exact q
    refine ⟨ρ', ?_, by rw [List.length_cons, show k + (r.length + 1) = k + 1 + r.length by omega]; exact h5⟩
    rw [forGo, h1]
    unfold Se at h2
    rcases h2 with h2 | h2 <;> simp [h2, h4]
theorem se_for {f : IF} {g : GF} {b : SF} {ρ : Ev} {ds : List D} {m : Md} (P : Nat → Ev → Prop) (hx : Xe f ρ ds m) (hm : notOwn m = true) (h0 : P 0 ρ)
    (h : ∀ i d ρ, ds[i]? = some d → P i ρ → ∃ ρ1 ρ2, g d (effm m d) ρ = some ρ1 ∧ (Se b ρ1 (.nx ρ2) ∨ Se b ρ1 (.ct ρ2)) ∧ P (i + 1) ρ2) : ∃ ρ', Se (sFor f g b) ρ (.nx ρ') ∧ P ds.length ρ' := by
  obtain ⟨ρ', h1, h2⟩ := for_inv P (ds := ds) (ρ := ρ) (g := g) (b := b) (m := m) 0 h0 fun i d ρ e p => by
    rw [Nat.zero_add] at p ⊢
    exact h i d ρ e p
  rw [Nat.zero_add] at h2
  refine ⟨ρ', ?_, h2⟩
  unfold Se sFor Xe at *
  rw [hx]
  simp only [Option.bind_some, hm, if_true]
  exact h1
theorem fn_ev {n k : Nat} {b : SF} {ds : List D} {d : D} {ρ : Ev} (hl : ds.length = k) (h : Se b (ent n ds) (.rt d ρ)) : fnP n k b ds = some d := by
  unfold Se at h; unfold fnP; rw [if_pos hl, h]; rfl
theorem fn_ev_n {n k : Nat} {b : SF} {ds : List D} {ρ : Ev} (hl : ds.length = k) (h : Se b (ent n ds) (.nx ρ)) : fnP n k b ds = some .non := by
  unfold Se at h; unfold fnP; rw [if_pos hl, h]; rfl

/-! ### the operators -/
theorem mod_ok {i j : Int} (h : 0 < j) : modD (.int i) (.int j) = some (.int (i % j)) := by simp [modD, h]
theorem fdiv_ok {i j : Int} (h : 0 < j) (h2 : j < 1073741824) : fdivD (.int i) (.int j) = some (.int (i / j)) := by simp [fdivD, h, h2]
theorem mul_okl {i j : Int} (h : -18446744073709551616 < i) (h2 : i < 18446744073709551616) : mulD (.int i) (.int j) = some (.int (i * j)) := by simp [mulD, h, h2]
theorem mul_okr {i j : Int} (h : -18446744073709551616 < j) (h2 : j < 18446744073709551616) : mulD (.int i) (.int j) = some (.int (i * j)) := by simp [mulD, h, h2]
theorem add_oks {x y : Str} (h : x.length + y.length ≤ 16777216) : addD (.str x) (.str y) = some (.str (x ++ y)) := by simp [addD, h]
theorem add_okl {x y : List D} (h1 : flats x = true) (h2 : flats y = true) (h : x.length + y.length ≤ 16777216) : addD (.lst x) (.lst y) = some (.lst (x ++ y)) := by simp [addD, h1, h2, h]
/-- data no deeper than k, atoms at the bottom -/
def dk : Nat → D → Bool
  | _, .non => true
  | _, .bl _ => true
  | _, .int _ => true
  | _, .str x => PyData.strOk x
  | k + 1, .tup ds => ds.all (dk k)
  | k + 1, .lst ds => ds.all (dk k)
  | _, _ => false
theorem dks_py {k : Nat} (ih : ∀ d, dk k d = true → ∃ p, toPy d = some p ∧ p.canLay0 = true ∧ p.depth ≤ k) : ∀ ds : List D, ds.all (dk k) = true → ∃ ps, toPys ds = some ps ∧ PyData.canLayAll0 ps = true ∧ PyData.depthAll ps ≤ k
  | [], _ => ⟨[], by simp [toPys], by simp [PyData.canLayAll0], by simp [PyData.depthAll]⟩
  | d :: r, h => by
    simp only [List.all_cons, Bool.and_eq_true] at h
    obtain ⟨p, h1, h2, h3⟩ := ih d h.1
    obtain ⟨ps, h4, h5, h6⟩ := dks_py ih r h.2
    refine ⟨p :: ps, by simp [toPys, h1, h4], by simp [PyData.canLayAll0, h2, h5], ?_⟩
    simp only [PyData.depthAll]
    omega
theorem dk_py : ∀ {k : Nat} {d : D}, dk k d = true → ∃ p, toPy d = some p ∧ p.canLay0 = true ∧ p.depth ≤ k
  | _, .non, _ => ⟨.none, by simp [toPy], by simp [PyData.canLay0], by simp [PyData.depth]⟩
  | _, .bl b, _ => ⟨.bool b, by simp [toPy], by simp [PyData.canLay0], by simp [PyData.depth]⟩
  | _, .int b, _ => ⟨.int b, by simp [toPy], by simp [PyData.canLay0], by simp [PyData.depth]⟩
  | k, .str b, h => ⟨.str b, by simp [toPy], by cases k <;> simpa [PyData.canLay0, dk] using h, by simp [PyData.depth]⟩
  | k + 1, .tup ds, h => by
    obtain ⟨ps, h1, h2, h3⟩ := dks_py (fun d => dk_py) ds h
    refine ⟨.tuple ps, by simp [toPy, h1], by simp [PyData.canLay0, h2], ?_⟩
    simp only [PyData.depth]
    omega
  | k + 1, .lst ds, h => by
    obtain ⟨ps, h1, h2, h3⟩ := dks_py (fun d => dk_py) ds h
    refine ⟨.list ps, by simp [toPy, h1], by simp [PyData.canLay0, h2], ?_⟩
    simp only [PyData.depth]
    omega
  | 0, .tup _, h => by simp [dk] at h
  | 0, .lst _, h => by simp [dk] at h
  | k, .dic _, h => by cases k <;> simp [dk] at h
  | k, .ins _ _, h => by cases k <;> simp [dk] at h
  | k, .scr _, h => by cases k <;> simp [dk] at h
theorem shaped_of {p : PyData} {k : Nat} (h : p.canLay0 = true) (h1 : p.depth ≤ k) (h2 : k ≤ 64) : SeqAt.shaped p = true := by
  unfold SeqAt.shaped
  simp only [Bool.and_eq_true, decide_eq_true_eq]
  exact ⟨h, by omega⟩
theorem eqD_refl {d : D} (h : dk 64 d = true) : eqD d d = some true := by
  obtain ⟨p, h1, h2, h3⟩ := dk_py h
  have s := shaped_of h2 h3 (Nat.le_refl _)
  simp only [eqD, h1, Option.bind_some, s, and_self, if_true, SeqAt.eqv_refl p h2]
theorem eq_refl {d : D} (h : dk 64 d = true) : eqDD d d = some (.bl true) := by simp [eqDD, eqD_refl h]
theorem ne_refl {d : D} (h : dk 64 d = true) : neDD d d = some (.bl false) := by simp [neDD, eqD_refl h]
theorem eqD_at {a b : D} {p q : PyData} (h1 : toPy a = some p) (h2 : toPy b = some q) (ha : dk 0 a = true) (hb : dk 0 b = true) : eqD a b = some (PyData.eqv p q) := by
  obtain ⟨p', e1, c1, d1⟩ := dk_py ha
  obtain ⟨q', e2, c2, d2⟩ := dk_py hb
  rw [h1] at e1; rw [h2] at e2
  cases e1; cases e2
  simp only [eqD, h1, h2, Option.bind_some, shaped_of c1 d1 (by omega), shaped_of c2 d2 (by omega), and_self, if_true]
theorem eqD_int {i j : Int} : eqD (.int i) (.int j) = some (i == j) := by
  rw [eqD_at (p := .int i) (q := .int j) (by simp [toPy]) (by simp [toPy]) rfl rfl]; simp [PyData.eqv]
theorem eqD_str {x y : Str} (hx : PyData.strOk x = true) (hy : PyData.strOk y = true) : eqD (.str x) (.str y) = some (x == y) := by
  rw [eqD_at (p := .str x) (q := .str y) (by simp [toPy]) (by simp [toPy]) (by simpa [dk] using hx) (by simpa [dk] using hy)]; simp [PyData.eqv]
theorem eq_int {i j : Int} : eqDD (.int i) (.int j) = some (.bl (i == j)) := by simp [eqDD, eqD_int]
theorem eq_str {x y : Str} (hx : PyData.strOk x = true) (hy : PyData.strOk y = true) : eqDD (.str x) (.str y) = some (.bl (x == y)) := by simp [eqDD, eqD_str hx hy]
theorem ne_int {i j : Int} : neDD (.int i) (.int j) = some (.bl (!(i == j))) := by simp [neDD, eqD_int]
theorem ne_str {x y : Str} (hx : PyData.strOk x = true) (hy : PyData.strOk y = true) : neDD (.str x) (.str y) = some (.bl (!(x == y))) := by simp [neDD, eqD_str hx hy]
theorem len_str {z : Str} (h : z.length ≤ 16777216) : lenD [.str z] = some (.int (z.length : Nat)) := by simp [lenD, h]
theorem ix_lst {ds : List D} {i : Int} {d : D} (h : atI ds i = some d) : ixD (.lst ds) (.int i) = some d := h
theorem ix_tup {ds : List D} {i : Int} {d : D} (h : atI ds i = some d) : ixD (.tup ds) (.int i) = some d := h
theorem atI_at {α : Type} {xs : List α} {i : Int} {v : α} (h0 : 0 ≤ i) (h : xs[i.toNat]? = some v) : atI xs i = some v := by
  have e : i = (i.toNat : Int) := by omega
  rw [e]
  exact atI_nat h
theorem ix_str {z : Str} {i : Int} {c : Nat} (hl : z.length ≤ 16777216) (h : atI z.cps.toList i = some c) : ixD (.str z) (.int i) = some (.str ⟨#[c]⟩) := by simp [ixD, hl, h]
end DL

/-! DL14: text and lists for the reckoning. -/
namespace DL
open PySem L2
def tx (l : List Nat) : Str := ⟨l.toArray⟩
theorem tx_len (l : List Nat) : (tx l).length = l.length := by simp [tx, Str.length]
theorem tx_app (a b : List Nat) : tx a ++ tx b = tx (a ++ b) := by
  show Str.append (tx a) (tx b) = _
  simp [tx, Str.append]
theorem tx_inj {a b : List Nat} (h : tx a = tx b) : a = b := by simpa [tx] using h
theorem tx_cps (l : List Nat) : (tx l).cps.toList = l := by simp [tx]
theorem tx_cut (l : List Nat) (lo hi : Option Int) : cutS (tx l) lo hi = tx (cutL l lo hi) := by
  unfold cutS cutL
  rw [tx_len, tx_cps]; rfl
theorem cut_to {α : Type} (l : List α) (k : Nat) : cutL l none (some (k : Int)) = l.take k := by
  unfold cutL
  rw [HT.sIx_none, HT.sIx_nat, List.drop_zero, Nat.sub_zero]
  by_cases h : k ≤ l.length
  · rw [Nat.min_eq_left h]
  · rw [Nat.min_eq_right (by omega), List.take_length, List.take_of_length_le (by omega)]
theorem cut_from {α : Type} (l : List α) (k : Nat) : cutL l (some (k : Int)) none = l.drop k := by
  unfold cutL
  rw [HT.sIx_none, HT.sIx_nat]
  by_cases h : k ≤ l.length
  · rw [Nat.min_eq_left h, List.take_of_length_le (by simp)]
  · rw [Nat.min_eq_right (by omega)]; simp; omega
theorem sl_str_to {l : List Nat} {k : Nat} {i : Int} (e : i = (k : Nat)) (h : l.length ≤ 16777216) : slD (.str (tx l)) none (some i) = some (.str (tx (l.take k))) := by
  subst e
  simp [slD, tx_len, h, tx_cut, cut_to]
theorem sl_str_from {l : List Nat} {k : Nat} {i : Int} (e : i = (k : Nat)) (h : l.length ≤ 16777216) : slD (.str (tx l)) (some i) none = some (.str (tx (l.drop k))) := by
  subst e
  simp [slD, tx_len, h, tx_cut, cut_from]
theorem sl_lst_to {ds : List D} {k : Nat} {i : Int} (e : i = (k : Nat)) (h : flats ds = true) : slD (.lst ds) none (some i) = some (.lst (ds.take k)) := by
  subst e
  simp [slD, h, cut_to]
theorem strsOf_map {α : Type} (f : α → Str) : ∀ l : List α, strsOf (l.map fun a => D.str (f a)) = some (l.map f)
  | [] => rfl
  | a :: r => by rw [List.map_cons, strsOf, strsOf_map f r]; rfl
theorem join_nil : ∀ l : List Nat, Str.join (tx []) (l.map fun c => tx [c]) = tx l
  | [] => rfl
  | [c] => rfl
  | c :: d :: r => by
    have ih := join_nil (d :: r)
    rw [List.map_cons] at ih ⊢
    rw [List.map_cons, Str.join, ← List.map_cons (f := fun c => tx [c]), List.map_cons, ih, tx_app, tx_app]
    · rfl
    · simp
theorem join_chars {α : Type} (f : α → Nat) {l : List α} (h : l.length ≤ 16777216) : joinD (.str (tx [])) (.lst (l.map fun a => .str (tx [f a]))) = some (.str (tx (l.map f))) := by
  have e : strsOf (l.map fun a => D.str (tx [f a])) = some ((l.map f).map fun c => tx [c]) := by rw [strsOf_map (fun a => tx [f a]), List.map_map]; rfl
  have q : ∀ l : List Nat, ((l.map fun c => tx [c]).map (·.length)).sum = l.length := by
    intro l; induction l with
    | nil => rfl
    | cons a r ih => rw [List.map_cons, List.map_cons, List.sum_cons, ih, tx_len]; simp; omega
  unfold joinD
  simp only [e, Option.bind_some, q, tx_len, List.length_map, List.length_nil, Nat.mul_zero, Nat.add_zero, h, if_true, TL.join_eq, join_nil]
theorem ix_tx {l : List Nat} {i : Int} {c : Nat} (hl : l.length ≤ 16777216) (h0 : 0 ≤ i) (h : l[i.toNat]? = some c) : ixD (.str (tx l)) (.int i) = some (.str (tx [c])) := by
  refine ix_str (by rw [tx_len]; exact hl) ?_
  rw [tx_cps]
  exact atI_at h0 h
theorem ixl_nat {ds : List D} {i : Int} {d : D} (h0 : 0 ≤ i) (h : ds[i.toNat]? = some d) : ixD (.lst ds) (.int i) = some d := ix_lst (atI_at h0 h)
theorem ixt_nat {ds : List D} {i : Int} {d : D} (h0 : 0 ≤ i) (h : ds[i.toNat]? = some d) : ixD (.tup ds) (.int i) = some d := ix_tup (atI_at h0 h)
theorem ix_scr {ns : List Int} {i : Int} {d : Int} (h0 : 0 ≤ i) (h : ns[i.toNat]? = some d) : ixD (.scr ns) (.int i) = some (.int d) := by
  show (atI ns i).map D.int = _
  rw [atI_at h0 h]; rfl
def okC (l : List Nat) : Bool := l.all (· < 0x110000)
theorem tx_ok {l : List Nat} (h : okC l = true) : PyData.strOk (tx l) = true := by
  unfold PyData.strOk; unfold okC at h
  rw [← Array.all_toList, tx_cps]; exact h
theorem add_tx {a b : List Nat} (h : a.length + b.length ≤ 16777216) : addD (.str (tx a)) (.str (tx b)) = some (.str (tx (a ++ b))) := by
  rw [add_oks (by rw [tx_len, tx_len]; exact h), tx_app]
theorem len_tx {l : List Nat} (h : l.length ≤ 16777216) : lenD [.str (tx l)] = some (.int (l.length : Nat)) := by rw [len_str (by rw [tx_len]; exact h), tx_len]
theorem add_int {i j : Int} : addD (.int i) (.int j) = some (.int (i + j)) := rfl
theorem sub_int {i j : Int} : subD (.int i) (.int j) = some (.int (i - j)) := rfl
theorem lt_int {i j : Int} : ltD (.int i) (.int j) = some (.bl (decide (i < j))) := rfl
theorem gt_int {i j : Int} : gtD (.int i) (.int j) = some (.bl (decide (i > j))) := rfl
theorem range_nat (n : Nat) : rangeL (n : Int) = (List.range n).map fun i => .int (i : Nat) := by unfold rangeL; rw [Int.toNat_natCast]
theorem range_get {n : Int} {k : Nat} {d : D} (h : (rangeL n)[k]? = some d) : k < n.toNat ∧ d = .int (k : Nat) := by
  unfold rangeL at h
  rw [List.getElem?_map] at h
  cases q : (List.range n.toNat)[k]? with
  | none => rw [q] at h; cases h
  | some j =>
    rw [q] at h
    have := List.getElem?_eq_some_iff.mp q
    obtain ⟨h1, h2⟩ := this
    simp at h1 h2
    cases h; subst h2
    exact ⟨by omega, rfl⟩
theorem flats_map {α : Type} {f : α → D} (h : ∀ a, flat (f a) = true) : ∀ l : List α, flats (l.map f) = true
  | [] => rfl
  | a :: r => by
    rw [List.map_cons]
    show (flat (f a) && flats (r.map f)) = true
    rw [h, flats_map h r]; rfl
end DL
namespace DL
open PySem L2
theorem fn_go {n k : Nat} {b : SF} {ds : List D} {d : D} (hl : ds.length = k) (h : ∃ ρ, Se b (ent n ds) (.rt d ρ)) : fnP n k b ds = some d := by
  obtain ⟨ρ, h⟩ := h
  exact fn_ev hl h
end DL

/-! DL15: the reckoning where the mode plays no part. -/
namespace DL
open PySem L2
def Vf (f : EF) (ρ : Ev) (d : D) : Prop := ∃ m, Ve f ρ d m
def Af (f : AF) (ρ : Ev) (ds : List D) : Prop := ∃ as, Ae f ρ as ∧ as.map (·.1) = ds
theorem Vf.of {f : EF} {ρ : Ev} {d : D} {m : Md} (h : Ve f ρ d m) : Vf f ρ d := ⟨m, h⟩
theorem vf_fz {i : Nat} {ρ : Ev} {d : D} (h : ρ[i]? = some (.fz d)) : Vf (eV i) ρ d := ⟨_, ve_fz h⟩
theorem vf_fa {i : Nat} {ρ : Ev} {d : D} (h : ρ[i]? = some (.fa d)) : Vf (eV i) ρ d := ⟨_, ve_fa h⟩
theorem vf_fn {i : Nat} {ρ : Ev} {d : D} (h : ρ[i]? = some (.fn d)) : Vf (eV i) ρ d := ⟨_, ve_fn h⟩
theorem vf_ow {i : Nat} {ρ : Ev} {d : D} (h : ρ[i]? = some (.ow d)) : Vf (eV i) ρ d := ⟨_, ve_ow h⟩
theorem vf_on {i : Nat} {ρ : Ev} {d : D} (h : ρ[i]? = some (.on d)) : Vf (eV i) ρ d := ⟨_, ve_on h⟩
theorem vf_c {d : D} {ρ : Ev} : Vf (eC d) ρ d := ⟨_, ve_c⟩
theorem vf_e2 {o : D → D → Option D} {f g : EF} {ρ : Ev} {a b c : D} (h1 : Vf f ρ a) (h2 : Vf g ρ b) (h : o a b = some c) : Vf (e2 o f g) ρ c := by
  obtain ⟨m, h1⟩ := h1; obtain ⟨n, h2⟩ := h2; exact ⟨_, ve_e2 h1 h2 h⟩
theorem vf_e1 {o : D → Option D} {f : EF} {ρ : Ev} {a c : D} (h1 : Vf f ρ a) (h : o a = some c) : Vf (e1 o f) ρ c := by
  obtain ⟨m, h1⟩ := h1; exact ⟨_, ve_e1 h1 h⟩
theorem vf_ix {o : D → D → Option D} {f g : EF} {ρ : Ev} {a b c : D} (h1 : Vf f ρ a) (h2 : Vf g ρ b) (h : o a b = some c) : Vf (eIx o f g) ρ c := by
  obtain ⟨m, h1⟩ := h1; obtain ⟨n, h2⟩ := h2; exact ⟨_, ve_ix h1 h2 h⟩
theorem vf_fld {n : Nat} {f : Str} {g : EF} {ρ : Ev} {c : D} {fs : List (Str × D)} (h1 : Vf g ρ (.ins n fs)) (h : getF fs f = some c) : Vf (eFld n f g) ρ c := by
  obtain ⟨m, h1⟩ := h1; exact ⟨_, ve_fld h1 h⟩
theorem af_nil {ρ : Ev} : Af aNil ρ [] := ⟨[], ae_nil, rfl⟩
theorem af_cons {f : EF} {g : AF} {ρ : Ev} {d : D} {ds : List D} (h1 : Vf f ρ d) (h2 : Af g ρ ds) : Af (aCons f g) ρ (d :: ds) := by
  obtain ⟨m, h1⟩ := h1
  obtain ⟨as, h2, rfl⟩ := h2
  exact ⟨_, ae_cons h1 h2, rfl⟩
theorem okNew_flats : ∀ {as : List (D × Md)}, flats (as.map (·.1)) = true → okNew as = true
  | [], _ => rfl
  | p :: r, h => by
    rw [List.map_cons] at h
    have h' : flat p.1 = true ∧ flats (r.map (·.1)) = true := by simpa [flats] using h
    simp [okNew, h'.1, okNew_flats h'.2]
theorem vn_call {f : List D → Option D} {g : AF} {ρ : Ev} {ds : List D} {d : D} (h1 : Af g ρ ds) (h : f ds = some d) : Ve (eCall f g) ρ d .new := by
  obtain ⟨as, h1, rfl⟩ := h1; exact ve_call h1 h
theorem vf_call {f : List D → Option D} {g : AF} {ρ : Ev} {ds : List D} {d : D} (h1 : Af g ρ ds) (h : f ds = some d) : Vf (eCall f g) ρ d := ⟨_, vn_call h1 h⟩
theorem vn_disp {mk : List D → D} {g : AF} {ρ : Ev} {ds : List D} (h1 : Af g ρ ds) (h2 : flats ds = true) (h3 : ds.length ≤ 16777216) : Ve (eDisp mk g) ρ (mk ds) .new := by
  obtain ⟨as, h1, rfl⟩ := h1; exact ve_disp h1 (okNew_flats h2) (by simpa using h3)
theorem vf_disp {mk : List D → D} {g : AF} {ρ : Ev} {ds : List D} (h1 : Af g ρ ds) (h2 : flats ds = true) (h3 : ds.length ≤ 16777216) : Vf (eDisp mk g) ρ (mk ds) := ⟨_, vn_disp h1 h2 h3⟩
theorem of_some {f : EF} {ρ : Ev} {i : Int} (h : Vf f ρ (.int i)) : Oe (oSome f) ρ (some i) := by
  obtain ⟨m, h⟩ := h; exact oe_some h
theorem vn_sl {f : EF} {l h : OF} {ρ : Ev} {a c : D} {lo hi : Option Int} (h1 : Vf f ρ a) (h2 : Oe l ρ lo) (h3 : Oe h ρ hi) (h4 : slD a lo hi = some c) : Ve (eSl f l h) ρ c .new := by
  obtain ⟨m, h1⟩ := h1; exact ve_sl h1 h2 h3 h4
theorem vf_sl {f : EF} {l h : OF} {ρ : Ev} {a c : D} {lo hi : Option Int} (h1 : Vf f ρ a) (h2 : Oe l ρ lo) (h3 : Oe h ρ hi) (h4 : slD a lo hi = some c) : Vf (eSl f l h) ρ c := ⟨_, vn_sl h1 h2 h3 h4⟩
theorem vf_and_t {f g : EF} {ρ : Ev} {d : D} (h1 : Vf f ρ (.bl true)) (h2 : Vf g ρ d) : Vf (eAnd f g) ρ d := by
  obtain ⟨m, h1⟩ := h1; obtain ⟨n, h2⟩ := h2; exact ⟨_, ve_and_t h1 h2⟩
theorem vf_and_f {f g : EF} {ρ : Ev} (h1 : Vf f ρ (.bl false)) : Vf (eAnd f g) ρ (.bl false) := by
  obtain ⟨m, h1⟩ := h1; exact ⟨_, ve_and_f h1⟩
theorem vf_or_f {f g : EF} {ρ : Ev} {d : D} (h1 : Vf f ρ (.bl false)) (h2 : Vf g ρ d) : Vf (eOr f g) ρ d := by
  obtain ⟨m, h1⟩ := h1; obtain ⟨n, h2⟩ := h2; exact ⟨_, ve_or_f h1 h2⟩
theorem vf_or_t {f g : EF} {ρ : Ev} (h1 : Vf f ρ (.bl true)) : Vf (eOr f g) ρ (.bl true) := by
  obtain ⟨m, h1⟩ := h1; exact ⟨_, ve_or_t h1⟩
theorem vf_if {c : Ev → Option Bool} {f g : EF} {ρ : Ev} {d : D} {b : Bool} (h : Te c ρ b) (h1 : b = true → Vf f ρ d) (h2 : b = false → Vf g ρ d) : Vf (eIf c f g) ρ d := by
  cases b with
  | true => obtain ⟨m, h1⟩ := h1 rfl; exact ⟨_, ve_if_t h h1⟩
  | false => obtain ⟨m, h1⟩ := h2 rfl; exact ⟨_, ve_if_f h h1⟩
theorem tf_v {f : EF} {ρ : Ev} {b : Bool} (h : Vf f ρ (.bl b)) : Te (tE f) ρ b := by
  obtain ⟨m, h⟩ := h; exact te_v h
theorem sf_set {i : Nat} {f : EF} {ρ : Ev} {d : D} {s : Sl} (h : Vf f ρ d) (h1 : ρ[i]? = some s) (h2 : freeS s = true) (fl : flat d = true) : Se (sSet i f) ρ (.nx (ρ.set i (.fn d))) := by
  obtain ⟨m, h⟩ := h; exact se_set h (setS_flat h1 h2 fl)
theorem sn_set {i : Nat} {f : EF} {ρ : Ev} {d : D} {s : Sl} (h : Ve f ρ d .new) (h1 : ρ[i]? = some s) (h2 : freeS s = true) : Se (sSet i f) ρ (.nx (ρ.set i (.fn d))) := se_set h (setS_new h1 h2)
theorem sf_ret {f : EF} {ρ : Ev} {d : D} (h : Vf f ρ d) (h2 : flat d = true) : Se (sRet f) ρ (.rt d ρ) := by
  obtain ⟨m, h⟩ := h; exact se_ret h (by rw [h2]; rfl) rfl
theorem sn_ret {f : EF} {ρ : Ev} {d : D} (h : Ve f ρ d .new) : Se (sRet f) ρ (.rt d ρ) := se_ret h (by simp [isNew]) rfl
theorem nf_flat {f : EF} {ρ : Ev} {d : D} (h : Vf f ρ d) (h2 : flat d = true) : Ne (nFlat f) ρ d := by
  obtain ⟨m, h⟩ := h; exact ne_flat h h2
theorem sf_if_set {c : Ev → Option Bool} {i : Nat} {f : EF} {ρ : Ev} {b : Bool} {d d0 : D} (h1 : Te c ρ b) (h0 : ρ[i]? = some (.fn d0)) (h2 : b = true → Vf f ρ d) (fl : flat d = true) : Se (sIf c (sSet i f) bNil) ρ (.nx (ρ.set i (.fn (if b = true then d else d0)))) := by
  cases b with
  | true => obtain ⟨m, h2⟩ := h2 rfl; exact se_if_set h1 h0 (fun _ => h2) fl
  | false => exact se_if_set (m := .new) h1 h0 (fun h => by cases h) fl
theorem xf_range {f : EF} {ρ : Ev} {n : Int} (h : Vf f ρ (.int n)) (h1 : -4611686018427387904 ≤ n) (h2 : n < 4611686018427387904) : Xe (iR f) ρ (rangeL n) .new := by
  obtain ⟨m, h⟩ := h; exact xe_range h h1 h2
/-- a comprehension over a range, each item flat -/
theorem vn_lcr {f : EF} {ρ : Ev} {i : Nat} {e : EF} {n : Nat} {F : Nat → D} (h : Vf f ρ (.int (n : Nat))) (hn : n ≤ 16777216) (hi : i < ρ.length)
    (hF : ∀ k, k < n → Vf e ((wipeE ρ [i]).set i (.fn (.int (k : Nat)))) (F k)) (hf : ∀ k, flat (F k) = true) :
    Ve (eLc (iR f) [i] (gN i) (fun _ => some true) e) ρ (.lst ((List.range n).map F)) .new := by
  refine ve_lc (xf_range h (by omega) (by omega)) (by simp [rangeL]; omega) ?_
  rw [range_nat]
  have key := @lc_map (gN i) e .new (wipeE ρ [i]) (fun d => match d with | .int k => F k.toNat | d => d) ((List.range n).map fun k => .int (k : Nat)) ?_
  · rw [List.map_map] at key
    rw [key]
    congr 2
  · intro d hd
    simp only [List.mem_map, List.mem_range] at hd
    obtain ⟨k, hk, rfl⟩ := hd
    obtain ⟨m, hv⟩ := hF k hk
    have e0 : (wipeE ρ [i])[i]? = some .emp := by
      show (ρ.set i .emp)[i]? = _
      rw [List.getElem?_set_self hi]
    exact ⟨_, m, setS_flat e0 rfl rfl, by simpa using hv, by simp [hf]⟩
/-- a comprehension over a list, each item flat -/
theorem vn_lcl {f : EF} {ρ : Ev} {i : Nat} {e : EF} {ds : List D} {F : D → D} (h : Vf f ρ (.lst ds)) (hn : ds.length ≤ 16777216) (hi : i < ρ.length) (hd : flats ds = true)
    (hF : ∀ d, d ∈ ds → Vf e ((wipeE ρ [i]).set i (.fn d)) (F d)) (hf : ∀ d, d ∈ ds → flat (F d) = true) :
    Ve (eLc (iE f) [i] (gN i) (fun _ => some true) e) ρ (.lst (ds.map F)) .new := by
  obtain ⟨m, h⟩ := h
  refine ve_lc (xe_seq h rfl) hn ?_
  refine lc_map fun d hm => ?_
  obtain ⟨n, hv⟩ := hF d hm
  have e0 : (wipeE ρ [i])[i]? = some .emp := by
    show (ρ.set i .emp)[i]? = _
    rw [List.getElem?_set_self hi]
  have fd : ∀ (ds : List D), flats ds = true → ∀ d ∈ ds, flat d = true := by
    intro ds
    induction ds with
    | nil => intro _ d h; cases h
    | cons a r ih =>
      intro h d hm
      have h' : flat a = true ∧ flats r = true := by simpa [flats] using h
      rcases List.mem_cons.mp hm with rfl | hm
      · exact h'.1
      · exact ih h'.2 d hm
  exact ⟨_, n, setS_flat e0 rfl (fd ds hd d hm), hv, by simp [hf d hm]⟩
/-- the body gives d back -/
def Sr (g : SF) (ρ : Ev) (d : D) : Prop := ∃ ρ', Se g ρ (.rt d ρ')
theorem fn_sr {n k : Nat} {b : SF} {ds : List D} {d : D} (hl : ds.length = k) (h : Sr b (ent n ds) d) : fnP n k b ds = some d := by
  obtain ⟨ρ, h⟩ := h
  exact fn_ev hl h
theorem sr_seq {g h : SF} {ρ ρ' : Ev} {d : D} (h1 : Se g ρ (.nx ρ')) (h2 : Sr h ρ' d) : Sr (bSeq g h) ρ d := by
  obtain ⟨ρ2, h2⟩ := h2
  exact ⟨_, se_seq h1 h2⟩
theorem sr_now {g h : SF} {ρ : Ev} {d : D} (h1 : Sr g ρ d) : Sr (bSeq g h) ρ d := by
  obtain ⟨ρ2, h1⟩ := h1
  exact ⟨_, se_seq_rt h1⟩
theorem sr_ret {f : EF} {ρ : Ev} {d : D} (h : Vf f ρ d) (h2 : flat d = true) : Sr (sRet f) ρ d := ⟨_, sf_ret h h2⟩
theorem srn_ret {f : EF} {ρ : Ev} {d : D} (h : Ve f ρ d .new) : Sr (sRet f) ρ d := ⟨_, sn_ret h⟩
theorem sr_retOn {i : Nat} {ρ : Ev} {d : D} (h : ρ[i]? = some (.on d)) : Sr (sRetOn i) ρ d := ⟨_, se_retOn h⟩
theorem sr_if_t {c : Ev → Option Bool} {g h : SF} {ρ : Ev} {d : D} {b : Bool} (h1 : Te c ρ b) (hb : b = true) (h2 : Sr g ρ d) : Sr (sIf c g h) ρ d := by
  obtain ⟨ρ2, h2⟩ := h2
  exact ⟨_, se_if_t h1 hb h2⟩
theorem sr_if_f {c : Ev → Option Bool} {g h : SF} {ρ : Ev} {d : D} {b : Bool} (h1 : Te c ρ b) (hb : b = false) (h2 : Sr h ρ d) : Sr (sIf c g h) ρ d := by
  obtain ⟨ρ2, h2⟩ := h2
  exact ⟨_, se_if_f h1 hb h2⟩
/-- a test that gives back now, or goes on -/
theorem sr_guard {c : Ev → Option Bool} {g h : SF} {ρ : Ev} {d : D} {b : Bool} (h1 : Te c ρ b) (ht : b = true → Sr g ρ d) (hf : b = false → Sr h ρ d) : Sr (bSeq (sIf c g bNil) h) ρ d := by
  cases b with
  | true => exact sr_now (sr_if_t h1 rfl (ht rfl))
  | false => exact sr_seq (se_if_f h1 rfl se_nil) (hf rfl)
def Sx (g : SF) (ρ : Ev) (Φ : Ev → Prop) : Prop := ∃ ρ', (Se g ρ (.nx ρ') ∨ Se g ρ (.ct ρ')) ∧ Φ ρ'
def Sg (g : GF) (d : D) (m : Md) (ρ : Ev) (Φ : Ev → Prop) : Prop := ∃ ρ1, g d m ρ = some ρ1 ∧ Φ ρ1
theorem sx_seq {g h : SF} {ρ ρ' : Ev} {Φ : Ev → Prop} (h1 : Se g ρ (.nx ρ')) (h2 : Sx h ρ' Φ) : Sx (bSeq g h) ρ Φ := by
  obtain ⟨ρ2, h2 | h2, h3⟩ := h2
  · exact ⟨_, .inl (se_seq h1 h2), h3⟩
  · exact ⟨_, .inr (se_seq h1 h2), h3⟩
theorem sx_end {g : SF} {ρ ρ' : Ev} {Φ : Ev → Prop} (h1 : Se g ρ (.nx ρ')) (h2 : Φ ρ') : Sx g ρ Φ := ⟨_, .inl h1, h2⟩
theorem sx_if {c : Ev → Option Bool} {g h : SF} {ρ : Ev} {Φ : Ev → Prop} {b : Bool} (h1 : Te c ρ b) (ht : b = true → Sx g ρ Φ) (hf : b = false → Sx h ρ Φ) : Sx (sIf c g h) ρ Φ := by
  cases b with
  | true => obtain ⟨ρ2, h2 | h2, h3⟩ := ht rfl; exact ⟨_, .inl (se_if_t h1 rfl h2), h3⟩; exact ⟨_, .inr (se_if_t h1 rfl h2), h3⟩
  | false => obtain ⟨ρ2, h2 | h2, h3⟩ := hf rfl; exact ⟨_, .inl (se_if_f h1 rfl h2), h3⟩; exact ⟨_, .inr (se_if_f h1 rfl h2), h3⟩
theorem sx_nil {ρ : Ev} {Φ : Ev → Prop} (h : Φ ρ) : Sx bNil ρ Φ := ⟨_, .inl se_nil, h⟩
theorem sg_flat {i : Nat} {d : D} {m : Md} {ρ : Ev} {Φ : Ev → Prop} {s : Sl} (h : ρ[i]? = some s) (h2 : freeS s = true) (f : flat d = true) (hΦ : Φ (ρ.set i (.fn d))) : Sg (gN i) d m ρ Φ := ⟨_, setS_flat h h2 f, hΦ⟩
theorem sg_two {i j : Nat} {a b : D} {m : Md} {ρ : Ev} {Φ : Ev → Prop} {s t : Sl} (h : ρ[i]? = some s) (h2 : freeS s = true) (f : flat a = true) (h' : (ρ.set i (.fn a))[j]? = some t) (h2' : freeS t = true) (f' : flat b = true)
    (hΦ : Φ ((ρ.set i (.fn a)).set j (.fn b))) : Sg (gT 2 (gsCons i (gsCons j gsNil))) (.tup [a, b]) m ρ Φ := by
  refine ⟨_, ?_, hΦ⟩
  show (setS i a (effm m a) ρ).bind (fun ρ' => (setS j b (effm m b) ρ').bind fun ρ'' => some ρ'') = _
  rw [setS_flat h h2 f, Option.bind_some, setS_flat h' h2' f']; rfl
theorem sr_for {f : IF} {g : GF} {b h : SF} {ρ : Ev} {ds : List D} {m : Md} {r : D} (P : Nat → Ev → Prop) (hx : Xe f ρ ds m) (hm : notOwn m = true) (h0 : P 0 ρ)
    (hs : ∀ i d ρ, ds[i]? = some d → P i ρ → Sg g d (effm m d) ρ fun ρ1 => Sx b ρ1 (P (i + 1))) (he : ∀ ρ', P ds.length ρ' → Sr h ρ' r) : Sr (bSeq (sFor f g b) h) ρ r := by
  obtain ⟨ρ', h1, h2⟩ := se_for P hx hm h0 fun i d ρ e p => by
    obtain ⟨ρ1, q1, ρ2, q2, q3⟩ := hs i d ρ e p
    exact ⟨ρ1, ρ2, q1, q2, q3⟩
  exact sr_seq h1 (he ρ' h2)
/-- the body gives something back of which Φ holds -/
def Sp (g : SF) (ρ : Ev) (Φ : D → Prop) : Prop := ∃ d, Sr g ρ d ∧ Φ d
theorem fn_sp {n k : Nat} {b : SF} {ds : List D} {Φ : D → Prop} (hl : ds.length = k) (h : Sp b (ent n ds) Φ) : ∃ d, fnP n k b ds = some d ∧ Φ d := by
  obtain ⟨d, h, h2⟩ := h
  exact ⟨d, fn_sr hl h, h2⟩
theorem Sp.of {g : SF} {ρ : Ev} {d : D} {Φ : D → Prop} (h : Sr g ρ d) (h2 : Φ d) : Sp g ρ Φ := ⟨d, h, h2⟩
theorem sp_seq {g h : SF} {ρ ρ' : Ev} {Φ : D → Prop} (h1 : Se g ρ (.nx ρ')) (h2 : Sp h ρ' Φ) : Sp (bSeq g h) ρ Φ := by
  obtain ⟨d, h2, h3⟩ := h2
  exact ⟨_, sr_seq h1 h2, h3⟩
theorem sp_guard {c : Ev → Option Bool} {g h : SF} {ρ : Ev} {Φ : D → Prop} {b : Bool} (h1 : Te c ρ b) (ht : b = true → Sp g ρ Φ) (hf : b = false → Sp h ρ Φ) : Sp (bSeq (sIf c g bNil) h) ρ Φ := by
  cases b with
  | true => obtain ⟨d, q, r⟩ := ht rfl; exact ⟨_, sr_now (sr_if_t h1 rfl q), r⟩
  | false => obtain ⟨d, q, r⟩ := hf rfl; exact ⟨_, sr_seq (se_if_f h1 rfl se_nil) q, r⟩
theorem sp_ret {f : EF} {ρ : Ev} {d : D} {Φ : D → Prop} (h : Vf f ρ d) (h2 : flat d = true) (h3 : Φ d) : Sp (sRet f) ρ Φ := ⟨_, sr_ret h h2, h3⟩
theorem spn_ret {f : EF} {ρ : Ev} {d : D} {Φ : D → Prop} (h : Ve f ρ d .new) (h3 : Φ d) : Sp (sRet f) ρ Φ := ⟨_, srn_ret h, h3⟩
theorem ix_mem {ds : List D} {i : Int} (h0 : 0 ≤ i) (h : i < ds.length) : ∃ d, d ∈ ds ∧ ixD (.lst ds) (.int i) = some d := by
  have hl : i.toNat < ds.length := by omega
  exact ⟨ds[i.toNat], List.getElem_mem hl, ixl_nat h0 (List.getElem?_eq_getElem hl)⟩
theorem lc_mapS {g : GF} {e : EF} {m : Md} {ρ : Ev} {ds : List D} (F : D → D) (h : ∀ d ∈ ds, Sg g d (effm m d) ρ fun ρ1 => Vf e ρ1 (F d)) (hf : ∀ d ∈ ds, flat (F d) = true) : lcGo g (fun _ => some true) e m ρ ds = some (ds.map F) :=
  lc_map fun d hd => by
    obtain ⟨ρ1, h1, n, h2⟩ := h d hd
    exact ⟨ρ1, n, h1, h2, by simp [hf d hd]⟩
theorem lc_filterS {g : GF} {t : Ev → Option Bool} {e : EF} {m : Md} {ρ : Ev} {ds : List D} (F : D → D) (p : D → Bool) (h : ∀ d ∈ ds, Sg g d (effm m d) ρ fun ρ1 => Te t ρ1 (p d) ∧ (p d = true → Vf e ρ1 (F d))) (hf : ∀ d ∈ ds, flat (F d) = true) : lcGo g t e m ρ ds = some ((ds.filter p).map F) :=
  lc_filter fun d hd => by
    obtain ⟨ρ1, h1, h2, h3⟩ := h d hd
    exact ⟨ρ1, h1, h2, fun q => by
      obtain ⟨n, h4⟩ := h3 q
      exact ⟨n, h4, by simp [hf d hd]⟩⟩
theorem sn_if_set {c : Ev → Option Bool} {i : Nat} {f : EF} {ρ : Ev} {b : Bool} {d d0 : D} (h1 : Te c ρ b) (h0 : ρ[i]? = some (.fn d0)) (h2 : b = true → Ve f ρ d .new) : Se (sIf c (sSet i f) bNil) ρ (.nx (ρ.set i (.fn (if b = true then d else d0)))) := by
  cases b with
  | true => exact se_if_t h1 rfl (sn_set (h2 rfl) h0 rfl)
  | false =>
    refine se_if_f h1 rfl ?_
    have e : ρ.set i (.fn d0) = ρ := by
      apply List.ext_getElem?
      intro j
      by_cases q : i = j
      · subst q
        rw [List.getElem?_set_self (List.getElem?_eq_some_iff.mp h0).1, h0]
      · rw [List.getElem?_set_ne q]
    simp only [Bool.false_eq_true, if_false, e]
    exact se_nil
def Wh (c : Ev → Option Bool) (b : SF) (ρ ρ' : Ev) : Prop := ∃ n, whGo c b n ρ = some (.nx ρ')
theorem wh_stop {c : Ev → Option Bool} {b : SF} {ρ : Ev} (h : Te c ρ false) : Wh c b ρ ρ := ⟨1, by unfold Te at h; rw [whGo, h]; rfl⟩
theorem wh_step {c : Ev → Option Bool} {b : SF} {ρ ρ1 ρ' : Ev} (h : Te c ρ true) (h1 : Se b ρ (.nx ρ1)) (h2 : Wh c b ρ1 ρ') : Wh c b ρ ρ' := by
  obtain ⟨n, h2⟩ := h2
  exact ⟨n + 1, by unfold Te at h; unfold Se at h1; rw [whGo, h]; simp [h1, h2]⟩
theorem se_wh {c : Ev → Option Bool} {b : SF} {ρ ρ' : Ev} (h : Wh c b ρ ρ') : Se (sWhile c b) ρ (.nx ρ') := by
  obtain ⟨n, h⟩ := h
  exact sWhile_of h
theorem getK_map {α : Type} {f : α → Key} {g : α → D} (inj : ∀ i j, f i = f j → i = j) {i : α} : ∀ {l : List α}, i ∈ l → getK (l.map fun i => (f i, g i)) (f i) = some (g i)
  | [], h => by cases h
  | a :: r, h => by
    rw [List.map_cons, getK]
    by_cases q : f a = f i
    · rw [if_pos q, inj _ _ q]
    · rw [if_neg q]
      rcases List.mem_cons.mp h with e | h
      · exact absurd (by rw [e]) q
      · exact getK_map inj h
theorem putG_new {β : Type} {kvs : List (Key × β)} {k : Key} {y : β} (h : (kvs.any fun kv => decide (kv.1 = k)) = false) : putG kvs k y = kvs ++ [(k, y)] := by
  unfold putG
  rw [h]; rfl
theorem ix_last {ds : List D} {d : D} (h : ds.getLast? = some d) : ixD (.lst ds) (.int (-1)) = some d := by
  refine ix_lst ?_
  have hl : ds.length ≠ 0 := by
    intro q
    rw [List.length_eq_zero_iff.mp q] at h
    cases h
  unfold atI ixN
  rw [if_neg (by omega), if_pos (by omega), Option.bind_some]
  rw [List.getLast?_eq_getElem?] at h
  rw [← h]
  congr 1
  omega
end DL

/-! DL16: displays of dicts. -/
namespace DL
open PySem L2
section
variable {Γ : Ga} {x : Fx} {B : Hp} {F : Nat → List Addr} {ρ : Ev} {σ : St} {H : Hp}
/-- a thing that no one knows of is written, and known from then on -/
theorem Ok.turn (o : Ok Γ x B F ρ σ H) {a : Addr} {u w : HO} (hu : H a = some u) (hnt : ∀ xs, u ≠ .tup xs) (hw : ∀ xs, w ≠ .tup xs) (l : Loose x B F a) : Ok Γ x (upd B a w) F ρ σ (upd H a w) where
  kp := fun b v e => by rw [upd_ne (fun q => by rw [q, l.2.1] at e; cases e)]; exact o.kp b v e
  bh := upd_upd_same o.bh
  tup := fun b xs e => by
    by_cases q : b = a
    · subst q; rw [upd_same] at e; cases e; exact absurd rfl (hw xs)
    · rw [upd_ne q] at e ⊢; exact o.tup b xs e
  born := fun b v e => by
    by_cases q : b = a
    · subst q; exact .inr l.2.2.1
    · rw [upd_ne q] at e; exact o.born b v e
  dom := fun b e => by
    by_cases q : b = a
    · subst q; exact l.2.2.1
    · rw [upd_ne q] at e; exact o.dom b e
  fk := fun i b hb => by
    obtain ⟨h1, h2, h3⟩ := o.fk i b hb
    have hne : b ≠ a := fun q => l.2.2.2 i (q ▸ hb)
    exact ⟨h1, by rw [upd_ne hne]; exact h2, h3⟩
  dj := o.dj
  nd := o.nd
  out := o.out
  len := o.len
  at_ := fun i s hs => by
    have q := o.at_ i s hs
    have hk : ∀ b ∈ F i, upd H a w b = H b := fun b hb => by
      have hne : b ≠ a := fun q => l.2.2.2 i (q ▸ hb)
      exact upd_ne hne
    have tk : TupK H (upd H a w) := TupK.upd (by intro xs z; rw [hu] at z; cases z; exact absurd rfl (hnt xs))
    cases s with
    | emp => exact q
    | fz => exact q
    | fa => exact q
    | fn => obtain ⟨q1, v, q2, q3⟩ := q; exact ⟨q1, v, q2, q3.mono (same_upd l.1)⟩
    | ow => obtain ⟨v, q1, q2, q3⟩ := q; exact ⟨v, q1, q2.keep tk hk, q3⟩
    | on => obtain ⟨v, q1, q2, q3⟩ := q; exact ⟨v, q1, q2.keep tk hk, q3⟩
end
def keyD : Key → D
  | .inl i => .int i
  | .inr z => .str z
theorem keyD_is {Γ : Ga} {H : Hp} {k : Key} {v : V} (h : Is Γ H (keyD k) v) : v = kV k := by cases k <;> exact h
/-- the pairs of a display: the keys are written, f tells the values -/
def PuP (cm : Nat → Addr) (X : Cx) (pos : Pos) (keys : List (Option Expr)) (values : List Expr) (ks : List Key) (f : AF) : Prop :=
  ∃ trs, PPs X pos keys values trs ∧ ∀ (x : Fx) (B : Hp) (F : Nat → List Addr) (ρ : Ev) (σ : St) (H : Hp) (ds : List (D × Md)) (Q : List (V × V) → Hp → Prop), Ok (gx X cm) x B F ρ σ H → f ρ = some ds →
    (∀ vs B' H', Gr B H B' H' → Ok (gx X cm) x B' F ρ σ H' → ks.length = ds.length → Paired (fun (p : D × Md) v => Val (gx X cm) x p.2 B' H' p.1 v) ds vs → Q ((List.zip ks vs).map fun kv => (kV kv.1, kv.2)) H') → tPairs trs σ H Q
section
variable {cm : Nat → Addr} {X : Cx} {pos : Pos}
theorem pup_nil : PuP cm X pos [] [] [] aNil := ⟨_, pps_nil, fun x B F ρ σ H ds Q ok hf hQ => by
  cases hf
  exact hQ [] B H (Gr.refl B H) ok rfl .nil⟩
theorem aCons_some' {f : EF} {g : AF} {ρ : Ev} {ds : List (D × Md)} (h : aCons f g ρ = some ds) : ∃ d r, f ρ = some d ∧ g ρ = some r ∧ ds = d :: r := by
  unfold aCons at h
  cases e : f ρ with
  | none => rw [e] at h; cases h
  | some d =>
    rw [e] at h
    simp only [Option.bind_some] at h
    cases e2 : g ρ with
    | none => rw [e2] at h; cases h
    | some r => rw [e2] at h; cases h; exact ⟨d, r, rfl, rfl, rfl⟩
theorem pup_cons {k : Key} {ke ve : Expr} {keys : List (Option Expr)} {values : List Expr} {ks : List Key} {fv : EF} {f : AF} (hk : PuE cm X ke (eC (keyD k))) (hv : PuE cm X ve fv) (hr : PuP cm X pos keys values ks f) : PuP cm X pos (some ke :: keys) (ve :: values) (k :: ks) (aCons fv f) := by
  obtain ⟨tk, pk, qk⟩ := hk
  obtain ⟨tv, pv, qv⟩ := hv
  obtain ⟨tr, pr, qr⟩ := hr
  refine ⟨_, pps_cons pk pv pr, fun x B F ρ σ H ds Q ok hf hQ => ?_⟩
  obtain ⟨d, r, e1, e2, rfl⟩ := aCons_some' hf
  refine qk x B F ρ σ H (keyD k) .new _ ok rfl fun v B1 H1 g1 ok1 v1 => ?_
  have ev := keyD_is v1
  subst ev
  refine qv x B1 F ρ σ H1 d.1 d.2 _ ok1 e1 fun w B2 H2 g2 ok2 v2 => ?_
  refine qr x B2 F ρ σ H2 r _ ok2 e2 fun vs B3 H3 g3 ok3 hl hp => ?_
  exact hQ (w :: vs) B3 H3 (g1.trans (g2.trans g3)) ok3 (by rw [List.length_cons, List.length_cons, hl]) (.cons (v2.mono g3) hp)
theorem zip_keys {α : Type} : ∀ {ks : List Key} {vs : List α}, ks.length = vs.length → (List.zip ks vs).map (·.1) = ks
  | [], [], _ => rfl
  | k :: ks, v :: vs, h => by rw [List.zip_cons_cons, List.map_cons, zip_keys (by simpa using h)]
theorem mergeK_new : ∀ (more acc : List (Key × V)), (acc.map (·.1) ++ more.map (·.1)).Nodup → mergeK acc more = acc ++ more
  | [], acc, _ => by rw [List.append_nil]; rfl
  | p :: r, acc, h => by
    have e : putK acc p.1 p.2 = acc ++ [p] := by
      unfold putK
      have : (acc.any fun kv => decide (kv.1 = p.1)) = false := by
        rw [List.any_eq_false]
        intro kv hkv
        simp only [decide_eq_true_eq]
        intro e
        rw [List.map_cons] at h
        have := (List.nodup_append.mp h).2.2 kv.1 (List.mem_map_of_mem hkv) p.1 (by simp)
        exact this e
      rw [this]; rfl
    show mergeK (putK acc p.1 p.2) r = _
    rw [e, mergeK_new r]
    · simp
    · rw [List.map_append]
      simpa using h
def mkDic (ks : List Key) (ds : List D) : D := .dic (List.zip ks ds)
theorem isK_zip {Γ : Ga} {H : Hp} : ∀ {ks : List Key} {ds : List D} {vs : List V}, Iss Γ H ds vs → IsK Γ H (List.zip ks ds) (List.zip ks vs)
  | [], _, _, _ => by simp [IsK]
  | k :: ks, [], _, h => by rw [show _ = [] from h]; simp [IsK]
  | k :: ks, d :: ds, _, ⟨v, s, e, h1, h2⟩ => by
    subst e
    exact ⟨v, _, rfl, h1, isK_zip h2⟩
theorem pu_dict {keys : List (Option Expr)} {values : List Expr} {ks : List Key} {f : AF} (hp : PuP cm X pos keys values ks f) (hn : ks.Nodup) (hall : keys.all (·.isSome) = true := by rfl) (hl : keys.length = values.length := by rfl) (h0 : keys ≠ [] := by simp)
    (h15 : keys.length ≤ 15 := by decide) (hkl : ks.length = keys.length := by rfl) : PuE cm X (.Dict keys values pos) (eDisp (mkDic ks) f) := by
  obtain ⟨t, p, q⟩ := hp
  refine ⟨_, pe_disp p hall hl h0 h15, fun x B F ρ σ H d m Q ok hf hQ => ?_⟩
  unfold eDisp at hf
  cases ea : f ρ with
  | none => rw [ea] at hf; cases hf
  | some as =>
    rw [ea] at hf
    simp only [Option.bind_some] at hf
    split at hf
    · rename_i h
      cases hf
      intro l hlz
      obtain ⟨g1, ok1⟩ := ok.laidH (o := .dK []) hlz (fun xs z => nomatch z)
      refine q x B F ρ σ _ as _ ok1 ea fun vs B' H' g ok' hl2 hvs => ?_
      have hp : H' l = some (.dK []) := g.hh _ _ upd_same
      have hb : B' l = none := by
        cases e : B' l with
        | none => rfl
        | some u =>
          rcases g.new l u e with ⟨xs, rfl⟩ | h4 | h4
          · have := ok'.bh l _ e; rw [hp] at this; cases this
          · rw [Same.free ok.bh hlz] at h4; cases h4
          · rw [upd_same] at h4; cases h4
      have hlen : ks.length = vs.length := by rw [hl2]; exact paired_len hvs
      have lo : Loose x B' F l := ok'.loose ok hlz hb
      refine ⟨hp, List.zip ks vs, rfl, ?_, ?_⟩
      · rw [List.length_zip, ← hlen, Nat.min_self, hkl]; exact h15
      · have em : mergeK [] (List.zip ks vs) = List.zip ks vs := by
          rw [mergeK_new _ [] (by rw [zip_keys hlen]; simpa using hn)]; rfl
        rw [em]
        have ok2 := ok'.turn (w := .dK (List.zip ks vs)) hp (fun xs z => nomatch z) (fun xs z => nomatch z) lo
        refine hQ (.ref l) (upd B' l (.dK (List.zip ks vs))) _ ⟨fun b u e => ?_, (g1.trans g).bb.trans (same_upd hb), fun b u e => ?_⟩ ok2 ⟨l, List.zip ks vs, rfl, upd_same, ?_⟩
        · rw [upd_ne (fun q => by rw [q, hlz] at e; cases e)]
          exact (g1.trans g).hh b u e
        · by_cases q : b = l
          · subst q; exact .inr (.inr hlz)
          · rw [upd_ne q] at e; exact (g1.trans g).new b u e
        · exact isK_zip ((paired_issNew ok' h.1 hvs).mono (same_upd hb))
    · cases hf
end
end DL

/-! DL17: a text in lists and tuples of texts and nones. -/
namespace DL
open PySem L2
def oD : Option (List Nat) → D
  | none => .non
  | some c => .str (tx c)
def oP : Option (List Nat) → PyData
  | none => .none
  | some c => .str (tx c)
def oV : Option (List Nat) → V
  | none => .non
  | some c => .str (tx c)
theorem oD_flat (o : Option (List Nat)) : flat (oD o) = true := by cases o <;> rfl
theorem toPys_o : ∀ os : List (Option (List Nat)), toPys (os.map oD) = some (os.map oP)
  | [] => by simp [toPys]
  | none :: r => by rw [List.map_cons, toPys, toPys_o r]; simp [oD, toPy, oP]
  | some c :: r => by rw [List.map_cons, toPys, toPys_o r]; simp [oD, toPy, oP]
theorem atomsV_o : ∀ os : List (Option (List Nat)), atomsV (os.map oD) = some (os.map oV)
  | [] => rfl
  | none :: r => by rw [List.map_cons, atomsV, atomsV_o r]; rfl
  | some c :: r => by rw [List.map_cons, atomsV, atomsV_o r]; rfl
theorem tx_eq (a b : List Nat) : (tx a == tx b) = (a == b) := by
  by_cases h : a = b
  · subst h; simp
  · rw [beq_eq_false_iff_ne.mpr (fun e => h (tx_inj e)), beq_eq_false_iff_ne.mpr h]
theorem some_beq (a b : List Nat) : (some a == some b) = (a == b) := rfl
theorem eqv_o (o : Option (List Nat)) (c : List Nat) : PyData.eqv (oP o) (.str (tx c)) = (o == some c) := by
  cases o with
  | none => simp [oP, PyData.eqv]
  | some a => rw [some_beq, ← tx_eq]; simp [oP, PyData.eqv]
theorem eqV_o (o : Option (List Nat)) (c : List Nat) : eqV (oV o) (.str (tx c)) = (o == some c) := by
  cases o with
  | none => rfl
  | some a => rw [some_beq, ← tx_eq]; rfl
def okO (o : Option (List Nat)) : Bool := match o with
  | none => true
  | some c => okC c
theorem in_lst {c : List Nat} {os : List (Option (List Nat))} (hc : okC c = true) (ho : ∀ o ∈ os, okO o = true) : inB (.str (tx c)) (.lst (os.map oD)) = some (os.any (· == some c)) := by
  have hd : dk 64 (.lst (os.map oD)) = true := by
    show ((os.map oD).all (dk 63)) = true
    rw [List.all_eq_true]
    intro d hd
    simp only [List.mem_map] at hd
    obtain ⟨o, h1, rfl⟩ := hd
    cases o with
    | none => rfl
    | some a => exact tx_ok (ho _ h1)
  obtain ⟨p, h1, h2, h3⟩ := dk_py hd
  have e : toPy (.lst (os.map oD)) = some (.list (os.map oP)) := by rw [toPy, toPys_o]; rfl
  rw [e] at h1
  cases h1
  have s1 := shaped_of h2 h3 (Nat.le_refl _)
  have s2 : SeqAt.shaped (.str (tx c)) = true := shaped_of (k := 0) (by simpa [PyData.canLay0] using tx_ok hc) (by simp [PyData.depth]) (by omega)
  unfold inB
  simp only [toPys_o, show toPy (.str (tx c)) = some (.str (tx c)) by simp [toPy], Option.bind_some, s1, s2, and_self, if_true, List.any_map]
  congr 2
  funext o
  exact eqv_o o c
theorem in_tup {c : List Nat} {os : List (Option (List Nat))} : inB (.str (tx c)) (.tup (os.map oD)) = some (os.any (· == some c)) := by
  show ((atomV (.str (tx c))).bind fun v => (atomsV (os.map oD)).bind fun vs => some (inV v vs)) = _
  rw [atomsV_o, show atomV (.str (tx c)) = some (.str (tx c)) from rfl]
  simp only [Option.bind_some, inV, List.any_map]
  congr 2
  funext o
  exact eqV_o o c
theorem in_of {x c : D} {b : Bool} (h : inB x c = some b) : inD x c = some (.bl b) := by unfold inD; rw [h]; rfl
theorem nin_of {x c : D} {b : Bool} (h : inB x c = some b) : ninD x c = some (.bl (!b)) := by unfold ninD; rw [h]; rfl
theorem in_dic {x : Str} {kvs : List (Key × D)} {b : Bool} (h : (getK kvs (.inr x)).isSome = b) : inB (.str x) (.dic kvs) = some b := by
  show (some (getK kvs (.inr x)).isSome) = _
  rw [h]
theorem ix_dic {x : Str} {kvs : List (Key × D)} {d : D} (h : getK kvs (.inr x) = some d) : ixD (.dic kvs) (.str x) = some d := h
theorem sl_lst_lh {ds : List D} {a b : Nat} {i j : Int} (ei : i = (a : Nat)) (ej : j = (b : Nat)) (h : flats ds = true) : slD (.lst ds) (some i) (some j) = some (.lst ((ds.drop a).take (b - a))) := by
  subst ei; subst ej
  simp only [slD, h, if_true]
  congr 2
  unfold cutL
  rw [HT.sIx_nat, HT.sIx_nat]
  by_cases q : a ≤ ds.length
  · rw [Nat.min_eq_left q]
    by_cases q2 : b ≤ ds.length
    · rw [Nat.min_eq_left q2]
    · rw [Nat.min_eq_right (by omega), List.take_of_length_le (by simp), List.take_of_length_le (by simp; omega)]
  · rw [Nat.min_eq_right (show ds.length ≤ a by omega), List.drop_of_length_le (Nat.le_refl _), List.drop_of_length_le (by omega)]; simp
theorem sl_tup_lh {ds : List D} {a b : Nat} {i j : Int} (ei : i = (a : Nat)) (ej : j = (b : Nat)) (h : flats ds = true) : slD (.tup ds) (some i) (some j) = some (.tup ((ds.drop a).take (b - a))) := by
  have := sl_lst_lh ei ej h
  simp only [slD, h, if_true, Option.some.injEq, D.lst.injEq] at this ⊢
  rw [this]
end DL

/-! DL18: three at once. -/
namespace DL
open PySem L2
theorem sg_three {i j k : Nat} {a b c : D} {m : Md} {ρ : Ev} {Φ : Ev → Prop} {s t u : Sl} (h : ρ[i]? = some s) (h2 : freeS s = true) (f : flat a = true) (h' : (ρ.set i (.fn a))[j]? = some t) (h2' : freeS t = true) (f' : flat b = true)
    (h'' : ((ρ.set i (.fn a)).set j (.fn b))[k]? = some u) (h2'' : freeS u = true) (f'' : flat c = true)
    (hΦ : Φ (((ρ.set i (.fn a)).set j (.fn b)).set k (.fn c))) : Sg (gT 3 (gsCons i (gsCons j (gsCons k gsNil)))) (.tup [a, b, c]) m ρ Φ := by
  refine ⟨_, ?_, hΦ⟩
  show (setS i a (effm m a) ρ).bind (fun ρ' => (setS j b (effm m b) ρ').bind fun ρ'' => (setS k c (effm m c) ρ'').bind fun ρ3 => some ρ3) = _
  rw [setS_flat h h2 f, Option.bind_some, setS_flat h' h2' f', Option.bind_some, setS_flat h'' h2'' f'']; rfl
theorem se_unpS {f : EF} {g : GF} {ρ ρ' : Ev} {d : D} (h : Vf f ρ d) (hg : ∀ m, Sg g d m ρ fun ρ1 => ρ1 = ρ') : Se (sUnp f g) ρ (.nx ρ') := by
  obtain ⟨m, h⟩ := h
  obtain ⟨ρ1, h1, rfl⟩ := hg m
  exact se_unp h h1
theorem se_unp3 {i j k : Nat} {f : EF} {a b c : D} {ρ : Ev} {s t u : Sl} (hv : Vf f ρ (.tup [a, b, c])) (h : ρ[i]? = some s) (h2 : freeS s = true) (f1 : flat a = true) (h' : (ρ.set i (.fn a))[j]? = some t) (h2' : freeS t = true) (f' : flat b = true)
    (h'' : ((ρ.set i (.fn a)).set j (.fn b))[k]? = some u) (h2'' : freeS u = true) (f'' : flat c = true) : Se (sUnp f (gT 3 (gsCons i (gsCons j (gsCons k gsNil))))) ρ (.nx (((ρ.set i (.fn a)).set j (.fn b)).set k (.fn c))) :=
  se_unpS hv fun m => sg_three h h2 f1 h' h2' f' h'' h2'' f'' rfl
end DL
namespace DL
open PySem L2
/-- goes on, to a state of which Φ holds -/
def Sy (g : SF) (ρ : Ev) (Φ : Ev → Prop) : Prop := ∃ ρ', Se g ρ (.nx ρ') ∧ Φ ρ'
theorem sx_bind {g h : SF} {ρ : Ev} {Φ Ψ : Ev → Prop} (h1 : Sy g ρ Φ) (h2 : ∀ ρ', Φ ρ' → Sx h ρ' Ψ) : Sx (bSeq g h) ρ Ψ := by
  obtain ⟨ρ', a, b⟩ := h1
  exact sx_seq a (h2 ρ' b)
theorem sr_bind {g h : SF} {ρ : Ev} {d : D} {Φ : Ev → Prop} (h1 : Sy g ρ Φ) (h2 : ∀ ρ', Φ ρ' → Sr h ρ' d) : Sr (bSeq g h) ρ d := by
  obtain ⟨ρ', a, b⟩ := h1
  exact sr_seq a (h2 ρ' b)
theorem sp_bind {g h : SF} {ρ : Ev} {Φ : Ev → Prop} {Ψ : D → Prop} (h1 : Sy g ρ Φ) (h2 : ∀ ρ', Φ ρ' → Sp h ρ' Ψ) : Sp (bSeq g h) ρ Ψ := by
  obtain ⟨ρ', a, b⟩ := h1
  exact sp_seq a (h2 ρ' b)
theorem sy_bind {g h : SF} {ρ : Ev} {Φ Ψ : Ev → Prop} (h1 : Sy g ρ Φ) (h2 : ∀ ρ', Φ ρ' → Sy h ρ' Ψ) : Sy (bSeq g h) ρ Ψ := by
  obtain ⟨ρ', a, b⟩ := h1
  obtain ⟨ρ2, c, d⟩ := h2 ρ' b
  exact ⟨ρ2, se_seq a c, d⟩
theorem sy_seq {g h : SF} {ρ ρ' : Ev} {Ψ : Ev → Prop} (h1 : Se g ρ (.nx ρ')) (h2 : Sy h ρ' Ψ) : Sy (bSeq g h) ρ Ψ := by
  obtain ⟨ρ2, c, d⟩ := h2
  exact ⟨ρ2, se_seq h1 c, d⟩
theorem sy_end {g : SF} {ρ ρ' : Ev} {Ψ : Ev → Prop} (h1 : Se g ρ (.nx ρ')) (h2 : Ψ ρ') : Sy g ρ Ψ := ⟨_, h1, h2⟩
theorem sy_if {c : Ev → Option Bool} {g h : SF} {ρ : Ev} {Φ : Ev → Prop} {b : Bool} (h1 : Te c ρ b) (ht : b = true → Sy g ρ Φ) (hf : b = false → Sy h ρ Φ) : Sy (sIf c g h) ρ Φ := by
  cases b with
  | true => obtain ⟨ρ2, h2, h3⟩ := ht rfl; exact ⟨_, se_if_t h1 rfl h2, h3⟩
  | false => obtain ⟨ρ2, h2, h3⟩ := hf rfl; exact ⟨_, se_if_f h1 rfl h2, h3⟩
theorem sy_nil {ρ : Ev} {Φ : Ev → Prop} (h : Φ ρ) : Sy bNil ρ Φ := ⟨_, se_nil, h⟩
theorem sy_for {f : IF} {g : GF} {b : SF} {ρ : Ev} {ds : List D} {m : Md} (P : Nat → Ev → Prop) (hx : Xe f ρ ds m) (hm : notOwn m = true) (h0 : P 0 ρ)
    (hs : ∀ i d ρ, ds[i]? = some d → P i ρ → Sg g d (effm m d) ρ fun ρ1 => Sx b ρ1 (P (i + 1))) : Sy (sFor f g b) ρ (P ds.length) := by
  obtain ⟨ρ', h1, h2⟩ := se_for P hx hm h0 fun i d ρ e p => by
    obtain ⟨ρ1, q1, ρ2, q2, q3⟩ := hs i d ρ e p
    exact ⟨ρ1, ρ2, q1, q2, q3⟩
  exact ⟨ρ', h1, h2⟩
theorem Sy.imp {g : SF} {ρ : Ev} {Φ Ψ : Ev → Prop} (h : Sy g ρ Φ) (hi : ∀ ρ', Φ ρ' → Ψ ρ') : Sy g ρ Ψ := by
  obtain ⟨ρ', a, b⟩ := h
  exact ⟨ρ', a, hi _ b⟩
end DL

/-! DL19: d.get(k, x) of a dict that the module has written, at texts told ahead. -/
namespace DL
open PySem L2 PySem.Spec PyProof.Rows
def KEnt (K : PySem.W.Frag) (d : Addr) (p : Str × Option Int) : Prop := match p.2 with
  | some i => ∃ t, PySem.W.nsIn K d p.1 = some (some (.int i t))
  | none => PySem.W.nsIn K d p.1 = some none
def KTab (K : PySem.W.Frag) (w : World) (mg : Str → Option Value) (x : Str) (tab : List (Str × Option Int)) : Prop :=
  ∃ d es n, mg x = some (.ref d) ∧ KDict K w d es n ∧ ∀ p ∈ tab, KEnt K d p
def kgetD (tab : List (Str × Option Int)) (a b : D) : Option D := match a, b with
  | .str z, .int e => (tab.find? fun p => p.1 == z).map fun p => .int (p.2.getD e)
  | _, _ => none
def tKget (K : PySem.W.Frag) (d : Addr) (ta tb : TE) : TE := fun σ H Q => ta σ H fun y H1 => tb σ H1 fun z H2 => ∃ (p : Str × Option Int) (e : Int), y = .str p.1 ∧ z = .int e ∧ KEnt K d p ∧ Q (.int (p.2.getD e)) H2
section
variable {X : Cx} {o e f : Expr} {apos cpos : Pos} {ty tx : TE} {d : Addr} {es : Array DictEntry} {n : Nat}
theorem pe_kget2 (D : KDict X.K X.w d es n) (ho : PE X o (tC (.ref d))) (he : PE X e ty) (hf : PE X f tx) (m : M2 X o "get" apos e f cpos) : PE X (.Call (.Attribute o "get" apos) [e, f] [] cpos) (tKget X.K d ty tx) := by
  refine ⟨fun pins s σ H Q I h => ?_⟩
  refine wpAny_Call_method m.base m.few m.line PySem.F.plainAttrs_dict PySem.F.slot_dict_get PySem.F.type_dict_get (thn (ho.run pins s σ H (fun x H1 => x = .ref d ∧ tKget X.K d ty tx σ H1 Q) I ⟨rfl, h⟩) fun u s1 ⟨x, H1, I1, rx, ex, q1⟩ => ?_)
  subst ex
  obtain rfl : u = Value.ref d := rx
  have mo := PySem.W.mapOf_K (prog := X.prog) (w := X.w) I1.kIn D.at_ D.lit
  refine ⟨mo.typeIs, mo.noDict, ?_⟩
  rw [m.trees]
  refine Calls.callWith_builtin rfl (Calls.evalArgs_plain (Calls.spliced_cons (thn (he.run pins s1 σ H1 _ I1 q1) fun iv s2 ⟨y, H2, I2, ry, q2⟩ =>
    Calls.spliced_cons (thn (hf.run pins s2 σ H2 _ I2 q2) fun fv s3 ⟨z, H3, I3, rz, p, i, ey, ez, hp, q3⟩ => Calls.spliced_nil ?_))))
  subst ey
  subst ez
  obtain ⟨t, rfl⟩ := (show ∃ t, iv = Value.str p.1 t from ry)
  have mo3 := PySem.W.mapOf_K (prog := X.prog) (w := X.w) I3.kIn D.at_ D.lit
  obtain ⟨z, oi⟩ := p
  cases oi with
  | none =>
    refine call_meetsIn PySem.F.slot_dict_get mo3.typeIs PySem.F.entry_dict_get (PySem.F.args_dict_get_3 _ _ _) (meets_dict_get_default (strKind X.prog X.w) d (strKind_is X.prog X.w z t) D.low fv) ⟨_, mo3, ?_⟩
    rw [PySem.W.find_K D.at_ hp]
    exact ⟨.int i, H3, I3.tok _, rz, q3⟩
  | some j =>
    obtain ⟨t2, hp⟩ := hp
    refine call_meetsIn PySem.F.slot_dict_get mo3.typeIs PySem.F.entry_dict_get (PySem.F.args_dict_get_3 _ _ _) (meets_dict_get_default (strKind X.prog X.w) d (strKind_is X.prog X.w z t) D.low fv) ⟨_, mo3, ?_⟩
    rw [PySem.W.find_K D.at_ hp]
    exact ⟨.int j, H3, I3.tok _, ⟨t2, rfl⟩, q3⟩
end
section
variable {cm : Nat → Addr} {X : Cx} {e f : Expr} {fe ff : EF} {x : Str} {npos apos cpos : Pos} {tab : List (Str × Option Int)}
theorem pu_kget (T : KTab X.K X.w X.mg x tab) (he : PuE cm X e fe) (hf : PuE cm X f ff) (hg : Gl X x := by rfl) (hd : (x == ("__debug__" : Str)) = false := by decide) (m : M2 X (.Name x npos) "get" apos e f cpos := by exact ⟨rfl, rfl, rfl, rfl⟩) :
    PuE cm X (.Call (.Attribute (.Name x npos) "get" apos) [e, f] [] cpos) (e2 (kgetD tab) fe ff) := by
  obtain ⟨d, es, n, hm, D, ht⟩ := T
  obtain ⟨te, pe, qe⟩ := he
  obtain ⟨tf, pf, qf⟩ := hf
  refine ⟨_, pe_kget2 D (pe_glob hg hm rfl hd) pe pf m, fun x B F ρ σ H c m Q ok hv hQ => ?_⟩
  obtain ⟨a, m1, b, m2, ea, eb, ec, rfl⟩ := e2_some hv
  refine qe x B F ρ σ H a m1 _ ok ea fun v B1 H1 g1 ok1 v1 => ?_
  refine qf x B1 F ρ σ H1 b m2 _ ok1 eb fun w B2 H2 g2 ok2 v2 => ?_
  unfold kgetD at ec
  split at ec
  · rename_i z i
    cases q : tab.find? (fun p => p.1 == z) with
    | none => rw [q] at ec; cases ec
    | some p =>
      rw [q] at ec
      cases ec
      have hz : p.1 = z := by
        have := List.find?_some q
        simpa using this
      refine ⟨p, i, ?_, v2.is ok2, ht p (List.mem_of_find?_eq_some q), hQ _ B2 H2 (g1.trans g2) ok2 rfl⟩
      rw [hz]
      exact (v1.mono g2).is ok2
  · cases ec
end
end DL
namespace DL
open PySem L2 PySem.Spec PyProof.Rows
def KTab0 (K : PySem.W.Frag) (w : World) (x : Str) (tab : List (Str × Option Int)) : Prop :=
  ∃ d es n, PySem.W.nsIn K mainGlobals x = some (some (.ref d)) ∧ KDict K w d es n ∧ ∀ p ∈ tab, KEnt K d p
theorem KTab0.at_ {K : PySem.W.Frag} {w : World} {x : Str} {tab : List (Str × Option Int)} {h : Heap} {mg : Str → Option Value} (T : KTab0 K w x tab) (X : K.In h) (G : h.Ns mainGlobals mg) : KTab K w mg x tab := by
  obtain ⟨d, es, n, h1, h2, h3⟩ := T
  exact ⟨d, es, n, PySem.W.mg_of X G h1, h2, h3⟩
theorem kents_nil {K : PySem.W.Frag} {d : Addr} : ∀ p ∈ ([] : List (Str × Option Int)), KEnt K d p := fun _ h => by cases h
theorem kents_cons {K : PySem.W.Frag} {d : Addr} {p : Str × Option Int} {r : List (Str × Option Int)} (h : KEnt K d p) (h2 : ∀ p ∈ r, KEnt K d p) : ∀ q ∈ p :: r, KEnt K d q := fun q hq => by
  rcases List.mem_cons.mp hq with rfl | hq
  · exact h
  · exact h2 q hq
theorem kent_some {K : PySem.W.Frag} {d : Addr} {x : Str} {i : Int} {t : Nat} (h : PySem.W.nsIn K d x = some (some (.int i t))) : KEnt K d (x, some i) := ⟨t, h⟩
theorem kent_none {K : PySem.W.Frag} {d : Addr} {x : Str} (h : PySem.W.nsIn K d x = some none) : KEnt K d (x, none) := h
theorem ktab_mk {K : PySem.W.Frag} {w : World} {x : Str} {tab : List (Str × Option Int)} {d : Addr} {es : Array DictEntry} {n : Nat} (h1 : PySem.W.nsIn K mainGlobals x = some (some (.ref d))) (h2 : K.lookup d = some ⟨.type "dict", none, .dict es n, #[]⟩) (hk : PySem.W.KeysLit w.params es.toList) (lo : (d == sysModules) = false) (h3 : ∀ p ∈ tab, KEnt K d p) : KTab0 K w x tab :=
  ⟨d, es, n, h1, ⟨h2, hk, lo⟩, h3⟩
end DL

namespace K06
open PySem L2 DL
noncomputable section
abbrev tab_NAMED : List (Str × Option Int) := [("lay", some 1), ("copy", some 2), ("same", some 2), ("add", some 2), ("tell", some 1), ("open", none), ("give", none), ("fork", none), ("go", none), ("end", none)]
noncomputable def b_at_first : SF := (bSeq (sSetN 2 (nLc (eLc (iE (eV 0)) [5, 6] (gT 2 (gsCons 5 (gsCons 6 gsNil))) (fun _ => some true) (eDisp .tup (aCons (eC (.str "plot")) (aCons (eV 5) (aCons (eC (.bl false)) aNil)))))))
    (bSeq (sSetN 3 nDic0)
    (bSeq (sFor (iE (eV 1)) (gN 4) (sFor (iE (eSl (eV 4) (oSome (eC (.int 1))) (oSome (e2 addD (eC (.int 1)) (e2 (kgetD tab_NAMED) (eIx ixD (eV 4) (eC (.int 0))) (eC (.int 0))))))) (gN 5) (sIf (tE (e2 ninD (eV 5) (eV 3))) (bSeq (sSub 3 wN (eV 5) (nFlat (eC (.bl true))))
    (sApp 2 wN (nFlat (eDisp .tup (aCons (eC (.str "name")) (aCons (eV 5) (aCons (eC (.non)) aNil))))))) bNil)))
    (sRetOn 2))))
noncomputable def f_at_first : List D → Option D := fnP 7 2 b_at_first
noncomputable def b__law_at : SF := (bSeq (sIf (tE (e2 ltD (eV 1) (eCall lenD (aCons (eV 0) aNil)))) (sRet (eIx ixD (eV 0) (eV 1))) bNil)
    (sRet (eC (.int 0))))
noncomputable def f__law_at : List D → Option D := fnP 2 2 b__law_at
noncomputable def b__law_called : SF := (bSeq (sSet 3 (eC (.str "abcdefghijklmnopqrstuvwxyz")))
    (bSeq (sSet 4 (e2 addD (eV 0) (e2 mulD (e2 mulD (eC (.int 31)) (eV 1)) (e2 modD (eV 0) (eC (.int 2))))))
    (bSeq (sSet 5 (e2 modD (e2 fdivD (eV 4) (eC (.int 26))) (e2 subD (eC (.int 9)) (eCall lenD (aCons (eV 2) aNil)))))
    (bSeq (sSet 6 (e2 joinD (eC (.str "")) (eLc (iR (eV 5)) [8] (gN 8) (fun _ => some true) (eIx ixD (eV 3) (e2 modD (e2 addD (eV 4) (e2 mulD (e2 mulD (eC (.int 5)) (eV 8)) (e2 addD (eC (.int 1)) (e2 modD (eV 4) (eC (.int 3)))))) (eC (.int 26)))))))
    (bSeq (sSet 7 (eV 5))
    (bSeq (sIf (tE (e2 eqDD (e2 modD (eV 0) (eC (.int 2))) (eC (.int 0)))) (sSet 7 (e2 modD (e2 fdivD (eV 0) (eC (.int 4))) (e2 addD (eV 5) (eC (.int 1))))) bNil)
    (sRet (e2 addD (e2 addD (eSl (eV 6) oNone (oSome (eV 7))) (eV 2)) (eSl (eV 6) (oSome (eV 7)) oNone)))))))))
noncomputable def f__law_called : List D → Option D := fnP 9 3 b__law_called
noncomputable def b__law_plots : SF := (bSeq (sSet 1 (e2 addD (eC (.int 1)) (e2 modD (eCall f__law_at (aCons (eV 0) (aCons (eC (.int 0)) aNil))) (eC (.int 4)))))
    (bSeq (sIf (tE (e2 eqDD (e2 modD (e2 fdivD (eCall f__law_at (aCons (eV 0) (aCons (eC (.int 0)) aNil))) (eC (.int 4))) (eC (.int 8))) (eC (.int 1)))) (sSet 1 (e2 subD (eC (.int 12)) (e2 modD (e2 fdivD (eCall f__law_at (aCons (eV 0) (aCons (eC (.int 0)) aNil))) (eC (.int 32))) (eC (.int 8))))) bNil)
    (bSeq (sSetN 2 (nLst nNil))
    (bSeq (sFor (iR (eV 1)) (gN 3) (bSeq (sSet 4 (e2 modD (e2 modD (e2 mulD (e2 addD (eCall f__law_at (aCons (eV 0) (aCons (eC (.int 1)) aNil))) (e2 mulD (eC (.int 7)) (eV 3))) (eC (.int 48271))) (eC (.int 10007))) (e2 addD (eV 3) (eC (.int 1)))))
    (bSeq (sIf (tAndD (tE (e2 eqDD (e2 modD (eCall f__law_at (aCons (eV 0) (aCons (eC (.int 1)) aNil))) (eC (.int 4))) (eC (.int 3)))) (tE (e2 gtD (eV 3) (eC (.int 0))))) (sSet 4 (e2 subD (eV 3) (eC (.int 1)))) bNil)
    (bSeq (sSet 5 (eC (.non)))
    (bSeq (sIf (tE (e2 ltD (eV 4) (eV 3))) (sSet 5 (eIx ixD (eIx ixD (eV 2) (eV 4)) (eC (.int 0)))) bNil)
    (sApp 2 wN (nFlat (eDisp .tup (aCons (eCall f__law_called (aCons (e2 fdivD (eCall f__law_at (aCons (eV 0) (aCons (eC (.int 1)) aNil))) (eC (.int 3))) (aCons (eV 3) (aCons (eIx ixD (eC (.str "abcdefghijkl")) (eV 3)) aNil)))) (aCons (eV 5) aNil))))))))))
    (sRetOn 2)))))
noncomputable def f__law_plots : List D → Option D := fnP 6 1 b__law_plots
noncomputable def b__law_names : SF := (bSeq (sSet 2 (eCall f__law_at (aCons (eV 0) (aCons (eC (.int 2)) aNil))))
    (bSeq (sSet 3 (e2 addD (eC (.int 1)) (e2 modD (eV 2) (eC (.int 5)))))
    (bSeq (sIf (tE (e2 eqDD (e2 modD (e2 fdivD (eV 2) (eC (.int 5))) (eC (.int 16))) (eC (.int 3)))) (sSet 3 (eC (.int 60))) bNil)
    (bSeq (sIf (tE (e2 eqDD (e2 modD (e2 fdivD (eV 2) (eC (.int 5))) (eC (.int 4))) (eC (.int 1)))) (sRet (eSl (eLc (iE (eV 1)) [5, 6] (gT 2 (gsCons 5 (gsCons 6 gsNil))) (fun _ => some true) (eV 5)) oNone (oSome (eV 3)))) bNil)
    (bSeq (sSet 4 (eC (.str "zyxwvutsrqponmlkjihgfedcba")))
    (sRet (eLc (iR (eV 3)) [7] (gN 7) (fun _ => some true) (eCall f__law_called (aCons (e2 fdivD (eV 2) (eC (.int 80))) (aCons (eV 7) (aCons (e2 addD (eIx ixD (eC (.str "abc")) (e2 fdivD (eV 7) (eC (.int 26)))) (eIx ixD (eV 4) (e2 modD (eV 7) (eC (.int 26))))) aNil)))))))))))
noncomputable def f__law_names : List D → Option D := fnP 8 2 b__law_names
noncomputable def b__law_row : SF := (bSeq (sSet 4 (e2 modD (e2 addD (e2 mulD (e2 fdivD (eV 0) (eC (.int 10))) (eC (.int 48271))) (eC (.int 11))) (eC (.int 1000003))))
    (bSeq (sSet 5 (eIx ixD (eV 2) (e2 modD (eV 4) (eCall lenD (aCons (eV 2) aNil)))))
    (bSeq (sSet 6 (eIx ixD (eV 2) (e2 modD (e2 fdivD (eV 4) (eC (.int 7))) (eCall lenD (aCons (eV 2) aNil)))))
    (bSeq (sSet 7 (eIx ixD (eIx ixD (eV 1) (e2 modD (e2 fdivD (eV 4) (eC (.int 61))) (eCall lenD (aCons (eV 1) aNil)))) (eC (.int 0))))
    (bSeq (sSet 8 (e2 subD (e2 modD (e2 fdivD (eV 0) (eC (.int 10))) (eC (.int 19))) (eC (.int 9))))
    (bSeq (sIf (tE (e2 eqDD (e2 modD (eV 4) (eC (.int 4))) (eC (.int 1)))) (sSet 8 (e2 subD (e2 modD (e2 fdivD (eV 0) (eC (.int 10))) (eC (.int 2000000000000000001))) (eC (.int 1000000000000000000)))) bNil)
    (bSeq (sSet 9 (e2 modD (e2 fdivD (eV 4) (eC (.int 1013))) (e2 addD (eV 3) (eC (.int 1)))))
    (bSeq (sSet 10 (e2 modD (eV 0) (eC (.int 10))))
    (bSeq (sIf (tE (e2 ltD (eV 10) (eC (.int 2)))) (sRet (eIx ixD (eDisp .lst (aCons (eDisp .tup (aCons (eC (.str "open")) (aCons (eV 7) aNil))) (aCons (eDisp .tup (aCons (eC (.str "lay")) (aCons (eV 5) (aCons (eV 7) (aCons (eV 8) aNil))))) aNil))) (eV 10))) bNil)
    (bSeq (sIf (tE (e2 ltD (eV 10) (eC (.int 6)))) (sRet (eIx ixD (eDisp .lst (aCons (eDisp .tup (aCons (eC (.str "copy")) (aCons (eV 5) (aCons (eV 6) (aCons (eV 7) aNil))))) (aCons (eDisp .tup (aCons (eC (.str "same")) (aCons (eV 5) (aCons (eV 6) aNil)))) (aCons (eDisp .tup (aCons (eC (.str "add")) (aCons (eV 5) (aCons (eV 6) aNil)))) (aCons (eDisp .tup (aCons (eC (.str "tell")) (aCons (eV 5) aNil))) aNil))))) (e2 subD (eV 10) (eC (.int 2))))) bNil)
    (sRet (eIx ixD (eDisp .lst (aCons (eDisp .tup (aCons (eC (.str "give")) (aCons (eV 7) aNil))) (aCons (eDisp .tup (aCons (eC (.str "fork")) (aCons (eV 9) aNil))) (aCons (eDisp .tup (aCons (eC (.str "go")) (aCons (eV 9) aNil))) (aCons (eDisp .tup (aCons (eC (.str "end")) aNil)) aNil))))) (e2 subD (eV 10) (eC (.int 6)))))))))))))))
noncomputable def f__law_row : List D → Option D := fnP 11 4 b__law_row
noncomputable def b__law_kind : SF := (bSeq (sIf (tOrD (tNotD (tE (e1 (isTy .tuple) (eV 0)))) (tE (e2 neDD (eCall lenD (aCons (eV 0) aNil)) (eC (.int 3))))) (sRet (eC (.bl false))) bNil)
    (sRet (e2 eqDD (e1 (isTy .bool) (eIx ixD (eV 0) (eC (.int 2)))) (e2 eqDD (eIx ixD (eV 0) (eC (.int 0))) (eC (.str "plot"))))))
noncomputable def f__law_kind : List D → Option D := fnP 1 1 b__law_kind
noncomputable def b_law : SF := (bSeq (sSet 1 (eCall f__law_plots (aCons (eV 0) aNil)))
    (bSeq (sSet 2 (eCall f__law_names (aCons (eV 0) (aCons (eV 1) aNil))))
    (bSeq (sSet 3 (eSl (eV 0) (oSome (eC (.int 6))) (oSome (eC (.int 20)))))
    (bSeq (sIf (tE (e2 eqDD (e2 modD (eCall f__law_at (aCons (eV 0) (aCons (eC (.int 5)) aNil))) (eC (.int 8))) (eC (.int 1)))) (sSet 3 (eLc (iR (e2 addD (eC (.int 40)) (e2 modD (e2 fdivD (eCall f__law_at (aCons (eV 0) (aCons (eC (.int 5)) aNil))) (eC (.int 8))) (eC (.int 21))))) [11] (gN 11) (fun _ => some true) (e2 addD (e2 fdivD (eCall f__law_at (aCons (eV 0) (aCons (e2 addD (eC (.int 6)) (e2 modD (eV 11) (eC (.int 3)))) aNil))) (eC (.int 7))) (e2 mulD (eC (.int 7919)) (eV 11))))) bNil)
    (bSeq (sSet 4 (eLc (iE (eV 3)) [12] (gN 12) (fun _ => some true) (eCall f__law_row (aCons (eV 12) (aCons (eV 1) (aCons (eV 2) (aCons (eCall lenD (aCons (eV 3) aNil)) aNil)))))))
    (bSeq (sIf (tE (e2 eqDD (e2 modD (e2 fdivD (eCall f__law_at (aCons (eV 0) (aCons (eC (.int 0)) aNil))) (eC (.int 4))) (eC (.int 16))) (eC (.int 9)))) (bSeq (sSet 1 (eDisp .lst aNil))
    (sSet 4 (eLc (iE (eV 4)) [6] (gN 6) (tE (e2 inD (eIx ixD (eV 6) (eC (.int 0))) (eDisp .tup (aCons (eC (.str "same")) (aCons (eC (.str "add")) (aCons (eC (.str "tell")) (aCons (eC (.str "fork")) (aCons (eC (.str "go")) (aCons (eC (.str "end")) aNil))))))))) (eV 6)))) bNil)
    (bSeq (sSetN 5 (nLc (eLc (iE (eV 1)) [13, 14] (gT 2 (gsCons 13 (gsCons 14 gsNil))) (fun _ => some true) (eDisp .tup (aCons (eC (.str "plot")) (aCons (eV 13) (aCons (eC (.bl false)) aNil)))))))
    (bSeq (sFor (iE (eV 4)) (gN 6) (bSeq (sSet 7 (eDisp .lst aNil))
    (bSeq (sIf (tE (e2 inD (eIx ixD (eV 6) (eC (.int 0))) (eDisp .tup (aCons (eC (.str "lay")) (aCons (eC (.str "tell")) aNil))))) (sSet 7 (eDisp .lst (aCons (eIx ixD (eV 6) (eC (.int 1))) aNil))) (sIf (tE (e2 inD (eIx ixD (eV 6) (eC (.int 0))) (eDisp .tup (aCons (eC (.str "copy")) (aCons (eC (.str "same")) (aCons (eC (.str "add")) aNil)))))) (sSet 7 (eDisp .lst (aCons (eIx ixD (eV 6) (eC (.int 1))) (aCons (eIx ixD (eV 6) (eC (.int 2))) aNil)))) bNil))
    (sFor (iE (eV 7)) (gN 8) (sIf (tE (e2 ninD (eDisp .tup (aCons (eC (.str "name")) (aCons (eV 8) (aCons (eC (.non)) aNil)))) (eV 5))) (sApp 5 wN (nFlat (eDisp .tup (aCons (eC (.str "name")) (aCons (eV 8) (aCons (eC (.non)) aNil)))))) bNil)))))
    (bSeq (sSet 9 (eDisp .lst (aCons (eCall lstC (aCons (eV 1) aNil)) (aCons (eCall lstC (aCons (eV 4) aNil)) aNil))))
    (bSeq (sSet 10 (eCall f_at_first (aCons (eIx ixD (eV 9) (eC (.int 0))) (aCons (eIx ixD (eV 9) (eC (.int 1))) aNil))))
    (bSeq (sIf (tOrD (tNotD (tE (e1 (isTy .list) (eV 10)))) (tE (e2 neDD (eLc (iE (eV 10)) [15] (gN 15) (tNotD (tE (eCall f__law_kind (aCons (eV 15) aNil)))) (eV 15)) (eDisp .lst aNil)))) (sRet (eC (.bl false))) bNil)
    (sRet (eAnd (e2 eqDD (eV 10) (eV 5)) (e2 eqDD (eV 9) (eDisp .lst (aCons (eV 1) (aCons (eV 4) aNil)))))))))))))))))
noncomputable def f_law : List D → Option D := fnP 16 1 b_law
end
end K06

namespace K06
open PySem L2 DL
def atZ (ns : List Int) (i : Int) : Int := if i < ns.length then ns.getD i.toNat 0 else 0
theorem at_eq {ns : List Int} {i : Int} (h : 0 ≤ i) : f__law_at [.scr ns, .int i] = some (.int (atZ ns i)) := by
  unfold f__law_at
  by_cases q : i < ns.length
  · apply fn_ev rfl
    unfold b__law_at
    refine se_seq_rt (se_if_t (b := decide (i < (ns.length : Nat))) ?_ (by simpa using q) (sf_ret (d := .int (atZ ns i)) ?_ rfl))
    · (repeat' first | ((with_reducible apply vf_fz); exact rfl) | ((with_reducible apply vf_fn); exact rfl) | ((with_reducible apply vf_on); exact rfl) | ((with_reducible apply vf_fa); exact rfl) | with_reducible exact vf_c | with_reducible exact af_nil | with_reducible exact oe_none | with_reducible apply tf_v | with_reducible apply nf_flat | with_reducible apply af_cons | with_reducible apply of_some | with_reducible apply vf_e2 | with_reducible apply vf_e1 | with_reducible apply vf_ix | with_reducible apply vf_call | with_reducible apply vn_call | with_reducible apply vf_sl | with_reducible apply vf_disp | with_reducible apply vn_disp | with_reducible exact add_int | with_reducible exact sub_int | with_reducible exact eq_int | with_reducible exact ne_int | with_reducible exact lt_int | with_reducible exact gt_int | ((with_reducible apply mod_ok); omega) | ((with_reducible apply fdiv_ok) <;> omega) | ((with_reducible apply mul_okl) <;> omega) | ((with_reducible apply mul_okr) <;> omega) | (refine (?_ : flats _ = true); exact rfl) | (refine (?_ : flat _ = true); exact rfl) | (refine (?_ : List.length _ ≤ 16777216); simp; done) | exact rfl | exact add_int | exact sub_int)
    · (repeat' first | ((with_reducible apply vf_fz); exact rfl) | ((with_reducible apply vf_fn); exact rfl) | ((with_reducible apply vf_on); exact rfl) | ((with_reducible apply vf_fa); exact rfl) | with_reducible exact vf_c | with_reducible exact af_nil | with_reducible exact oe_none | with_reducible apply tf_v | with_reducible apply nf_flat | with_reducible apply af_cons | with_reducible apply of_some | with_reducible apply vf_e2 | with_reducible apply vf_e1 | with_reducible apply vf_ix | with_reducible apply vf_call | with_reducible apply vn_call | with_reducible apply vf_sl | with_reducible apply vf_disp | with_reducible apply vn_disp | with_reducible exact add_int | with_reducible exact sub_int | with_reducible exact eq_int | with_reducible exact ne_int | with_reducible exact lt_int | with_reducible exact gt_int | ((with_reducible apply mod_ok); omega) | ((with_reducible apply fdiv_ok) <;> omega) | ((with_reducible apply mul_okl) <;> omega) | ((with_reducible apply mul_okr) <;> omega) | (refine (?_ : flats _ = true); exact rfl) | (refine (?_ : flat _ = true); exact rfl) | (refine (?_ : List.length _ ≤ 16777216); simp; done) | exact add_int | exact sub_int)
      refine ix_scr h ?_
      unfold atZ
      rw [if_pos q, List.getD_eq_getElem?_getD, List.getElem?_eq_getElem (by omega)]; rfl
  · apply fn_ev rfl
    unfold b__law_at
    refine se_seq (se_if_f (b := decide (i < (ns.length : Nat))) ?_ (by simpa using q) se_nil) ?_
    · (repeat' first | ((with_reducible apply vf_fz); exact rfl) | ((with_reducible apply vf_fn); exact rfl) | ((with_reducible apply vf_on); exact rfl) | ((with_reducible apply vf_fa); exact rfl) | with_reducible exact vf_c | with_reducible exact af_nil | with_reducible exact oe_none | with_reducible apply tf_v | with_reducible apply nf_flat | with_reducible apply af_cons | with_reducible apply of_some | with_reducible apply vf_e2 | with_reducible apply vf_e1 | with_reducible apply vf_ix | with_reducible apply vf_call | with_reducible apply vn_call | with_reducible apply vf_sl | with_reducible apply vf_disp | with_reducible apply vn_disp | with_reducible exact add_int | with_reducible exact sub_int | with_reducible exact eq_int | with_reducible exact ne_int | with_reducible exact lt_int | with_reducible exact gt_int | ((with_reducible apply mod_ok); omega) | ((with_reducible apply fdiv_ok) <;> omega) | ((with_reducible apply mul_okl) <;> omega) | ((with_reducible apply mul_okr) <;> omega) | (refine (?_ : flats _ = true); exact rfl) | (refine (?_ : flat _ = true); exact rfl) | (refine (?_ : List.length _ ≤ 16777216); simp; done) | exact rfl | exact add_int | exact sub_int)
    · rw [show atZ ns i = 0 by unfold atZ; rw [if_neg q]]
      exact sf_ret vf_c rfl
theorem az_eq : ("abcdefghijklmnopqrstuvwxyz" : Str) = tx ((List.range 26).map (97 + ·)) := by decide +kernel
theorem empty_eq : ("" : Str) = tx [] := by decide +kernel
def wy (x t : Int) : Int := x + 31 * t * (x % 2)
def wsz (x t : Int) (n : Nat) : Nat := ((wy x t / 26) % (9 - (n : Int))).toNat
def wd (x t : Int) (n : Nat) : List Nat := (List.range (wsz x t n)).map fun (i : Nat) => 97 + ((wy x t + 5 * (i : Int) * (1 + wy x t % 3)) % 26).toNat
def wat (x t : Int) (n : Nat) : Nat := if x % 2 = 0 then ((x / 4) % ((wsz x t n : Int) + 1)).toNat else wsz x t n
def cld (x t : Int) (c : List Nat) : List Nat := (wd x t c.length).take (wat x t c.length) ++ c ++ (wd x t c.length).drop (wat x t c.length)
theorem wsz_lt (x t : Int) {n : Nat} (h : n ≤ 8) : wsz x t n ≤ 8 := by
  unfold wsz
  have := Int.emod_lt_of_pos (wy x t / 26) (show 0 < 9 - (n : Int) by omega)
  omega
theorem wd_len (x t : Int) (n : Nat) : (wd x t n).length = wsz x t n := by simp [wd]
theorem cld_len (x t : Int) (c : List Nat) (h : c.length ≤ 8) : (cld x t c).length ≤ 16 := by
  have := wsz_lt x t h
  simp only [cld, List.length_append, List.length_take, List.length_drop, wd_len]
  omega
theorem cld_ok (x t : Int) (c : List Nat) (h : okC c = true) : okC (cld x t c) = true := by
  have q : ∀ a ∈ wd x t c.length, a < 0x110000 := by
    intro a ha
    simp only [wd, List.mem_map] at ha
    obtain ⟨i, _, rfl⟩ := ha
    have := Int.emod_lt_of_pos (wy x t + 5 * (i : Int) * (1 + wy x t % 3)) (show (0:Int) < 26 by omega)
    omega
  simp only [okC, List.all_eq_true, decide_eq_true_eq] at h ⊢
  intro a ha
  simp only [cld, List.mem_append] at ha
  rcases ha with (ha | ha) | ha
  · exact q a (List.mem_of_mem_take ha)
  · exact h a ha
  · exact q a (List.mem_of_mem_drop ha)
theorem cld_inj (x t u : Int) (c e : Nat) (h : cld x t [c] = cld x u [e]) : c = e := by
  unfold cld at h
  by_cases q : x % 2 = 0
  · have a : wd x t [c].length = wd x u [e].length := by simp [wd, wsz, wy, q]
    have b : wat x t [c].length = wat x u [e].length := by simp [wat, wsz, wy, q]
    rw [a, b] at h
    have := List.append_cancel_right h
    have := List.append_cancel_left this
    simpa using this
  · have k : ∀ v (z : List Nat), (wd x v z.length).drop (wat x v z.length) = [] := by
      intro v z
      rw [show wat x v z.length = (wd x v z.length).length by rw [wd_len]; simp [wat, q]]
      simp
    rw [k, k] at h
    simp only [List.append_nil] at h
    have := congrArg List.getLast? h
    simpa using this
theorem called_eq {x t : Int} {c : List Nat} (h : c.length ≤ 8) : f__law_called [.int x, .int t, .str (tx c)] = some (.str (tx (cld x t c))) := by
  unfold f__law_called
  have hs := wsz_lt x t h
  apply fn_ev rfl
  unfold b__law_called
  refine se_seq (sf_set (d := .str (tx ((List.range 26).map (97 + ·)))) ?_ rfl rfl rfl) ?_
  · rw [← az_eq]; exact vf_c
  refine se_seq (sf_set (d := .int (wy x t)) ?_ rfl rfl rfl) ?_
  · (repeat' first | ((with_reducible apply vf_fz); exact rfl) | ((with_reducible apply vf_fn); exact rfl) | ((with_reducible apply vf_on); exact rfl) | ((with_reducible apply vf_fa); exact rfl) | with_reducible exact vf_c | with_reducible exact af_nil | with_reducible exact oe_none | with_reducible apply tf_v | with_reducible apply nf_flat | with_reducible apply af_cons | with_reducible apply of_some | with_reducible apply vf_e2 | with_reducible apply vf_e1 | with_reducible apply vf_ix | with_reducible apply vf_call | with_reducible apply vn_call | with_reducible apply vf_sl | with_reducible apply vf_disp | with_reducible apply vn_disp | with_reducible exact add_int | with_reducible exact sub_int | with_reducible exact eq_int | with_reducible exact ne_int | with_reducible exact lt_int | with_reducible exact gt_int | ((with_reducible apply mod_ok); omega) | ((with_reducible apply fdiv_ok) <;> omega) | ((with_reducible apply mul_okl) <;> omega) | ((with_reducible apply mul_okr) <;> omega) | (refine (?_ : flats _ = true); exact rfl) | (refine (?_ : flat _ = true); exact rfl) | (refine (?_ : List.length _ ≤ 16777216); simp; done) | exact add_int | exact sub_int)
  refine se_seq (sf_set (d := .int (wsz x t c.length : Nat)) ?_ rfl rfl rfl) ?_
  · refine vf_e2 (a := .int (wy x t / 26)) (b := .int (9 - (c.length : Nat))) ?_ ?_ ?_
    · (repeat' first | ((with_reducible apply vf_fz); exact rfl) | ((with_reducible apply vf_fn); exact rfl) | ((with_reducible apply vf_on); exact rfl) | ((with_reducible apply vf_fa); exact rfl) | with_reducible exact vf_c | with_reducible exact af_nil | with_reducible exact oe_none | with_reducible apply tf_v | with_reducible apply nf_flat | with_reducible apply af_cons | with_reducible apply of_some | with_reducible apply vf_e2 | with_reducible apply vf_e1 | with_reducible apply vf_ix | with_reducible apply vf_call | with_reducible apply vn_call | with_reducible apply vf_sl | with_reducible apply vf_disp | with_reducible apply vn_disp | with_reducible exact add_int | with_reducible exact sub_int | with_reducible exact eq_int | with_reducible exact ne_int | with_reducible exact lt_int | with_reducible exact gt_int | ((with_reducible apply mod_ok); omega) | ((with_reducible apply fdiv_ok) <;> omega) | ((with_reducible apply mul_okl) <;> omega) | ((with_reducible apply mul_okr) <;> omega) | (refine (?_ : flats _ = true); exact rfl) | (refine (?_ : flat _ = true); exact rfl) | (refine (?_ : List.length _ ≤ 16777216); simp; done) | exact add_int | exact sub_int)
    · (repeat' first | ((with_reducible apply vf_fz); exact rfl) | ((with_reducible apply vf_fn); exact rfl) | ((with_reducible apply vf_on); exact rfl) | ((with_reducible apply vf_fa); exact rfl) | with_reducible exact vf_c | with_reducible exact af_nil | with_reducible exact oe_none | with_reducible apply tf_v | with_reducible apply nf_flat | with_reducible apply af_cons | with_reducible apply of_some | with_reducible apply vf_e2 | with_reducible apply vf_e1 | with_reducible apply vf_ix | with_reducible apply vf_call | with_reducible apply vn_call | with_reducible apply vf_sl | with_reducible apply vf_disp | with_reducible apply vn_disp | with_reducible exact add_int | with_reducible exact sub_int | with_reducible exact eq_int | with_reducible exact ne_int | with_reducible exact lt_int | with_reducible exact gt_int | ((with_reducible apply mod_ok); omega) | ((with_reducible apply fdiv_ok) <;> omega) | ((with_reducible apply mul_okl) <;> omega) | ((with_reducible apply mul_okr) <;> omega) | (refine (?_ : flats _ = true); exact rfl) | (refine (?_ : flat _ = true); exact rfl) | (refine (?_ : List.length _ ≤ 16777216); simp; done) | exact len_tx (by omega) | exact add_int | exact sub_int)
    · rw [mod_ok (by omega)]
      unfold wsz
      have := Int.emod_nonneg (wy x t / 26) (show 9 - (c.length : Int) ≠ 0 by omega)
      rw [Int.toNat_of_nonneg this]
  refine se_seq (sf_set (d := .str (tx (wd x t c.length))) ?_ rfl rfl rfl) ?_
  · refine vf_e2 (a := .str (tx [])) (b := .lst ((List.range (wsz x t c.length)).map fun (i : Nat) => .str (tx [97 + ((wy x t + 5 * (i : Int) * (1 + wy x t % 3)) % 26).toNat]))) ?_ ?_ (join_chars _ (by simp; omega))
    · rw [← empty_eq]; exact vf_c
    · refine .of (vn_lcr (n := wsz x t c.length) ?_ (by omega) (show 8 < 9 by decide) (fun i hi => ?_) (fun _ => rfl))
      · (repeat' first | ((with_reducible apply vf_fz); exact rfl) | ((with_reducible apply vf_fn); exact rfl) | ((with_reducible apply vf_on); exact rfl) | ((with_reducible apply vf_fa); exact rfl) | with_reducible exact vf_c | with_reducible exact af_nil | with_reducible exact oe_none | with_reducible apply tf_v | with_reducible apply nf_flat | with_reducible apply af_cons | with_reducible apply of_some | with_reducible apply vf_e2 | with_reducible apply vf_e1 | with_reducible apply vf_ix | with_reducible apply vf_call | with_reducible apply vn_call | with_reducible apply vf_sl | with_reducible apply vf_disp | with_reducible apply vn_disp | with_reducible exact add_int | with_reducible exact sub_int | with_reducible exact eq_int | with_reducible exact ne_int | with_reducible exact lt_int | with_reducible exact gt_int | ((with_reducible apply mod_ok); omega) | ((with_reducible apply fdiv_ok) <;> omega) | ((with_reducible apply mul_okl) <;> omega) | ((with_reducible apply mul_okr) <;> omega) | (refine (?_ : flats _ = true); exact rfl) | (refine (?_ : flat _ = true); exact rfl) | (refine (?_ : List.length _ ≤ 16777216); simp; done) | exact add_int | exact sub_int)
      · refine vf_ix (a := .str (tx ((List.range 26).map (97 + ·)))) (b := .int ((wy x t + 5 * (i : Int) * (1 + wy x t % 3)) % 26)) (vf_fn rfl) ?_ ?_
        · (repeat' first | ((with_reducible apply vf_fz); exact rfl) | ((with_reducible apply vf_fn); exact rfl) | ((with_reducible apply vf_on); exact rfl) | ((with_reducible apply vf_fa); exact rfl) | with_reducible exact vf_c | with_reducible exact af_nil | with_reducible exact oe_none | with_reducible apply tf_v | with_reducible apply nf_flat | with_reducible apply af_cons | with_reducible apply of_some | with_reducible apply vf_e2 | with_reducible apply vf_e1 | with_reducible apply vf_ix | with_reducible apply vf_call | with_reducible apply vn_call | with_reducible apply vf_sl | with_reducible apply vf_disp | with_reducible apply vn_disp | with_reducible exact add_int | with_reducible exact sub_int | with_reducible exact eq_int | with_reducible exact ne_int | with_reducible exact lt_int | with_reducible exact gt_int | ((with_reducible apply mod_ok); omega) | ((with_reducible apply fdiv_ok) <;> omega) | ((with_reducible apply mul_okl) <;> omega) | ((with_reducible apply mul_okr) <;> omega) | (refine (?_ : flats _ = true); exact rfl) | (refine (?_ : flat _ = true); exact rfl) | (refine (?_ : List.length _ ≤ 16777216); simp; done) | exact add_int | exact sub_int)
        · have a0 := Int.emod_nonneg (wy x t + 5 * (i : Int) * (1 + wy x t % 3)) (show (26:Int) ≠ 0 by omega)
          have a1 := Int.emod_lt_of_pos (wy x t + 5 * (i : Int) * (1 + wy x t % 3)) (show (0:Int) < 26 by omega)
          refine ix_tx (by simp) a0 ?_
          rw [List.getElem?_map, List.getElem?_range (by omega)]; rfl
  refine se_seq (sf_set (d := .int (wsz x t c.length : Nat)) (vf_fn rfl) rfl rfl rfl) ?_
  refine se_seq (sf_if_set (b := (x % 2 == 0)) (d := .int ((x / 4) % ((wsz x t c.length : Int) + 1))) ?_ rfl (fun _ => ?_) rfl) ?_
  · (repeat' first | ((with_reducible apply vf_fz); exact rfl) | ((with_reducible apply vf_fn); exact rfl) | ((with_reducible apply vf_on); exact rfl) | ((with_reducible apply vf_fa); exact rfl) | with_reducible exact vf_c | with_reducible exact af_nil | with_reducible exact oe_none | with_reducible apply tf_v | with_reducible apply nf_flat | with_reducible apply af_cons | with_reducible apply of_some | with_reducible apply vf_e2 | with_reducible apply vf_e1 | with_reducible apply vf_ix | with_reducible apply vf_call | with_reducible apply vn_call | with_reducible apply vf_sl | with_reducible apply vf_disp | with_reducible apply vn_disp | with_reducible exact add_int | with_reducible exact sub_int | with_reducible exact eq_int | with_reducible exact ne_int | with_reducible exact lt_int | with_reducible exact gt_int | ((with_reducible apply mod_ok); omega) | ((with_reducible apply fdiv_ok) <;> omega) | ((with_reducible apply mul_okl) <;> omega) | ((with_reducible apply mul_okr) <;> omega) | (refine (?_ : flats _ = true); exact rfl) | (refine (?_ : flat _ = true); exact rfl) | (refine (?_ : List.length _ ≤ 16777216); simp; done) | exact add_int | exact sub_int)
  · (repeat' first | ((with_reducible apply vf_fz); exact rfl) | ((with_reducible apply vf_fn); exact rfl) | ((with_reducible apply vf_on); exact rfl) | ((with_reducible apply vf_fa); exact rfl) | with_reducible exact vf_c | with_reducible exact af_nil | with_reducible exact oe_none | with_reducible apply tf_v | with_reducible apply nf_flat | with_reducible apply af_cons | with_reducible apply of_some | with_reducible apply vf_e2 | with_reducible apply vf_e1 | with_reducible apply vf_ix | with_reducible apply vf_call | with_reducible apply vn_call | with_reducible apply vf_sl | with_reducible apply vf_disp | with_reducible apply vn_disp | with_reducible exact add_int | with_reducible exact sub_int | with_reducible exact eq_int | with_reducible exact ne_int | with_reducible exact lt_int | with_reducible exact gt_int | ((with_reducible apply mod_ok); omega) | ((with_reducible apply fdiv_ok) <;> omega) | ((with_reducible apply mul_okl) <;> omega) | ((with_reducible apply mul_okr) <;> omega) | (refine (?_ : flats _ = true); exact rfl) | (refine (?_ : flat _ = true); exact rfl) | (refine (?_ : List.length _ ≤ 16777216); simp; done) | exact add_int | exact sub_int)
  have ea : (if (x % 2 == 0) = true then D.int ((x / 4) % ((wsz x t c.length : Int) + 1)) else D.int (wsz x t c.length : Nat)) = .int (wat x t c.length : Nat) := by
    unfold wat
    by_cases q : x % 2 = 0
    · rw [if_pos (by simpa using q), if_pos q, Int.toNat_of_nonneg (Int.emod_nonneg _ (by omega))]
    · rw [if_neg (by simpa using q), if_neg q]
  rw [ea]
  refine sf_ret (d := .str (tx (cld x t c))) ?_ rfl
  unfold cld
  refine vf_e2 (a := .str (tx ((wd x t c.length).take (wat x t c.length) ++ c))) (b := .str (tx ((wd x t c.length).drop (wat x t c.length)))) ?_ ?_ ?_
  · refine vf_e2 (a := .str (tx ((wd x t c.length).take (wat x t c.length)))) (b := .str (tx c)) ?_ (vf_fz rfl) ?_
    · (repeat' first | ((with_reducible apply vf_fz); exact rfl) | ((with_reducible apply vf_fn); exact rfl) | ((with_reducible apply vf_on); exact rfl) | ((with_reducible apply vf_fa); exact rfl) | with_reducible exact vf_c | with_reducible exact af_nil | with_reducible exact oe_none | with_reducible apply tf_v | with_reducible apply nf_flat | with_reducible apply af_cons | with_reducible apply of_some | with_reducible apply vf_e2 | with_reducible apply vf_e1 | with_reducible apply vf_ix | with_reducible apply vf_call | with_reducible apply vn_call | with_reducible apply vf_sl | with_reducible apply vf_disp | with_reducible apply vn_disp | with_reducible exact add_int | with_reducible exact sub_int | with_reducible exact eq_int | with_reducible exact ne_int | with_reducible exact lt_int | with_reducible exact gt_int | ((with_reducible apply mod_ok); omega) | ((with_reducible apply fdiv_ok) <;> omega) | ((with_reducible apply mul_okl) <;> omega) | ((with_reducible apply mul_okr) <;> omega) | (refine (?_ : flats _ = true); exact rfl) | (refine (?_ : flat _ = true); exact rfl) | (refine (?_ : List.length _ ≤ 16777216); simp; done) | exact sl_str_to rfl (by rw [wd_len]; omega) | exact add_int | exact sub_int)
    · refine add_tx ?_
      simp [wd_len]; omega
  · (repeat' first | ((with_reducible apply vf_fz); exact rfl) | ((with_reducible apply vf_fn); exact rfl) | ((with_reducible apply vf_on); exact rfl) | ((with_reducible apply vf_fa); exact rfl) | with_reducible exact vf_c | with_reducible exact af_nil | with_reducible exact oe_none | with_reducible apply tf_v | with_reducible apply nf_flat | with_reducible apply af_cons | with_reducible apply of_some | with_reducible apply vf_e2 | with_reducible apply vf_e1 | with_reducible apply vf_ix | with_reducible apply vf_call | with_reducible apply vn_call | with_reducible apply vf_sl | with_reducible apply vf_disp | with_reducible apply vn_disp | with_reducible exact add_int | with_reducible exact sub_int | with_reducible exact eq_int | with_reducible exact ne_int | with_reducible exact lt_int | with_reducible exact gt_int | ((with_reducible apply mod_ok); omega) | ((with_reducible apply fdiv_ok) <;> omega) | ((with_reducible apply mul_okl) <;> omega) | ((with_reducible apply mul_okr) <;> omega) | (refine (?_ : flats _ = true); exact rfl) | (refine (?_ : flat _ = true); exact rfl) | (refine (?_ : List.length _ ≤ 16777216); simp; done) | exact sl_str_from rfl (by rw [wd_len]; omega) | exact add_int | exact sub_int)
  · refine add_tx ?_
    simp [wd_len]; omega

/-! ### the plots -/
section
variable (ns : List Int)
def pnI : Int := if (atZ ns 0 / 4 % 8 == 1) = true then 12 - atZ ns 0 / 32 % 8 else 1 + atZ ns 0 % 4
def pn : Nat := (pnI ns).toNat
theorem pn_eq : pnI ns = (pn ns : Nat) ∧ 1 ≤ pn ns ∧ pn ns ≤ 12 := by
  have a0 := Int.emod_nonneg (atZ ns 0 / 32) (show (8:Int) ≠ 0 by omega)
  have a1 := Int.emod_lt_of_pos (atZ ns 0 / 32) (show (0:Int) < 8 by omega)
  have b0 := Int.emod_nonneg (atZ ns 0) (show (4:Int) ≠ 0 by omega)
  have b1 := Int.emod_lt_of_pos (atZ ns 0) (show (0:Int) < 4 by omega)
  unfold pn pnI
  split <;> omega
def pqb (i : Nat) : Bool := (atZ ns 1 % 4 == 3) && decide ((i : Int) > 0)
def pqI (i : Nat) : Int := if pqb ns i = true then (i : Int) - 1 else (atZ ns 1 + 7 * (i : Int)) * 48271 % 10007 % ((i : Int) + 1)
def pq (i : Nat) : Nat := (pqI ns i).toNat
theorem pq_eq (i : Nat) : pqI ns i = (pq ns i : Nat) := by
  unfold pq pqI
  have a0 := Int.emod_nonneg ((atZ ns 1 + 7 * (i : Int)) * 48271 % 10007) (show (i : Int) + 1 ≠ 0 by omega)
  split
  · rename_i h
    unfold pqb at h
    simp only [Bool.and_eq_true, decide_eq_true_eq] at h
    omega
  · omega
def ppar (i : Nat) : Option Nat := if pq ns i < i then some (pq ns i) else none
theorem ppar_lt {i j : Nat} (h : ppar ns i = some j) : j < i := by
  unfold ppar at h
  split at h
  · cases h; assumption
  · cases h
def pnm (i : Nat) : List Nat := cld (atZ ns 1 / 3) (i : Nat) [97 + i]
def pD : Option Nat → D
  | none => .non
  | some j => .str (tx (pnm ns j))
def plot (i : Nat) : D := .tup [.str (tx (pnm ns i)), pD ns (ppar ns i)]
def plots : List D := (List.range (pn ns)).map (plot ns)
theorem pD_flat (o : Option Nat) : flat (pD ns o) = true := by cases o <;> rfl
theorem plot_flat (i : Nat) : flat (plot ns i) = true := by
  show (true && (flat (pD ns (ppar ns i)) && true)) = true
  rw [pD_flat]; rfl
theorem plots_flat : flats (plots ns) = true := flats_map (plot_flat ns) _
theorem pnm_inj {i j : Nat} (h : pnm ns i = pnm ns j) : i = j := by
  have := cld_inj _ _ _ _ _ h
  omega
theorem pnm_len (i : Nat) : (pnm ns i).length ≤ 16 := cld_len _ _ _ (by simp)
theorem pnm_ok {i : Nat} (h : i < 12) : okC (pnm ns i) = true := cld_ok _ _ _ (by simp [okC]; omega)
end
theorem al_eq : ("abcdefghijkl" : Str) = tx ((List.range 12).map (97 + ·)) := by decide +kernel
theorem plots_eq (ns : List Int) : f__law_plots [.scr ns] = some (.lst (plots ns)) := by
  obtain ⟨p0, p1, p2⟩ := pn_eq ns
  refine fn_sr rfl ?_
  unfold b__law_plots
  (try simp only [List.set_cons_zero, List.set_cons_succ])
  refine sr_seq (sf_set (d := .int (1 + atZ ns 0 % 4)) ?_ rfl rfl rfl) ?_
  · (repeat' first | ((with_reducible apply vf_fz); exact rfl) | ((with_reducible apply vf_fn); exact rfl) | ((with_reducible apply vf_on); exact rfl) | ((with_reducible apply vf_fa); exact rfl) | with_reducible exact vf_c | with_reducible exact af_nil | with_reducible exact oe_none | with_reducible apply tf_v | with_reducible apply nf_flat | with_reducible apply af_cons | with_reducible apply of_some | with_reducible apply vf_e2 | with_reducible apply vf_e1 | with_reducible apply vf_ix | with_reducible apply vf_call | with_reducible apply vn_call | with_reducible apply vf_sl | with_reducible apply vf_disp | with_reducible apply vn_disp | with_reducible exact add_int | with_reducible exact sub_int | with_reducible exact eq_int | with_reducible exact ne_int | with_reducible exact lt_int | with_reducible exact gt_int | ((with_reducible apply mod_ok); omega) | ((with_reducible apply fdiv_ok) <;> omega) | ((with_reducible apply mul_okl) <;> omega) | ((with_reducible apply mul_okr) <;> omega) | (refine (?_ : flats _ = true); exact rfl) | (refine (?_ : flat _ = true); exact rfl) | (refine (?_ : List.length _ ≤ 16777216); simp; done) | exact at_eq (by decide) | exact add_int | exact sub_int)
  (try simp only [List.set_cons_zero, List.set_cons_succ])
  refine sr_seq (sf_if_set (b := (atZ ns 0 / 4 % 8 == 1)) (d := .int (12 - atZ ns 0 / 32 % 8)) ?_ rfl (fun _ => ?_) rfl) ?_
  · (repeat' first | ((with_reducible apply vf_fz); exact rfl) | ((with_reducible apply vf_fn); exact rfl) | ((with_reducible apply vf_on); exact rfl) | ((with_reducible apply vf_fa); exact rfl) | with_reducible exact vf_c | with_reducible exact af_nil | with_reducible exact oe_none | with_reducible apply tf_v | with_reducible apply nf_flat | with_reducible apply af_cons | with_reducible apply of_some | with_reducible apply vf_e2 | with_reducible apply vf_e1 | with_reducible apply vf_ix | with_reducible apply vf_call | with_reducible apply vn_call | with_reducible apply vf_sl | with_reducible apply vf_disp | with_reducible apply vn_disp | with_reducible exact add_int | with_reducible exact sub_int | with_reducible exact eq_int | with_reducible exact ne_int | with_reducible exact lt_int | with_reducible exact gt_int | ((with_reducible apply mod_ok); omega) | ((with_reducible apply fdiv_ok) <;> omega) | ((with_reducible apply mul_okl) <;> omega) | ((with_reducible apply mul_okr) <;> omega) | (refine (?_ : flats _ = true); exact rfl) | (refine (?_ : flat _ = true); exact rfl) | (refine (?_ : List.length _ ≤ 16777216); simp; done) | exact at_eq (by decide) | exact add_int | exact sub_int)
  · (repeat' first | ((with_reducible apply vf_fz); exact rfl) | ((with_reducible apply vf_fn); exact rfl) | ((with_reducible apply vf_on); exact rfl) | ((with_reducible apply vf_fa); exact rfl) | with_reducible exact vf_c | with_reducible exact af_nil | with_reducible exact oe_none | with_reducible apply tf_v | with_reducible apply nf_flat | with_reducible apply af_cons | with_reducible apply of_some | with_reducible apply vf_e2 | with_reducible apply vf_e1 | with_reducible apply vf_ix | with_reducible apply vf_call | with_reducible apply vn_call | with_reducible apply vf_sl | with_reducible apply vf_disp | with_reducible apply vn_disp | with_reducible exact add_int | with_reducible exact sub_int | with_reducible exact eq_int | with_reducible exact ne_int | with_reducible exact lt_int | with_reducible exact gt_int | ((with_reducible apply mod_ok); omega) | ((with_reducible apply fdiv_ok) <;> omega) | ((with_reducible apply mul_okl) <;> omega) | ((with_reducible apply mul_okr) <;> omega) | (refine (?_ : flats _ = true); exact rfl) | (refine (?_ : flat _ = true); exact rfl) | (refine (?_ : List.length _ ≤ 16777216); simp; done) | exact at_eq (by decide) | exact add_int | exact sub_int)
  rw [show (if (atZ ns 0 / 4 % 8 == 1) = true then D.int (12 - atZ ns 0 / 32 % 8) else D.int (1 + atZ ns 0 % 4)) = .int (pn ns : Nat) by
    rw [← p0]; unfold pnI; split <;> rfl]
  (try simp only [List.set_cons_zero, List.set_cons_succ])
  refine sr_seq (se_setN (ne_lst ne_nil (by simp)) rfl rfl) ?_
  (try simp only [List.set_cons_zero, List.set_cons_succ])
  refine sr_for (fun k ρ => ∃ s3 s4 s5, freeS s3 = true ∧ freeS s4 = true ∧ freeS s5 = true ∧ ρ = [.fz (.scr ns), .fn (.int (pn ns : Nat)), .on (.lst ((List.range k).map (plot ns))), s3, s4, s5])
    (xf_range (n := (pn ns : Nat)) (vf_fn rfl) (by omega) (by omega)) rfl ⟨_, _, _, rfl, rfl, rfl, rfl⟩ ?_ ?_
  rotate_left
  · rintro ρ' ⟨s3, s4, s5, _, _, _, rfl⟩
    rw [show (rangeL (pn ns : Nat)).length = pn ns by simp [rangeL]]
    exact sr_retOn rfl
  · rintro i d ρ hd ⟨s3, s4, s5, f3, f4, f5, rfl⟩
    obtain ⟨hi, rfl⟩ := range_get hd
    have hi : i < pn ns := by simpa using hi
    (try simp only [List.set_cons_zero, List.set_cons_succ])
    refine sg_flat rfl f3 rfl ?_
    · (try simp only [List.set_cons_zero, List.set_cons_succ])
      refine sx_seq (sf_set (d := .int ((atZ ns 1 + 7 * (i : Int)) * 48271 % 10007 % ((i : Int) + 1))) ?_ rfl f4 rfl) ?_
      · (repeat' first | ((with_reducible apply vf_fz); exact rfl) | ((with_reducible apply vf_fn); exact rfl) | ((with_reducible apply vf_on); exact rfl) | ((with_reducible apply vf_fa); exact rfl) | with_reducible exact vf_c | with_reducible exact af_nil | with_reducible exact oe_none | with_reducible apply tf_v | with_reducible apply nf_flat | with_reducible apply af_cons | with_reducible apply of_some | with_reducible apply vf_e2 | with_reducible apply vf_e1 | with_reducible apply vf_ix | with_reducible apply vf_call | with_reducible apply vn_call | with_reducible apply vf_sl | with_reducible apply vf_disp | with_reducible apply vn_disp | with_reducible exact add_int | with_reducible exact sub_int | with_reducible exact eq_int | with_reducible exact ne_int | with_reducible exact lt_int | with_reducible exact gt_int | ((with_reducible apply mod_ok); omega) | ((with_reducible apply fdiv_ok) <;> omega) | ((with_reducible apply mul_okl) <;> omega) | ((with_reducible apply mul_okr) <;> omega) | (refine (?_ : flats _ = true); exact rfl) | (refine (?_ : flat _ = true); exact rfl) | (refine (?_ : List.length _ ≤ 16777216); simp; done) | exact at_eq (by decide) | exact add_int | exact sub_int)
      (try simp only [List.set_cons_zero, List.set_cons_succ])
      refine sx_seq (sf_if_set (b := pqb ns i) (d := .int ((i : Int) - 1)) (te_and (a := (atZ ns 1 % 4 == 3)) (b := decide ((i : Int) > 0)) ?_ (fun _ => ?_)) rfl (fun _ => ?_) rfl) ?_
      · (repeat' first | ((with_reducible apply vf_fz); exact rfl) | ((with_reducible apply vf_fn); exact rfl) | ((with_reducible apply vf_on); exact rfl) | ((with_reducible apply vf_fa); exact rfl) | with_reducible exact vf_c | with_reducible exact af_nil | with_reducible exact oe_none | with_reducible apply tf_v | with_reducible apply nf_flat | with_reducible apply af_cons | with_reducible apply of_some | with_reducible apply vf_e2 | with_reducible apply vf_e1 | with_reducible apply vf_ix | with_reducible apply vf_call | with_reducible apply vn_call | with_reducible apply vf_sl | with_reducible apply vf_disp | with_reducible apply vn_disp | with_reducible exact add_int | with_reducible exact sub_int | with_reducible exact eq_int | with_reducible exact ne_int | with_reducible exact lt_int | with_reducible exact gt_int | ((with_reducible apply mod_ok); omega) | ((with_reducible apply fdiv_ok) <;> omega) | ((with_reducible apply mul_okl) <;> omega) | ((with_reducible apply mul_okr) <;> omega) | (refine (?_ : flats _ = true); exact rfl) | (refine (?_ : flat _ = true); exact rfl) | (refine (?_ : List.length _ ≤ 16777216); simp; done) | exact at_eq (by decide) | exact add_int | exact sub_int)
      · (repeat' first | ((with_reducible apply vf_fz); exact rfl) | ((with_reducible apply vf_fn); exact rfl) | ((with_reducible apply vf_on); exact rfl) | ((with_reducible apply vf_fa); exact rfl) | with_reducible exact vf_c | with_reducible exact af_nil | with_reducible exact oe_none | with_reducible apply tf_v | with_reducible apply nf_flat | with_reducible apply af_cons | with_reducible apply of_some | with_reducible apply vf_e2 | with_reducible apply vf_e1 | with_reducible apply vf_ix | with_reducible apply vf_call | with_reducible apply vn_call | with_reducible apply vf_sl | with_reducible apply vf_disp | with_reducible apply vn_disp | with_reducible exact add_int | with_reducible exact sub_int | with_reducible exact eq_int | with_reducible exact ne_int | with_reducible exact lt_int | with_reducible exact gt_int | ((with_reducible apply mod_ok); omega) | ((with_reducible apply fdiv_ok) <;> omega) | ((with_reducible apply mul_okl) <;> omega) | ((with_reducible apply mul_okr) <;> omega) | (refine (?_ : flats _ = true); exact rfl) | (refine (?_ : flat _ = true); exact rfl) | (refine (?_ : List.length _ ≤ 16777216); simp; done) | exact add_int | exact sub_int)
      · (repeat' first | ((with_reducible apply vf_fz); exact rfl) | ((with_reducible apply vf_fn); exact rfl) | ((with_reducible apply vf_on); exact rfl) | ((with_reducible apply vf_fa); exact rfl) | with_reducible exact vf_c | with_reducible exact af_nil | with_reducible exact oe_none | with_reducible apply tf_v | with_reducible apply nf_flat | with_reducible apply af_cons | with_reducible apply of_some | with_reducible apply vf_e2 | with_reducible apply vf_e1 | with_reducible apply vf_ix | with_reducible apply vf_call | with_reducible apply vn_call | with_reducible apply vf_sl | with_reducible apply vf_disp | with_reducible apply vn_disp | with_reducible exact add_int | with_reducible exact sub_int | with_reducible exact eq_int | with_reducible exact ne_int | with_reducible exact lt_int | with_reducible exact gt_int | ((with_reducible apply mod_ok); omega) | ((with_reducible apply fdiv_ok) <;> omega) | ((with_reducible apply mul_okl) <;> omega) | ((with_reducible apply mul_okr) <;> omega) | (refine (?_ : flats _ = true); exact rfl) | (refine (?_ : flat _ = true); exact rfl) | (refine (?_ : List.length _ ≤ 16777216); simp; done) | exact add_int | exact sub_int)
      rw [show (if pqb ns i = true then D.int ((i : Int) - 1) else D.int ((atZ ns 1 + 7 * (i : Int)) * 48271 % 10007 % ((i : Int) + 1))) = .int (pq ns i : Nat) by
        rw [← pq_eq]; unfold pqI; split <;> rfl]
      (try simp only [List.set_cons_zero, List.set_cons_succ])
      refine sx_seq (sf_set (d := .non) vf_c rfl f5 rfl) ?_
      (try simp only [List.set_cons_zero, List.set_cons_succ])
      refine sx_seq (sf_if_set (b := decide ((pq ns i : Int) < (i : Int))) (d := .str (tx (pnm ns (pq ns i)))) ?_ rfl (fun hb => ?_) rfl) ?_
      · (repeat' first | ((with_reducible apply vf_fz); exact rfl) | ((with_reducible apply vf_fn); exact rfl) | ((with_reducible apply vf_on); exact rfl) | ((with_reducible apply vf_fa); exact rfl) | with_reducible exact vf_c | with_reducible exact af_nil | with_reducible exact oe_none | with_reducible apply tf_v | with_reducible apply nf_flat | with_reducible apply af_cons | with_reducible apply of_some | with_reducible apply vf_e2 | with_reducible apply vf_e1 | with_reducible apply vf_ix | with_reducible apply vf_call | with_reducible apply vn_call | with_reducible apply vf_sl | with_reducible apply vf_disp | with_reducible apply vn_disp | with_reducible exact add_int | with_reducible exact sub_int | with_reducible exact eq_int | with_reducible exact ne_int | with_reducible exact lt_int | with_reducible exact gt_int | ((with_reducible apply mod_ok); omega) | ((with_reducible apply fdiv_ok) <;> omega) | ((with_reducible apply mul_okl) <;> omega) | ((with_reducible apply mul_okr) <;> omega) | (refine (?_ : flats _ = true); exact rfl) | (refine (?_ : flat _ = true); exact rfl) | (refine (?_ : List.length _ ≤ 16777216); simp; done) | exact add_int | exact sub_int)
      · refine vf_ix (a := plot ns (pq ns i)) (b := .int 0) (vf_ix (a := .lst ((List.range i).map (plot ns))) (b := .int (pq ns i : Nat)) (vf_on rfl) (vf_fn rfl) ?_) vf_c rfl
        have : pq ns i < i := by simpa using hb
        refine ixl_nat (by omega) ?_
        rw [Int.toNat_natCast, List.getElem?_map, List.getElem?_range this]; rfl
      rw [show (if decide ((pq ns i : Int) < (i : Int)) = true then D.str (tx (pnm ns (pq ns i))) else D.non) = pD ns (ppar ns i) by
        unfold ppar
        by_cases q : pq ns i < i
        · rw [if_pos (by simpa using q), if_pos q]; rfl
        · rw [if_neg (by simpa using q), if_neg q]; rfl]
      (try simp only [List.set_cons_zero, List.set_cons_succ])
      refine sx_end (se_app rfl (way_on0 rfl) (nf_flat (d := plot ns i) ?_ (plot_flat ns i)) (by simp; omega) (put_on0 rfl)) ?_
      · refine vf_disp (ds := [.str (tx (pnm ns i)), pD ns (ppar ns i)]) (af_cons ?_ (af_cons (vf_fn rfl) af_nil)) ?_ (by simp)
        · refine vf_call (ds := [.int (atZ ns 1 / 3), .int (i : Nat), .str (tx [97 + i])]) ?_ (called_eq (by simp))
          refine af_cons ?_ (af_cons (vf_fn rfl) (af_cons ?_ af_nil))
          · (repeat' first | ((with_reducible apply vf_fz); exact rfl) | ((with_reducible apply vf_fn); exact rfl) | ((with_reducible apply vf_on); exact rfl) | ((with_reducible apply vf_fa); exact rfl) | with_reducible exact vf_c | with_reducible exact af_nil | with_reducible exact oe_none | with_reducible apply tf_v | with_reducible apply nf_flat | with_reducible apply af_cons | with_reducible apply of_some | with_reducible apply vf_e2 | with_reducible apply vf_e1 | with_reducible apply vf_ix | with_reducible apply vf_call | with_reducible apply vn_call | with_reducible apply vf_sl | with_reducible apply vf_disp | with_reducible apply vn_disp | with_reducible exact add_int | with_reducible exact sub_int | with_reducible exact eq_int | with_reducible exact ne_int | with_reducible exact lt_int | with_reducible exact gt_int | ((with_reducible apply mod_ok); omega) | ((with_reducible apply fdiv_ok) <;> omega) | ((with_reducible apply mul_okl) <;> omega) | ((with_reducible apply mul_okr) <;> omega) | (refine (?_ : flats _ = true); exact rfl) | (refine (?_ : flat _ = true); exact rfl) | (refine (?_ : List.length _ ≤ 16777216); simp; done) | exact at_eq (by decide) | exact add_int | exact sub_int)
          · rw [al_eq]
            refine vf_ix vf_c (vf_fn rfl) (ix_tx (by simp) (by omega) ?_)
            rw [Int.toNat_natCast, List.getElem?_map, List.getElem?_range (by omega)]; rfl
        · exact plot_flat ns i
      · exact ⟨_, _, _, rfl, rfl, rfl, by rw [List.range_succ, List.map_append]; rfl⟩

/-! ### the names -/
theorem abc_eq : ("abc" : Str) = tx ((List.range 3).map (97 + ·)) := by decide +kernel
theorem zyx_eq : ("zyxwvutsrqponmlkjihgfedcba" : Str) = tx ((List.range 26).map (122 - ·)) := by decide +kernel
def nmL (l : List (List Nat)) : List D := l.map fun c => .str (tx c)
theorem nmL_flat (l : List (List Nat)) : flats (nmL l) = true := flats_map (fun _ => rfl) _
structure NmOk (l : List (List Nat)) : Prop where
  ne : 1 ≤ l.length
  le : l.length ≤ 60
  ok : ∀ c ∈ l, okC c = true
theorem names_eq (ns : List Int) : ∃ l, f__law_names [.scr ns, .lst (plots ns)] = some (.lst (nmL l)) ∧ NmOk l := by
  obtain ⟨p0, p1, p2⟩ := pn_eq ns
  have key : ∃ d, f__law_names [.scr ns, .lst (plots ns)] = some d ∧ ∃ l, d = .lst (nmL l) ∧ NmOk l := by
    refine fn_sp rfl ?_
    unfold b__law_names
    (try simp only [List.set_cons_zero, List.set_cons_succ])
    refine sp_seq (sf_set (d := .int (atZ ns 2)) ?_ rfl rfl rfl) ?_
    · (repeat' first | ((with_reducible apply vf_fz); exact rfl) | ((with_reducible apply vf_fn); exact rfl) | ((with_reducible apply vf_on); exact rfl) | ((with_reducible apply vf_fa); exact rfl) | with_reducible exact vf_c | with_reducible exact af_nil | with_reducible exact oe_none | with_reducible apply tf_v | with_reducible apply nf_flat | with_reducible apply af_cons | with_reducible apply of_some | with_reducible apply vf_e2 | with_reducible apply vf_e1 | with_reducible apply vf_ix | with_reducible apply vf_call | with_reducible apply vn_call | with_reducible apply vf_sl | with_reducible apply vf_disp | with_reducible apply vn_disp | with_reducible exact add_int | with_reducible exact sub_int | with_reducible exact eq_int | with_reducible exact ne_int | with_reducible exact lt_int | with_reducible exact gt_int | ((with_reducible apply mod_ok); omega) | ((with_reducible apply fdiv_ok) <;> omega) | ((with_reducible apply mul_okl) <;> omega) | ((with_reducible apply mul_okr) <;> omega) | (refine (?_ : flats _ = true); exact rfl) | (refine (?_ : flat _ = true); exact rfl) | (refine (?_ : List.length _ ≤ 16777216); simp; done) | exact at_eq (by decide) | exact add_int | exact sub_int)
    (try simp only [List.set_cons_zero, List.set_cons_succ])
    refine sp_seq (sf_set (d := .int (1 + atZ ns 2 % 5)) ?_ rfl rfl rfl) ?_
    · (repeat' first | ((with_reducible apply vf_fz); exact rfl) | ((with_reducible apply vf_fn); exact rfl) | ((with_reducible apply vf_on); exact rfl) | ((with_reducible apply vf_fa); exact rfl) | with_reducible exact vf_c | with_reducible exact af_nil | with_reducible exact oe_none | with_reducible apply tf_v | with_reducible apply nf_flat | with_reducible apply af_cons | with_reducible apply of_some | with_reducible apply vf_e2 | with_reducible apply vf_e1 | with_reducible apply vf_ix | with_reducible apply vf_call | with_reducible apply vn_call | with_reducible apply vf_sl | with_reducible apply vf_disp | with_reducible apply vn_disp | with_reducible exact add_int | with_reducible exact sub_int | with_reducible exact eq_int | with_reducible exact ne_int | with_reducible exact lt_int | with_reducible exact gt_int | ((with_reducible apply mod_ok); omega) | ((with_reducible apply fdiv_ok) <;> omega) | ((with_reducible apply mul_okl) <;> omega) | ((with_reducible apply mul_okr) <;> omega) | (refine (?_ : flats _ = true); exact rfl) | (refine (?_ : flat _ = true); exact rfl) | (refine (?_ : List.length _ ≤ 16777216); simp; done) | exact add_int | exact sub_int)
    (try simp only [List.set_cons_zero, List.set_cons_succ])
    refine sp_seq (sf_if_set (b := (atZ ns 2 / 5 % 16 == 3)) (d := .int 60) ?_ rfl (fun _ => vf_c) rfl) ?_
    · (repeat' first | ((with_reducible apply vf_fz); exact rfl) | ((with_reducible apply vf_fn); exact rfl) | ((with_reducible apply vf_on); exact rfl) | ((with_reducible apply vf_fa); exact rfl) | with_reducible exact vf_c | with_reducible exact af_nil | with_reducible exact oe_none | with_reducible apply tf_v | with_reducible apply nf_flat | with_reducible apply af_cons | with_reducible apply of_some | with_reducible apply vf_e2 | with_reducible apply vf_e1 | with_reducible apply vf_ix | with_reducible apply vf_call | with_reducible apply vn_call | with_reducible apply vf_sl | with_reducible apply vf_disp | with_reducible apply vn_disp | with_reducible exact add_int | with_reducible exact sub_int | with_reducible exact eq_int | with_reducible exact ne_int | with_reducible exact lt_int | with_reducible exact gt_int | ((with_reducible apply mod_ok); omega) | ((with_reducible apply fdiv_ok) <;> omega) | ((with_reducible apply mul_okl) <;> omega) | ((with_reducible apply mul_okr) <;> omega) | (refine (?_ : flats _ = true); exact rfl) | (refine (?_ : flat _ = true); exact rfl) | (refine (?_ : List.length _ ≤ 16777216); simp; done) | exact add_int | exact sub_int)
    obtain ⟨n, hn, n0, n1⟩ : ∃ n : Nat, (if (atZ ns 2 / 5 % 16 == 3) = true then D.int 60 else .int (1 + atZ ns 2 % 5)) = .int (n : Nat) ∧ 1 ≤ n ∧ n ≤ 60 := by
      have b0 := Int.emod_nonneg (atZ ns 2) (show (5:Int) ≠ 0 by omega)
      have b1 := Int.emod_lt_of_pos (atZ ns 2) (show (0:Int) < 5 by omega)
      split
      · exact ⟨60, rfl, by omega, by omega⟩
      · refine ⟨(1 + atZ ns 2 % 5).toNat, ?_, by omega, by omega⟩
        rw [Int.toNat_of_nonneg (by omega)]
    rw [hn]
    (try simp only [List.set_cons_zero, List.set_cons_succ])
    refine sp_guard (b := (atZ ns 2 / 5 % 4 == 1)) ?_ (fun _ => ?_) (fun _ => ?_)
    · (repeat' first | ((with_reducible apply vf_fz); exact rfl) | ((with_reducible apply vf_fn); exact rfl) | ((with_reducible apply vf_on); exact rfl) | ((with_reducible apply vf_fa); exact rfl) | with_reducible exact vf_c | with_reducible exact af_nil | with_reducible exact oe_none | with_reducible apply tf_v | with_reducible apply nf_flat | with_reducible apply af_cons | with_reducible apply of_some | with_reducible apply vf_e2 | with_reducible apply vf_e1 | with_reducible apply vf_ix | with_reducible apply vf_call | with_reducible apply vn_call | with_reducible apply vf_sl | with_reducible apply vf_disp | with_reducible apply vn_disp | with_reducible exact add_int | with_reducible exact sub_int | with_reducible exact eq_int | with_reducible exact ne_int | with_reducible exact lt_int | with_reducible exact gt_int | ((with_reducible apply mod_ok); omega) | ((with_reducible apply fdiv_ok) <;> omega) | ((with_reducible apply mul_okl) <;> omega) | ((with_reducible apply mul_okr) <;> omega) | (refine (?_ : flats _ = true); exact rfl) | (refine (?_ : flat _ = true); exact rfl) | (refine (?_ : List.length _ ≤ 16777216); simp; done) | exact add_int | exact sub_int)
    · (try simp only [List.set_cons_zero, List.set_cons_succ])
      refine spn_ret (d := .lst (((List.range (pn ns)).map fun i => D.str (tx (pnm ns i))).take n)) (vn_sl (a := .lst ((List.range (pn ns)).map fun i => D.str (tx (pnm ns i)))) (.of (ve_lc (xe_seq (ve_fz rfl) rfl) (by simp [plots]; omega) ?_)) oe_none (of_some (vf_fn rfl)) (sl_lst_to rfl (flats_map (fun _ => rfl) _))) ?_
      · rw [show ((List.range (pn ns)).map fun i => D.str (tx (pnm ns i))) = (plots ns).map fun d => match d with | .tup [a, _] => a | d => d by
          simp only [plots, List.map_map]; rfl]
        refine lc_mapS _ (fun d hd => ?_) (fun d hd => ?_)
        · simp only [plots, List.mem_map] at hd
          obtain ⟨i, _, rfl⟩ := hd
          exact sg_two rfl rfl rfl rfl rfl (pD_flat ns _) (vf_fn rfl)
        · simp only [plots, List.mem_map] at hd
          obtain ⟨i, _, rfl⟩ := hd
          rfl
      · refine ⟨((List.range (pn ns)).map (pnm ns)).take n, ?_, ?_, ?_, ?_⟩
        · simp only [nmL, List.map_take, List.map_map]; rfl
        · simp; omega
        · simp; omega
        · intro c hc
          have := List.mem_of_mem_take hc
          simp only [List.mem_map, List.mem_range] at this
          obtain ⟨i, hi, rfl⟩ := this
          exact pnm_ok ns (by omega)
    · (try simp only [List.set_cons_zero, List.set_cons_succ])
      refine sp_seq (sf_set (d := .str (tx ((List.range 26).map (122 - ·)))) (by rw [← zyx_eq]; exact vf_c) rfl rfl rfl) ?_
      (try simp only [List.set_cons_zero, List.set_cons_succ])
      refine spn_ret (vn_lcr (F := fun i => .str (tx (cld (atZ ns 2 / 80) (i : Nat) [97 + i / 26, 122 - i % 26]))) (vf_fn rfl) (by omega) (show 7 < 8 by decide) (fun i hi => ?_) (fun _ => rfl)) ?_
      · refine vf_call (ds := [.int (atZ ns 2 / 80), .int (i : Nat), .str (tx [97 + i / 26, 122 - i % 26])]) ?_ (called_eq (by simp))
        refine af_cons ?_ (af_cons (vf_fn rfl) (af_cons ?_ af_nil))
        · (repeat' first | ((with_reducible apply vf_fz); exact rfl) | ((with_reducible apply vf_fn); exact rfl) | ((with_reducible apply vf_on); exact rfl) | ((with_reducible apply vf_fa); exact rfl) | with_reducible exact vf_c | with_reducible exact af_nil | with_reducible exact oe_none | with_reducible apply tf_v | with_reducible apply nf_flat | with_reducible apply af_cons | with_reducible apply of_some | with_reducible apply vf_e2 | with_reducible apply vf_e1 | with_reducible apply vf_ix | with_reducible apply vf_call | with_reducible apply vn_call | with_reducible apply vf_sl | with_reducible apply vf_disp | with_reducible apply vn_disp | with_reducible exact add_int | with_reducible exact sub_int | with_reducible exact eq_int | with_reducible exact ne_int | with_reducible exact lt_int | with_reducible exact gt_int | ((with_reducible apply mod_ok); omega) | ((with_reducible apply fdiv_ok) <;> omega) | ((with_reducible apply mul_okl) <;> omega) | ((with_reducible apply mul_okr) <;> omega) | (refine (?_ : flats _ = true); exact rfl) | (refine (?_ : flat _ = true); exact rfl) | (refine (?_ : List.length _ ≤ 16777216); simp; done) | exact add_int | exact sub_int)
        · refine vf_e2 (a := .str (tx [97 + i / 26])) (b := .str (tx [122 - i % 26])) ?_ ?_ (add_tx (by simp))
          · rw [abc_eq]
            refine vf_ix (b := .int ((i / 26 : Nat) : Int)) vf_c ?_ (ix_tx (by simp) (by omega) ?_)
            · (repeat' first | ((with_reducible apply vf_fz); exact rfl) | ((with_reducible apply vf_fn); exact rfl) | ((with_reducible apply vf_on); exact rfl) | ((with_reducible apply vf_fa); exact rfl) | with_reducible exact vf_c | with_reducible exact af_nil | with_reducible exact oe_none | with_reducible apply tf_v | with_reducible apply nf_flat | with_reducible apply af_cons | with_reducible apply of_some | with_reducible apply vf_e2 | with_reducible apply vf_e1 | with_reducible apply vf_ix | with_reducible apply vf_call | with_reducible apply vn_call | with_reducible apply vf_sl | with_reducible apply vf_disp | with_reducible apply vn_disp | with_reducible exact add_int | with_reducible exact sub_int | with_reducible exact eq_int | with_reducible exact ne_int | with_reducible exact lt_int | with_reducible exact gt_int | ((with_reducible apply mod_ok); omega) | ((with_reducible apply fdiv_ok) <;> omega) | ((with_reducible apply mul_okl) <;> omega) | ((with_reducible apply mul_okr) <;> omega) | (refine (?_ : flats _ = true); exact rfl) | (refine (?_ : flat _ = true); exact rfl) | (refine (?_ : List.length _ ≤ 16777216); simp; done) | exact fdiv_ok (by decide) (by decide) | exact add_int | exact sub_int)
            · rw [Int.toNat_natCast, List.getElem?_map, List.getElem?_range (by omega)]; rfl
          · refine vf_ix (b := .int ((i % 26 : Nat) : Int)) (vf_fn rfl) ?_ (ix_tx (by simp) (by omega) ?_)
            · (repeat' first | ((with_reducible apply vf_fz); exact rfl) | ((with_reducible apply vf_fn); exact rfl) | ((with_reducible apply vf_on); exact rfl) | ((with_reducible apply vf_fa); exact rfl) | with_reducible exact vf_c | with_reducible exact af_nil | with_reducible exact oe_none | with_reducible apply tf_v | with_reducible apply nf_flat | with_reducible apply af_cons | with_reducible apply of_some | with_reducible apply vf_e2 | with_reducible apply vf_e1 | with_reducible apply vf_ix | with_reducible apply vf_call | with_reducible apply vn_call | with_reducible apply vf_sl | with_reducible apply vf_disp | with_reducible apply vn_disp | with_reducible exact add_int | with_reducible exact sub_int | with_reducible exact eq_int | with_reducible exact ne_int | with_reducible exact lt_int | with_reducible exact gt_int | ((with_reducible apply mod_ok); omega) | ((with_reducible apply fdiv_ok) <;> omega) | ((with_reducible apply mul_okl) <;> omega) | ((with_reducible apply mul_okr) <;> omega) | (refine (?_ : flats _ = true); exact rfl) | (refine (?_ : flat _ = true); exact rfl) | (refine (?_ : List.length _ ≤ 16777216); simp; done) | exact mod_ok (by decide) | exact add_int | exact sub_int)
            · rw [Int.toNat_natCast, List.getElem?_map, List.getElem?_range (by omega)]; rfl
      · refine ⟨(List.range n).map fun (i : Nat) => cld (atZ ns 2 / 80) (i : Nat) [97 + i / 26, 122 - i % 26], by simp [nmL], by simp; omega, by simp; omega, ?_⟩
        intro c hc
        simp only [List.mem_map, List.mem_range] at hc
        obtain ⟨i, hi, rfl⟩ := hc
        exact cld_ok _ _ _ (by simp [okC]; omega)
  obtain ⟨d, h, l, rfl, hl⟩ := key
  exact ⟨l, h, hl⟩
end K06

namespace K06
open PySem L2 DL
/-! ### the rows, by kind -/
def nmD (ns : List Int) (i : Nat) : D := .str (tx (pnm ns i))
inductive Rw
  | opn (p : Nat) | lay (a : List Nat) (p : Nat) (z : Int) | copy (a b : List Nat) (p : Nat) | same (a b : List Nat) | add (a b : List Nat) | tell (a : List Nat)
  | give (p : Nat) | fork (k : Int) | go (k : Int) | fin
def Rw.tag : Rw → Str
  | .opn _ => "open" | .lay _ _ _ => "lay" | .copy _ _ _ => "copy" | .same _ _ => "same" | .add _ _ => "add" | .tell _ => "tell" | .give _ => "give" | .fork _ => "fork" | .go _ => "go" | .fin => "end"
def Rw.rest (ns : List Int) : Rw → List D
  | .opn p => [nmD ns p]
  | .lay a p z => [.str (tx a), nmD ns p, .int z]
  | .copy a b p => [.str (tx a), .str (tx b), nmD ns p]
  | .same a b => [.str (tx a), .str (tx b)]
  | .add a b => [.str (tx a), .str (tx b)]
  | .tell a => [.str (tx a)]
  | .give p => [nmD ns p]
  | .fork k => [.int k]
  | .go k => [.int k]
  | .fin => []
def rwD (ns : List Int) (w : Rw) : D := .tup (.str w.tag :: w.rest ns)
def RwOk (ns : List Int) (l : List (List Nat)) : Rw → Prop
  | .opn p => p < pn ns
  | .lay a p _ => a ∈ l ∧ p < pn ns
  | .copy a b p => a ∈ l ∧ b ∈ l ∧ p < pn ns
  | .same a b => a ∈ l ∧ b ∈ l
  | .add a b => a ∈ l ∧ b ∈ l
  | .tell a => a ∈ l
  | .give p => p < pn ns
  | _ => True
theorem rwD_flat (ns : List Int) (w : Rw) : flat (rwD ns w) = true := by cases w <;> rfl
theorem rwD_tag (ns : List Int) (w : Rw) : ixD (rwD ns w) (.int 0) = some (.str w.tag) := by cases w <;> rfl
theorem tag_ok (w : Rw) : PyData.strOk w.tag = true := by cases w <;> kernel_rfl
theorem ix_mod {ds : List D} {y : Int} (h : 1 ≤ ds.length) : ∃ d, d ∈ ds ∧ ixD (.lst ds) (.int (y % (ds.length : Nat))) = some d := by
  have a0 := Int.emod_nonneg y (show (ds.length : Int) ≠ 0 by omega)
  have a1 := Int.emod_lt_of_pos y (show (0 : Int) < ds.length by omega)
  exact ix_mem a0 a1
theorem mem_nmL {l : List (List Nat)} {d : D} (h : d ∈ nmL l) : ∃ c, c ∈ l ∧ d = .str (tx c) := by
  simp only [nmL, List.mem_map] at h
  obtain ⟨c, h1, rfl⟩ := h
  exact ⟨c, h1, rfl⟩
theorem mem_plots {ns : List Int} {d : D} (h : d ∈ plots ns) : ∃ i, i < pn ns ∧ d = plot ns i := by
  simp only [plots, List.mem_map, List.mem_range] at h
  obtain ⟨i, h1, rfl⟩ := h
  exact ⟨i, h1, rfl⟩
theorem plots_len (ns : List Int) : (plots ns).length = pn ns := by simp [plots]
theorem dk_str {k : Nat} {x : Str} (h : PyData.strOk x = true) : dk k (.str x) = true := by cases k <;> simpa [dk] using h
theorem dk_int {k : Nat} {i : Int} : dk k (.int i) = true := by cases k <;> simp [dk]
theorem row_rw (ns : List Int) (x : Int) (l : List (List Nat)) (hl : NmOk l) (n : Nat) (hn : n ≤ 60) : ∃ d, f__law_row [.int x, .lst (plots ns), .lst (nmL l), .int (n : Nat)] = some d ∧ ∃ w, d = rwD ns w ∧ RwOk ns l w := by
  obtain ⟨p0, p1, p2⟩ := pn_eq ns
  refine fn_sp rfl ?_
  unfold b__law_row
  show Sp _ [.fz (.int x), .fz (.lst (plots ns)), .fz (.lst (nmL l)), .fz (.int (n : Nat)), .emp, .emp, .emp, .emp, .emp, .emp, .emp] _
  have hlen : (nmL l).length = l.length := by simp [nmL]
  generalize hy : (x / 10 * 48271 + 11) % 1000003 = y
  obtain ⟨d5, m5, e5⟩ := ix_mod (ds := nmL l) (y := y) (by rw [hlen]; exact hl.ne)
  obtain ⟨d6, m6, e6⟩ := ix_mod (ds := nmL l) (y := y / 7) (by rw [hlen]; exact hl.ne)
  obtain ⟨d7, m7, e7⟩ := ix_mod (ds := plots ns) (y := y / 61) (by rw [plots_len]; exact p1)
  obtain ⟨c5, q5, rfl⟩ := mem_nmL m5
  obtain ⟨c6, q6, rfl⟩ := mem_nmL m6
  obtain ⟨i7, q7, rfl⟩ := mem_plots m7
  have o5 : PyData.strOk (tx c5) = true := tx_ok (hl.ok _ q5)
  have o6 : PyData.strOk (tx c6) = true := tx_ok (hl.ok _ q6)
  have o7 : PyData.strOk (tx (pnm ns i7)) = true := tx_ok (pnm_ok ns (by omega))
  have hpos : (0 : Int) < (nmL l).length := by rw [hlen]; have := hl.ne; omega
  have hpos2 : (0 : Int) < (plots ns).length := by rw [plots_len]; omega
  (try simp only [List.set_cons_zero, List.set_cons_succ])
  refine sp_seq (sf_set (d := .int y) ?_ rfl rfl rfl) ?_
  · rw [← hy]; (repeat' first | ((with_reducible apply vf_fz); exact rfl) | ((with_reducible apply vf_fn); exact rfl) | ((with_reducible apply vf_on); exact rfl) | ((with_reducible apply vf_fa); exact rfl) | with_reducible exact vf_c | with_reducible exact af_nil | with_reducible exact oe_none | with_reducible apply tf_v | with_reducible apply nf_flat | with_reducible apply af_cons | with_reducible apply of_some | with_reducible apply vf_e2 | with_reducible apply vf_e1 | with_reducible apply vf_ix | with_reducible apply vf_call | with_reducible apply vn_call | with_reducible apply vf_sl | with_reducible apply vf_disp | with_reducible apply vn_disp | with_reducible exact add_int | with_reducible exact sub_int | with_reducible exact eq_int | with_reducible exact ne_int | with_reducible exact lt_int | with_reducible exact gt_int | ((with_reducible apply mod_ok); omega) | ((with_reducible apply fdiv_ok) <;> omega) | ((with_reducible apply mul_okl) <;> omega) | ((with_reducible apply mul_okr) <;> omega) | (refine (?_ : flats _ = true); exact rfl) | (refine (?_ : flat _ = true); exact rfl) | (refine (?_ : List.length _ ≤ 16777216); simp; done) | exact add_int | exact sub_int)
  (try simp only [List.set_cons_zero, List.set_cons_succ])
  refine sp_seq (sf_set (d := .str (tx c5)) ?_ rfl rfl rfl) ?_
  · (repeat' first | ((with_reducible apply vf_fz); exact rfl) | ((with_reducible apply vf_fn); exact rfl) | ((with_reducible apply vf_on); exact rfl) | ((with_reducible apply vf_fa); exact rfl) | with_reducible exact vf_c | with_reducible exact af_nil | with_reducible exact oe_none | with_reducible apply tf_v | with_reducible apply nf_flat | with_reducible apply af_cons | with_reducible apply of_some | with_reducible apply vf_e2 | with_reducible apply vf_e1 | with_reducible apply vf_ix | with_reducible apply vf_call | with_reducible apply vn_call | with_reducible apply vf_sl | with_reducible apply vf_disp | with_reducible apply vn_disp | with_reducible exact add_int | with_reducible exact sub_int | with_reducible exact eq_int | with_reducible exact ne_int | with_reducible exact lt_int | with_reducible exact gt_int | ((with_reducible apply mod_ok); omega) | ((with_reducible apply fdiv_ok) <;> omega) | ((with_reducible apply mul_okl) <;> omega) | ((with_reducible apply mul_okr) <;> omega) | (refine (?_ : flats _ = true); exact rfl) | (refine (?_ : flat _ = true); exact rfl) | (refine (?_ : List.length _ ≤ 16777216); simp; done) | exact e5 | exact rfl | exact add_int | exact sub_int)
  (try simp only [List.set_cons_zero, List.set_cons_succ])
  refine sp_seq (sf_set (d := .str (tx c6)) ?_ rfl rfl rfl) ?_
  · (repeat' first | ((with_reducible apply vf_fz); exact rfl) | ((with_reducible apply vf_fn); exact rfl) | ((with_reducible apply vf_on); exact rfl) | ((with_reducible apply vf_fa); exact rfl) | with_reducible exact vf_c | with_reducible exact af_nil | with_reducible exact oe_none | with_reducible apply tf_v | with_reducible apply nf_flat | with_reducible apply af_cons | with_reducible apply of_some | with_reducible apply vf_e2 | with_reducible apply vf_e1 | with_reducible apply vf_ix | with_reducible apply vf_call | with_reducible apply vn_call | with_reducible apply vf_sl | with_reducible apply vf_disp | with_reducible apply vn_disp | with_reducible exact add_int | with_reducible exact sub_int | with_reducible exact eq_int | with_reducible exact ne_int | with_reducible exact lt_int | with_reducible exact gt_int | ((with_reducible apply mod_ok); omega) | ((with_reducible apply fdiv_ok) <;> omega) | ((with_reducible apply mul_okl) <;> omega) | ((with_reducible apply mul_okr) <;> omega) | (refine (?_ : flats _ = true); exact rfl) | (refine (?_ : flat _ = true); exact rfl) | (refine (?_ : List.length _ ≤ 16777216); simp; done) | exact e6 | exact rfl | exact add_int | exact sub_int)
  (try simp only [List.set_cons_zero, List.set_cons_succ])
  refine sp_seq (sf_set (d := .str (tx (pnm ns i7))) ?_ rfl rfl rfl) ?_
  · refine vf_ix (a := plot ns i7) ?_ vf_c rfl
    (repeat' first | ((with_reducible apply vf_fz); exact rfl) | ((with_reducible apply vf_fn); exact rfl) | ((with_reducible apply vf_on); exact rfl) | ((with_reducible apply vf_fa); exact rfl) | with_reducible exact vf_c | with_reducible exact af_nil | with_reducible exact oe_none | with_reducible apply tf_v | with_reducible apply nf_flat | with_reducible apply af_cons | with_reducible apply of_some | with_reducible apply vf_e2 | with_reducible apply vf_e1 | with_reducible apply vf_ix | with_reducible apply vf_call | with_reducible apply vn_call | with_reducible apply vf_sl | with_reducible apply vf_disp | with_reducible apply vn_disp | with_reducible exact add_int | with_reducible exact sub_int | with_reducible exact eq_int | with_reducible exact ne_int | with_reducible exact lt_int | with_reducible exact gt_int | ((with_reducible apply mod_ok); omega) | ((with_reducible apply fdiv_ok) <;> omega) | ((with_reducible apply mul_okl) <;> omega) | ((with_reducible apply mul_okr) <;> omega) | (refine (?_ : flats _ = true); exact rfl) | (refine (?_ : flat _ = true); exact rfl) | (refine (?_ : List.length _ ≤ 16777216); simp; done) | exact e7 | exact rfl | exact add_int | exact sub_int)
  (try simp only [List.set_cons_zero, List.set_cons_succ])
  refine sp_seq (sf_set (d := .int (x / 10 % 19 - 9)) ?_ rfl rfl rfl) ?_
  · (repeat' first | ((with_reducible apply vf_fz); exact rfl) | ((with_reducible apply vf_fn); exact rfl) | ((with_reducible apply vf_on); exact rfl) | ((with_reducible apply vf_fa); exact rfl) | with_reducible exact vf_c | with_reducible exact af_nil | with_reducible exact oe_none | with_reducible apply tf_v | with_reducible apply nf_flat | with_reducible apply af_cons | with_reducible apply of_some | with_reducible apply vf_e2 | with_reducible apply vf_e1 | with_reducible apply vf_ix | with_reducible apply vf_call | with_reducible apply vn_call | with_reducible apply vf_sl | with_reducible apply vf_disp | with_reducible apply vn_disp | with_reducible exact add_int | with_reducible exact sub_int | with_reducible exact eq_int | with_reducible exact ne_int | with_reducible exact lt_int | with_reducible exact gt_int | ((with_reducible apply mod_ok); omega) | ((with_reducible apply fdiv_ok) <;> omega) | ((with_reducible apply mul_okl) <;> omega) | ((with_reducible apply mul_okr) <;> omega) | (refine (?_ : flats _ = true); exact rfl) | (refine (?_ : flat _ = true); exact rfl) | (refine (?_ : List.length _ ≤ 16777216); simp; done) | exact add_int | exact sub_int)
  (try simp only [List.set_cons_zero, List.set_cons_succ])
  refine sp_seq (sf_if_set (b := (y % 4 == 1)) (d := .int (x / 10 % 2000000000000000001 - 1000000000000000000)) ?_ rfl (fun _ => ?_) rfl) ?_
  · (repeat' first | ((with_reducible apply vf_fz); exact rfl) | ((with_reducible apply vf_fn); exact rfl) | ((with_reducible apply vf_on); exact rfl) | ((with_reducible apply vf_fa); exact rfl) | with_reducible exact vf_c | with_reducible exact af_nil | with_reducible exact oe_none | with_reducible apply tf_v | with_reducible apply nf_flat | with_reducible apply af_cons | with_reducible apply of_some | with_reducible apply vf_e2 | with_reducible apply vf_e1 | with_reducible apply vf_ix | with_reducible apply vf_call | with_reducible apply vn_call | with_reducible apply vf_sl | with_reducible apply vf_disp | with_reducible apply vn_disp | with_reducible exact add_int | with_reducible exact sub_int | with_reducible exact eq_int | with_reducible exact ne_int | with_reducible exact lt_int | with_reducible exact gt_int | ((with_reducible apply mod_ok); omega) | ((with_reducible apply fdiv_ok) <;> omega) | ((with_reducible apply mul_okl) <;> omega) | ((with_reducible apply mul_okr) <;> omega) | (refine (?_ : flats _ = true); exact rfl) | (refine (?_ : flat _ = true); exact rfl) | (refine (?_ : List.length _ ≤ 16777216); simp; done) | exact add_int | exact sub_int)
  · (repeat' first | ((with_reducible apply vf_fz); exact rfl) | ((with_reducible apply vf_fn); exact rfl) | ((with_reducible apply vf_on); exact rfl) | ((with_reducible apply vf_fa); exact rfl) | with_reducible exact vf_c | with_reducible exact af_nil | with_reducible exact oe_none | with_reducible apply tf_v | with_reducible apply nf_flat | with_reducible apply af_cons | with_reducible apply of_some | with_reducible apply vf_e2 | with_reducible apply vf_e1 | with_reducible apply vf_ix | with_reducible apply vf_call | with_reducible apply vn_call | with_reducible apply vf_sl | with_reducible apply vf_disp | with_reducible apply vn_disp | with_reducible exact add_int | with_reducible exact sub_int | with_reducible exact eq_int | with_reducible exact ne_int | with_reducible exact lt_int | with_reducible exact gt_int | ((with_reducible apply mod_ok); omega) | ((with_reducible apply fdiv_ok) <;> omega) | ((with_reducible apply mul_okl) <;> omega) | ((with_reducible apply mul_okr) <;> omega) | (refine (?_ : flats _ = true); exact rfl) | (refine (?_ : flat _ = true); exact rfl) | (refine (?_ : List.length _ ≤ 16777216); simp; done) | exact add_int | exact sub_int)
  obtain ⟨z, hz⟩ : ∃ z : Int, (if (y % 4 == 1) = true then D.int (x / 10 % 2000000000000000001 - 1000000000000000000) else .int (x / 10 % 19 - 9)) = .int z := by
    split <;> exact ⟨_, rfl⟩
  rw [hz]
  (try simp only [List.set_cons_zero, List.set_cons_succ])
  refine sp_seq (sf_set (d := .int (y / 1013 % ((n : Int) + 1))) ?_ rfl rfl rfl) ?_
  · (repeat' first | ((with_reducible apply vf_fz); exact rfl) | ((with_reducible apply vf_fn); exact rfl) | ((with_reducible apply vf_on); exact rfl) | ((with_reducible apply vf_fa); exact rfl) | with_reducible exact vf_c | with_reducible exact af_nil | with_reducible exact oe_none | with_reducible apply tf_v | with_reducible apply nf_flat | with_reducible apply af_cons | with_reducible apply of_some | with_reducible apply vf_e2 | with_reducible apply vf_e1 | with_reducible apply vf_ix | with_reducible apply vf_call | with_reducible apply vn_call | with_reducible apply vf_sl | with_reducible apply vf_disp | with_reducible apply vn_disp | with_reducible exact add_int | with_reducible exact sub_int | with_reducible exact eq_int | with_reducible exact ne_int | with_reducible exact lt_int | with_reducible exact gt_int | ((with_reducible apply mod_ok); omega) | ((with_reducible apply fdiv_ok) <;> omega) | ((with_reducible apply mul_okl) <;> omega) | ((with_reducible apply mul_okr) <;> omega) | (refine (?_ : flats _ = true); exact rfl) | (refine (?_ : flat _ = true); exact rfl) | (refine (?_ : List.length _ ≤ 16777216); simp; done) | exact add_int | exact sub_int)
  (try simp only [List.set_cons_zero, List.set_cons_succ])
  refine sp_seq (sf_set (d := .int (x % 10)) ?_ rfl rfl rfl) ?_
  · (repeat' first | ((with_reducible apply vf_fz); exact rfl) | ((with_reducible apply vf_fn); exact rfl) | ((with_reducible apply vf_on); exact rfl) | ((with_reducible apply vf_fa); exact rfl) | with_reducible exact vf_c | with_reducible exact af_nil | with_reducible exact oe_none | with_reducible apply tf_v | with_reducible apply nf_flat | with_reducible apply af_cons | with_reducible apply of_some | with_reducible apply vf_e2 | with_reducible apply vf_e1 | with_reducible apply vf_ix | with_reducible apply vf_call | with_reducible apply vn_call | with_reducible apply vf_sl | with_reducible apply vf_disp | with_reducible apply vn_disp | with_reducible exact add_int | with_reducible exact sub_int | with_reducible exact eq_int | with_reducible exact ne_int | with_reducible exact lt_int | with_reducible exact gt_int | ((with_reducible apply mod_ok); omega) | ((with_reducible apply fdiv_ok) <;> omega) | ((with_reducible apply mul_okl) <;> omega) | ((with_reducible apply mul_okr) <;> omega) | (refine (?_ : flats _ = true); exact rfl) | (refine (?_ : flat _ = true); exact rfl) | (refine (?_ : List.length _ ≤ 16777216); simp; done) | exact add_int | exact sub_int)
  have x0 := Int.emod_nonneg x (show (10 : Int) ≠ 0 by omega)
  have x1 := Int.emod_lt_of_pos x (show (0 : Int) < 10 by omega)
  have fin : ∀ d, (∃ w, d = rwD ns w ∧ RwOk ns l w) → flat d = true := by
    rintro d ⟨w, rfl, _⟩
    exact rwD_flat ns w
  (try simp only [List.set_cons_zero, List.set_cons_succ])
  refine sp_guard (b := decide (x % 10 < 2)) ?_ (fun hb => ?_) (fun hb0 => ?_)
  · (repeat' first | ((with_reducible apply vf_fz); exact rfl) | ((with_reducible apply vf_fn); exact rfl) | ((with_reducible apply vf_on); exact rfl) | ((with_reducible apply vf_fa); exact rfl) | with_reducible exact vf_c | with_reducible exact af_nil | with_reducible exact oe_none | with_reducible apply tf_v | with_reducible apply nf_flat | with_reducible apply af_cons | with_reducible apply of_some | with_reducible apply vf_e2 | with_reducible apply vf_e1 | with_reducible apply vf_ix | with_reducible apply vf_call | with_reducible apply vn_call | with_reducible apply vf_sl | with_reducible apply vf_disp | with_reducible apply vn_disp | with_reducible exact add_int | with_reducible exact sub_int | with_reducible exact eq_int | with_reducible exact ne_int | with_reducible exact lt_int | with_reducible exact gt_int | ((with_reducible apply mod_ok); omega) | ((with_reducible apply fdiv_ok) <;> omega) | ((with_reducible apply mul_okl) <;> omega) | ((with_reducible apply mul_okr) <;> omega) | (refine (?_ : flats _ = true); exact rfl) | (refine (?_ : flat _ = true); exact rfl) | (refine (?_ : List.length _ ≤ 16777216); simp; done) | exact add_int | exact sub_int)
  · have hb : x % 10 < 2 := by simpa using hb
    obtain ⟨d, hd, he⟩ := ix_mem (ds := [rwD ns (.opn i7), rwD ns (.lay c5 i7 z)]) x0 (by simpa using hb)
    have hr : ∃ w, d = rwD ns w ∧ RwOk ns l w := by
      simp only [List.mem_cons, List.not_mem_nil, or_false] at hd
      rcases hd with rfl | rfl
      · exact ⟨_, rfl, q7⟩
      · exact ⟨_, rfl, q5, q7⟩
    (try simp only [List.set_cons_zero, List.set_cons_succ])
    refine sp_ret (d := d) ?_ (fin d hr) hr
    (repeat' first | ((with_reducible apply vf_fz); exact rfl) | ((with_reducible apply vf_fn); exact rfl) | ((with_reducible apply vf_on); exact rfl) | ((with_reducible apply vf_fa); exact rfl) | with_reducible exact vf_c | with_reducible exact af_nil | with_reducible exact oe_none | with_reducible apply tf_v | with_reducible apply nf_flat | with_reducible apply af_cons | with_reducible apply of_some | with_reducible apply vf_e2 | with_reducible apply vf_e1 | with_reducible apply vf_ix | with_reducible apply vf_call | with_reducible apply vn_call | with_reducible apply vf_sl | with_reducible apply vf_disp | with_reducible apply vn_disp | with_reducible exact add_int | with_reducible exact sub_int | with_reducible exact eq_int | with_reducible exact ne_int | with_reducible exact lt_int | with_reducible exact gt_int | ((with_reducible apply mod_ok); omega) | ((with_reducible apply fdiv_ok) <;> omega) | ((with_reducible apply mul_okl) <;> omega) | ((with_reducible apply mul_okr) <;> omega) | (refine (?_ : flats _ = true); exact rfl) | (refine (?_ : flat _ = true); exact rfl) | (refine (?_ : List.length _ ≤ 16777216); simp; done) | exact he | exact add_int | exact sub_int)
  (try simp only [List.set_cons_zero, List.set_cons_succ])
  refine sp_guard (b := decide (x % 10 < 6)) ?_ (fun hb => ?_) (fun hb => ?_)
  · (repeat' first | ((with_reducible apply vf_fz); exact rfl) | ((with_reducible apply vf_fn); exact rfl) | ((with_reducible apply vf_on); exact rfl) | ((with_reducible apply vf_fa); exact rfl) | with_reducible exact vf_c | with_reducible exact af_nil | with_reducible exact oe_none | with_reducible apply tf_v | with_reducible apply nf_flat | with_reducible apply af_cons | with_reducible apply of_some | with_reducible apply vf_e2 | with_reducible apply vf_e1 | with_reducible apply vf_ix | with_reducible apply vf_call | with_reducible apply vn_call | with_reducible apply vf_sl | with_reducible apply vf_disp | with_reducible apply vn_disp | with_reducible exact add_int | with_reducible exact sub_int | with_reducible exact eq_int | with_reducible exact ne_int | with_reducible exact lt_int | with_reducible exact gt_int | ((with_reducible apply mod_ok); omega) | ((with_reducible apply fdiv_ok) <;> omega) | ((with_reducible apply mul_okl) <;> omega) | ((with_reducible apply mul_okr) <;> omega) | (refine (?_ : flats _ = true); exact rfl) | (refine (?_ : flat _ = true); exact rfl) | (refine (?_ : List.length _ ≤ 16777216); simp; done) | exact add_int | exact sub_int)
  · have hb : x % 10 < 6 := by simpa using hb
    have hb0 : ¬ x % 10 < 2 := by simpa using hb0
    obtain ⟨d, hd, he⟩ := ix_mem (ds := [rwD ns (.copy c5 c6 i7), rwD ns (.same c5 c6), rwD ns (.add c5 c6), rwD ns (.tell c5)]) (i := x % 10 - 2) (by omega) (by simp; omega)
    have hr : ∃ w, d = rwD ns w ∧ RwOk ns l w := by
      simp only [List.mem_cons, List.not_mem_nil, or_false] at hd
      rcases hd with rfl | rfl | rfl | rfl
      · exact ⟨_, rfl, q5, q6, q7⟩
      · exact ⟨_, rfl, q5, q6⟩
      · exact ⟨_, rfl, q5, q6⟩
      · exact ⟨_, rfl, q5⟩
    (try simp only [List.set_cons_zero, List.set_cons_succ])
    refine sp_ret (d := d) ?_ (fin d hr) hr
    (repeat' first | ((with_reducible apply vf_fz); exact rfl) | ((with_reducible apply vf_fn); exact rfl) | ((with_reducible apply vf_on); exact rfl) | ((with_reducible apply vf_fa); exact rfl) | with_reducible exact vf_c | with_reducible exact af_nil | with_reducible exact oe_none | with_reducible apply tf_v | with_reducible apply nf_flat | with_reducible apply af_cons | with_reducible apply of_some | with_reducible apply vf_e2 | with_reducible apply vf_e1 | with_reducible apply vf_ix | with_reducible apply vf_call | with_reducible apply vn_call | with_reducible apply vf_sl | with_reducible apply vf_disp | with_reducible apply vn_disp | with_reducible exact add_int | with_reducible exact sub_int | with_reducible exact eq_int | with_reducible exact ne_int | with_reducible exact lt_int | with_reducible exact gt_int | ((with_reducible apply mod_ok); omega) | ((with_reducible apply fdiv_ok) <;> omega) | ((with_reducible apply mul_okl) <;> omega) | ((with_reducible apply mul_okr) <;> omega) | (refine (?_ : flats _ = true); exact rfl) | (refine (?_ : flat _ = true); exact rfl) | (refine (?_ : List.length _ ≤ 16777216); simp; done) | exact he | exact add_int | exact sub_int)
  · have hb : ¬ x % 10 < 6 := by simpa using hb
    obtain ⟨d, hd, he⟩ := ix_mem (ds := [rwD ns (.give i7), rwD ns (.fork (y / 1013 % ((n : Int) + 1))), rwD ns (.go (y / 1013 % ((n : Int) + 1))), rwD ns .fin]) (i := x % 10 - 6) (by omega) (by simp; omega)
    have b0 := Int.emod_nonneg (y / 1013) (show (n : Int) + 1 ≠ 0 by omega)
    have b1 := Int.emod_lt_of_pos (y / 1013) (show (0 : Int) < (n : Int) + 1 by omega)
    have hr : ∃ w, d = rwD ns w ∧ RwOk ns l w := by
      simp only [List.mem_cons, List.not_mem_nil, or_false] at hd
      rcases hd with rfl | rfl | rfl | rfl
      · exact ⟨_, rfl, q7⟩
      · exact ⟨_, rfl, trivial⟩
      · exact ⟨_, rfl, trivial⟩
      · exact ⟨_, rfl, trivial⟩
    (try simp only [List.set_cons_zero, List.set_cons_succ])
    refine sp_ret (d := d) ?_ (fin d hr) hr
    (repeat' first | ((with_reducible apply vf_fz); exact rfl) | ((with_reducible apply vf_fn); exact rfl) | ((with_reducible apply vf_on); exact rfl) | ((with_reducible apply vf_fa); exact rfl) | with_reducible exact vf_c | with_reducible exact af_nil | with_reducible exact oe_none | with_reducible apply tf_v | with_reducible apply nf_flat | with_reducible apply af_cons | with_reducible apply of_some | with_reducible apply vf_e2 | with_reducible apply vf_e1 | with_reducible apply vf_ix | with_reducible apply vf_call | with_reducible apply vn_call | with_reducible apply vf_sl | with_reducible apply vf_disp | with_reducible apply vn_disp | with_reducible exact add_int | with_reducible exact sub_int | with_reducible exact eq_int | with_reducible exact ne_int | with_reducible exact lt_int | with_reducible exact gt_int | ((with_reducible apply mod_ok); omega) | ((with_reducible apply fdiv_ok) <;> omega) | ((with_reducible apply mul_okl) <;> omega) | ((with_reducible apply mul_okr) <;> omega) | (refine (?_ : flats _ = true); exact rfl) | (refine (?_ : flat _ = true); exact rfl) | (refine (?_ : List.length _ ≤ 16777216); simp; done) | exact he | exact add_int | exact sub_int)
end K06

namespace K06
open PySem L2 DL
theorem flt_range (l : Nat) (q : Nat → Bool) : ∀ n : Nat, (List.range n).filter (fun i => i == l && q i) = if l < n ∧ q l = true then [l] else []
  | 0 => by simp
  | n + 1 => by
    rw [List.range_succ, List.filter_append, flt_range l q n]
    by_cases h : n = l
    · subst h
      by_cases hq : q n = true
      · simp [hq, List.filter_cons]
      · simp [hq, List.filter_cons]
    · have h1 : (n == l) = false := by simpa using h
      have h2 : (List.filter (fun i => i == l && q i) [n]) = [] := by simp [List.filter_cons, h1]
      rw [h2, List.append_nil]
      by_cases h3 : l < n ∧ q l = true
      · rw [if_pos h3, if_pos ⟨by omega, h3.2⟩]
      · rw [if_neg h3, if_neg (fun h4 => h3 ⟨by omega, h4.2⟩)]
theorem tx_beq (ns : List Int) (i l : Nat) : (tx (pnm ns i) == tx (pnm ns l)) = (i == l) := by
  by_cases h : i = l
  · subst h; simp
  · have : tx (pnm ns i) ≠ tx (pnm ns l) := fun e => h (pnm_inj ns (tx_inj e))
    rw [beq_eq_false_iff_ne.mpr this, beq_eq_false_iff_ne.mpr h]
theorem dk_plot (ns : List Int) (i k : Nat) (h : i < 12) : dk (k + 1) (plot ns i) = true := by
  have o := tx_ok (pnm_ok ns h)
  have q : dk k (pD ns (ppar ns i)) = true := by
    cases e : ppar ns i with
    | none => cases k <;> simp [pD, dk]
    | some j => exact dk_str (tx_ok (pnm_ok ns (by have := ppar_lt ns e; omega)))
  show [D.str (tx (pnm ns i)), pD ns (ppar ns i)].all (dk k) = true
  simp [dk_str o, q]
theorem dk_plots (ns : List Int) (k : Nat) : dk (k + 2) (.lst (plots ns)) = true := by
  obtain ⟨p0, p1, p2⟩ := pn_eq ns
  show (plots ns).all (dk (k + 1)) = true
  rw [List.all_eq_true]
  intro d hd
  obtain ⟨i, hi, rfl⟩ := mem_plots hd
  exact dk_plot ns i k (by omega)
end K06

namespace K06
open PySem L2 DL
inductive Ft
  | plot (p : Nat) (b : Bool) | name (c : List Nat) (o : Option (List Nat))
def ftD (ns : List Int) : Ft → D
  | .plot p b => .tup [.str "plot", nmD ns p, .bl b]
  | .name c o => .tup [.str "name", .str (tx c), oD o]
def FtOk (ns : List Int) : Ft → Prop
  | .plot p _ => p < pn ns
  | .name c o => okC c = true ∧ okO o = true
theorem ftD_flat (ns : List Int) (f : Ft) : flat (ftD ns f) = true := by
  cases f with
  | plot p b => rfl
  | name c o => cases o <;> rfl
def ftL (ns : List Int) (l : List Ft) : D := .lst (l.map (ftD ns))
theorem ftL_flat (ns : List Int) (l : List Ft) : flats (l.map (ftD ns)) = true := flats_map (ftD_flat ns) l
theorem vf_fact_plot {ns : List Int} {ρ : Ev} {j k : Nat} {p : Nat} {b : Bool} {e : EF} (hj : Vf (eV j) ρ (nmD ns p)) (he : Vf e ρ (.bl b)) : Vf (eDisp .tup (aCons (eC (.str "plot")) (aCons (eV j) (aCons e aNil)))) ρ (ftD ns (.plot p b)) :=
  vf_disp (ds := [.str "plot", nmD ns p, .bl b]) (af_cons vf_c (af_cons hj (af_cons he af_nil))) rfl (by simp)
theorem vf_fact_name {ns : List Int} {ρ : Ev} {a : List Nat} {o : Option (List Nat)} {f e : EF} (hf : Vf f ρ (.str (tx a))) (he : Vf e ρ (oD o)) : Vf (eDisp .tup (aCons (eC (.str "name")) (aCons f (aCons e aNil)))) ρ (ftD ns (.name a o)) :=
  vf_disp (ds := [.str "name", .str (tx a), oD o]) (af_cons vf_c (af_cons hf (af_cons he af_nil))) (ftD_flat ns (.name a o)) (by simp)
theorem dk_ft (ns : List Int) {x : Ft} (h : FtOk ns x) (k : Nat) : dk (k + 1) (ftD ns x) = true := by
  obtain ⟨_, _, p2⟩ := pn_eq ns
  cases x with
  | plot p b =>
    have hp : p < pn ns := h
    have ok : PyData.strOk (tx (pnm ns p)) = true := tx_ok (pnm_ok ns (by omega))
    show [D.str "plot", .str (tx (pnm ns p)), .bl b].all (dk k) = true
    rw [List.all_cons, List.all_cons, List.all_cons, dk_str (by decide +kernel), dk_str ok]
    cases k <;> rfl
  | name c o =>
    show [D.str "name", .str (tx c), oD o].all (dk k) = true
    rw [List.all_cons, List.all_cons, List.all_cons, dk_str (by decide +kernel), dk_str (tx_ok h.1)]
    have : dk k (oD o) = true := by
      have h2 := h.2
      cases o with
      | none => cases k <;> rfl
      | some t => exact dk_str (tx_ok h2)
    rw [this]; rfl
theorem dk_ftL (ns : List Int) {L : List Ft} (h : ∀ x ∈ L, FtOk ns x) : dk 64 (ftL ns L) = true := by
  show (L.map (ftD ns)).all (dk 63) = true
  rw [List.all_eq_true]
  intro d hd
  simp only [List.mem_map] at hd
  obtain ⟨x, hx, rfl⟩ := hd
  exact dk_ft ns (h x hx) 62
theorem eq_bl (x y : Bool) : eqDD (.bl x) (.bl y) = some (.bl (x == y)) := by
  unfold eqDD
  rw [eqD_at (p := .bool x) (q := .bool y) (by simp [toPy]) (by simp [toPy]) rfl rfl]
  simp [PyData.eqv]
theorem kind_eq (ns : List Int) (x : Ft) : f__law_kind [ftD ns x] = some (.bl true) := by
  refine fn_sr rfl ?_
  unfold b__law_kind
  show Sr _ [.fz (ftD ns x)] _
  cases x with
  | plot p b =>
    (try simp only [List.set_cons_zero, List.set_cons_succ])
    refine sr_guard (b := false) (te_or_f (te_not (b := true) (tf_v (vf_e1 (vf_fz rfl) rfl))) (tf_v (vf_e2 (vf_call (af_cons (vf_fz rfl) af_nil) rfl) vf_c (ne_int (i := 3) (j := 3))))) (fun h => by cases h) (fun _ => ?_)
    (try simp only [List.set_cons_zero, List.set_cons_succ])
    refine sr_ret (vf_e2 (vf_e1 (a := .bl b) (vf_ix (vf_fz rfl) vf_c rfl) rfl) (vf_e2 (vf_ix (vf_fz rfl) vf_c rfl) vf_c (eq_str (by decide +kernel) (by decide +kernel))) ?_) rfl
    rw [eq_bl]
    kernel_rfl
  | name c o =>
    (try simp only [List.set_cons_zero, List.set_cons_succ])
    refine sr_guard (b := false) (te_or_f (te_not (b := true) (tf_v (vf_e1 (vf_fz rfl) rfl))) (tf_v (vf_e2 (vf_call (af_cons (vf_fz rfl) af_nil) rfl) vf_c (ne_int (i := 3) (j := 3))))) (fun h => by cases h) (fun _ => ?_)
    have ht : isTy .bool (oD o) = some (.bl false) := by cases o <;> rfl
    (try simp only [List.set_cons_zero, List.set_cons_succ])
    refine sr_ret (vf_e2 (vf_e1 (a := oD o) (vf_ix (vf_fz rfl) vf_c rfl) ht) (vf_e2 (vf_ix (vf_fz rfl) vf_c rfl) vf_c (eq_str (by decide +kernel) (by decide +kernel))) ?_) rfl
    rw [eq_bl]
    kernel_rfl
theorem scr_slice (ns : List Int) : ∃ L : List Int, slD (.scr ns) (some 6) (some 20) = some (.lst (L.map .int)) ∧ L.length ≤ 60 := by
  refine ⟨cutL ns (some 6) (some 20), rfl, ?_⟩
  unfold cutL
  rw [show (some (20 : Int)) = some ((20 : Nat) : Int) from rfl, HT.sIx_nat]
  have : (((ns.drop (HT.sIx ns.length 0 (some 6))).take (min 20 ns.length - HT.sIx ns.length 0 (some 6)))).length ≤ min 20 ns.length - HT.sIx ns.length 0 (some 6) := List.length_take_le _ _
  omega
theorem ints_flat (L : List Int) : flats (L.map D.int) = true := flats_map (fun _ => rfl) _
theorem xs_eq (ns : List Int) (d0 : D) (L0 : List Int) (h0 : d0 = .lst (L0.map .int)) (hl : L0.length ≤ 60) (m : Nat) (hm : m ≤ 60) (f : Nat → Int) (b : Bool) :
    ∃ L : List Int, (if b = true then D.lst ((List.range m).map fun (i : Nat) => .int (f i)) else d0) = .lst (L.map .int) ∧ L.length ≤ 60 := by
  cases b with
  | true => exact ⟨(List.range m).map f, by simp, by simpa using hm⟩
  | false => exact ⟨L0, by simpa using h0, hl⟩

def ftP (ns : List Int) : Ft → PyData
  | .plot p b => .tuple [.str "plot", .str (tx (pnm ns p)), .bool b]
  | .name c o => .tuple [.str "name", .str (tx c), oP o]
theorem toPy_o (o : Option (List Nat)) : toPy (oD o) = some (oP o) := by cases o <;> simp [oD, oP, toPy]
theorem toPy_ft (ns : List Int) (x : Ft) : toPy (ftD ns x) = some (ftP ns x) := by
  cases x with
  | plot p b => simp [ftD, ftP, nmD, toPy, toPys]
  | name c o => simp [ftD, ftP, toPy, toPys, toPy_o]
theorem toPys_ft (ns : List Int) : ∀ L : List Ft, toPys (L.map (ftD ns)) = some (L.map (ftP ns))
  | [] => by simp [toPys]
  | x :: r => by rw [List.map_cons, toPys, toPy_ft, toPys_ft ns r]; rfl
def isNm (c : List Nat) : Ft → Bool
  | .name a none => a == c
  | _ => false
theorem ne_kind : (("plot" : Str) == ("name" : Str)) = false := by kernel_rfl
theorem eqv_ft (ns : List Int) (x : Ft) (c : List Nat) : PyData.eqv (ftP ns x) (ftP ns (.name c none)) = isNm c x := by
  cases x with
  | plot p b =>
    show PyData.eqv (.tuple [.str "plot", .str (tx (pnm ns p)), .bool b]) (.tuple [.str "name", .str (tx c), .none]) = false
    rw [PyData.eqv, PyData.eqvAll, PyData.eqv, ne_kind]; rfl
  | name a o =>
    show PyData.eqv (.tuple [.str "name", .str (tx a), oP o]) (.tuple [.str "name", .str (tx c), .none]) = _
    rw [PyData.eqv, PyData.eqvAll, PyData.eqvAll, PyData.eqvAll, PyData.eqvAll, PyData.eqv, PyData.eqv, tx_eq]
    cases o with
    | none => simp [oP, PyData.eqv, isNm]
    | some t => simp [oP, PyData.eqv, isNm]
theorem in_due (ns : List Int) {L : List Ft} {c : List Nat} (hc : okC c = true) (hL : ∀ x ∈ L, FtOk ns x) : inB (ftD ns (.name c none)) (.lst (L.map (ftD ns))) = some (L.any (isNm c)) := by
  obtain ⟨p, h1, h2, h3⟩ := dk_py (dk_ftL ns hL)
  have e : toPy (ftL ns L) = some (.list (L.map (ftP ns))) := by unfold ftL; rw [toPy, toPys_ft]; rfl
  rw [e] at h1
  cases h1
  have s1 := shaped_of h2 h3 (Nat.le_refl _)
  obtain ⟨q, g1, g2, g3⟩ := dk_py (dk_ft ns (x := .name c none) ⟨hc, rfl⟩ 0)
  rw [toPy_ft] at g1
  cases g1
  have s2 := shaped_of g2 g3 (by omega)
  unfold inB
  simp only [toPys_ft, toPy_ft, Option.bind_some, s1, s2, and_self, if_true, List.any_map]
  congr 2
  funext x
  exact eqv_ft ns x c
/-! ### names as first met -/
def namesOf : Rw → List (List Nat)
  | .lay a _ _ => [a]
  | .copy a b _ => [a, b]
  | .same a b => [a, b]
  | .add a b => [a, b]
  | .tell a => [a]
  | _ => []
def addNm (acc : List (List Nat)) (c : List Nat) : List (List Nat) := if (acc.any (· == c)) = true then acc else acc ++ [c]
def accR : List (List Nat) → List Rw → List (List Nat)
  | acc, [] => acc
  | acc, w :: r => accR ((namesOf w).foldl addNm acc) r
theorem addNm_len (acc : List (List Nat)) (c : List Nat) : (addNm acc c).length ≤ acc.length + 1 := by unfold addNm; split <;> simp
theorem fold_len : ∀ (cs acc : List (List Nat)), (cs.foldl addNm acc).length ≤ acc.length + cs.length
  | [], acc => by simp
  | c :: r, acc => by
    have := fold_len r (addNm acc c)
    have := addNm_len acc c
    rw [List.foldl_cons, List.length_cons]; omega
theorem namesOf_len (w : Rw) : (namesOf w).length ≤ 2 := by cases w <;> simp [namesOf]
def facts (idx : List Nat) (acc : List (List Nat)) : List Ft := idx.map (Ft.plot · false) ++ acc.map (Ft.name · none)
theorem facts_any (idx : List Nat) (acc : List (List Nat)) (c : List Nat) : (facts idx acc).any (isNm c) = acc.any (· == c) := by
  unfold facts
  rw [List.any_append, List.any_map, List.any_map]
  have : (idx.any (isNm c ∘ fun x => Ft.plot x false)) = false := by rw [List.any_eq_false]; intro x _; simp [isNm]
  rw [this, Bool.false_or]; rfl
theorem facts_add (idx : List Nat) (acc : List (List Nat)) (c : List Nat) : facts idx (acc ++ [c]) = facts idx acc ++ [.name c none] := by unfold facts; simp
def metK (acc : List (List Nat)) : List (Key × D) := acc.map fun c => ((.inr (tx c) : Key), .bl true)
theorem met_get (c : List Nat) : ∀ acc : List (List Nat), (getK (metK acc) (.inr (tx c))).isSome = acc.any (· == c)
  | [] => rfl
  | a :: r => by
    show (if (Sum.inr (tx a) : Key) = .inr (tx c) then some (D.bl true) else getK (metK r) (.inr (tx c))).isSome = ((a == c) || r.any (· == c))
    by_cases h : a = c
    · subst h; simp
    · have h1 : (Sum.inr (tx a) : Key) ≠ .inr (tx c) := fun e => h (tx_inj (Sum.inr.inj e))
      rw [if_neg h1, met_get c r, beq_eq_false_iff_ne.mpr h, Bool.false_or]
theorem met_put {acc : List (List Nat)} {c : List Nat} (h : acc.any (· == c) = false) : putG (metK acc) (.inr (tx c)) (.bl true) = metK (acc ++ [c]) := by
  rw [putG_new]
  · unfold metK; rw [List.map_append]; rfl
  · rw [List.any_eq_false] at h ⊢
    intro kv hkv
    simp only [metK, List.mem_map] at hkv
    obtain ⟨a, ha, rfl⟩ := hkv
    have := h a ha
    simp only [decide_eq_true_eq]
    intro e
    exact this (by simpa using tx_inj (Sum.inr.inj e))
theorem met_len (acc : List (List Nat)) : (metK acc).length = acc.length := by simp [metK]
def nMany : Rw → Nat
  | .lay _ _ _ => 1
  | .copy _ _ _ => 2
  | .same _ _ => 2
  | .add _ _ => 2
  | .tell _ => 1
  | _ => 0
theorem named_get (w : Rw) : kgetD tab_NAMED (.str w.tag) (.int 0) = some (.int (nMany w : Nat)) := by cases w <;> kernel_rfl
theorem named_sl (ns : List Int) (w : Rw) : slD (rwD ns w) (some 1) (some (1 + (nMany w : Nat))) = some (.tup ((namesOf w).map fun c => .str (tx c))) := by
  have h := sl_tup_lh (ds := .str w.tag :: w.rest ns) (i := 1) (j := 1 + (nMany w : Nat)) (a := 1) (b := 1 + nMany w) rfl (by omega) (rwD_flat ns w)
  refine Eq.trans h ?_
  cases w <;> rfl
theorem names_ok {ns : List Int} {l : List (List Nat)} (hl : NmOk l) {w : Rw} (hw : RwOk ns l w) : ∀ c ∈ namesOf w, okC c = true := by
  intro c hc
  refine hl.ok c ?_
  cases w <;> simp only [namesOf, List.mem_cons, List.not_mem_nil, or_false] at hc
  · subst hc; exact hw.1
  · rcases hc with rfl | rfl
    · exact hw.1
    · exact hw.2.1
  · rcases hc with rfl | rfl
    · exact hw.1
    · exact hw.2
  · rcases hc with rfl | rfl
    · exact hw.1
    · exact hw.2
  · subst hc; exact hw
theorem Sy.sx {g : SF} {ρ : Ev} {Φ : Ev → Prop} (h : Sy g ρ Φ) : Sx g ρ Φ := by
  obtain ⟨ρ', a, b⟩ := h
  exact ⟨ρ', .inl a, b⟩
theorem accR_len : ∀ (ws : List Rw) (acc : List (List Nat)), (accR acc ws).length ≤ acc.length + 2 * ws.length
  | [], acc => by simp [accR]
  | w :: r, acc => by
    have := accR_len r ((namesOf w).foldl addNm acc)
    have := fold_len (namesOf w) acc
    have := namesOf_len w
    rw [accR, List.length_cons]; omega
theorem accR_snoc (w : Rw) : ∀ (ws : List Rw) (acc : List (List Nat)), accR acc (ws ++ [w]) = (namesOf w).foldl addNm (accR acc ws)
  | [], acc => rfl
  | v :: r, acc => by rw [List.cons_append, accR, accR_snoc w r, accR]
theorem take_snoc {α : Type} {l : List α} {k : Nat} {a : α} (h : l[k]? = some a) : l.take (k + 1) = l.take k ++ [a] := by
  rw [List.take_add_one, h]; rfl
theorem first_eq (ns : List Int) (l : List (List Nat)) (hl : NmOk l) (idx : List Nat) (hi : idx.length ≤ 12) (ws : List Rw) (hws : ∀ w ∈ ws, RwOk ns l w) (hn : ws.length ≤ 60) :
    f_at_first [.lst (idx.map (plot ns)), .lst (ws.map (rwD ns))] = some (ftL ns (facts idx (accR [] ws))) := by
  refine fn_sr rfl ?_
  unfold b_at_first
  show Sr _ [.fz (.lst (idx.map (plot ns))), .fz (.lst (ws.map (rwD ns))), .emp, .emp, .emp, .emp, .emp] _
  (try simp only [List.set_cons_zero, List.set_cons_succ])
  refine sr_seq (se_setN (d := ftL ns (facts idx [])) (ne_lc (m := .new) ?_ (ftL_flat ns _)) rfl rfl) ?_
  · have hx := ve_lc (f := iE (eV 0)) (ρ := [.fz (.lst (idx.map (plot ns))), .fz (.lst (ws.map (rwD ns))), .emp, .emp, .emp, .emp, .emp]) (vs := [5, 6]) (g := gT 2 (gsCons 5 (gsCons 6 gsNil))) (t := fun _ => some true)
      (e := eDisp .tup (aCons (eC (.str "plot")) (aCons (eV 5) (aCons (eC (.bl false)) aNil)))) (xe_seq (ve_fz rfl) rfl) (by simp; omega) (lc_mapS (fun d => match d with | .tup [a, _] => .tup [.str "plot", a, .bl false] | d => d) (fun d hd => by
        simp only [List.mem_map] at hd
        obtain ⟨i, _, rfl⟩ := hd
        exact sg_two rfl rfl rfl rfl rfl (pD_flat ns _) (vf_disp (ds := [.str "plot", nmD ns i, .bl false]) (af_cons vf_c (af_cons (vf_fn rfl) (af_cons vf_c af_nil))) rfl (by simp))) (fun d hd => by
        simp only [List.mem_map] at hd
        obtain ⟨i, _, rfl⟩ := hd
        rfl))
    rw [List.map_map] at hx
    have e : ftL ns (facts idx []) = .lst (idx.map ((fun d => match d with | .tup [a, _] => D.tup [.str "plot", a, .bl false] | d => d) ∘ plot ns)) := by
      unfold ftL facts
      rw [List.map_nil, List.append_nil, List.map_map]; rfl
    have e' : (D.lst ((facts idx []).map (ftD ns))) = _ := e
    rw [e']
    exact hx
  (try simp only [List.set_cons_zero, List.set_cons_succ])
  refine sr_seq (se_setN (d := .dic (metK [])) ne_dic0 rfl rfl) ?_
  (try simp only [List.set_cons_zero, List.set_cons_succ])
  (try simp only [List.set_cons_zero, List.set_cons_succ])
  refine sr_for (fun k ρ => ∃ s4 s5, freeS s4 = true ∧ freeS s5 = true ∧ ρ = [.fz (.lst (idx.map (plot ns))), .fz (.lst (ws.map (rwD ns))), .on (ftL ns (facts idx (accR [] (ws.take k)))), .on (.dic (metK (accR [] (ws.take k)))), s4, s5, .emp]) (xe_seq (ve_fz rfl) rfl) rfl ⟨_, _, rfl, rfl, rfl⟩ ?_ ?_
  · rintro k d ρ hd ⟨s4, s5, f4, f5, rfl⟩
    have hk : k < ws.length := by
      have := (List.getElem?_eq_some_iff.mp hd).1
      rwa [List.length_map] at this
    obtain ⟨w, hw, rfl⟩ : ∃ w, ws[k]? = some w ∧ d = rwD ns w := by
      rw [List.getElem?_map, List.getElem?_eq_getElem hk] at hd
      exact ⟨_, List.getElem?_eq_getElem hk, (Option.some.inj hd).symm⟩
    have hok := names_ok hl (hws w (List.mem_of_getElem? hw))
    have hal := accR_len (ws.take k) []
    have htk := List.length_take_le k ws
    rw [take_snoc hw, accR_snoc]
    generalize accR [] (ws.take k) = A at *
    have hA : A.length ≤ 120 := by
      have : (ws.take k).length ≤ ws.length := by simp; omega
      simp only [List.length_nil] at hal
      omega
    (try simp only [List.set_cons_zero, List.set_cons_succ])
    refine sg_flat rfl f4 (rwD_flat ns w) ?_
    refine Sy.sx (Sy.imp (sy_for (fun j ρ => ∃ s5, freeS s5 = true ∧ ρ = [.fz (.lst (idx.map (plot ns))), .fz (.lst (ws.map (rwD ns))), .on (ftL ns (facts idx (((namesOf w).take j).foldl addNm A))), .on (.dic (metK (((namesOf w).take j).foldl addNm A))), .fn (rwD ns w), s5, .emp])
      (xe_seq (vn_sl (vf_fn rfl) (of_some vf_c) (of_some (i := 1 + (nMany w : Nat)) (vf_e2 vf_c (vf_e2 (vf_ix (vf_fn rfl) vf_c (rwD_tag ns w)) vf_c (named_get w)) add_int)) (named_sl ns w)) rfl) rfl ⟨_, f5, rfl⟩ ?_) ?_)
    · rintro j d ρ hd ⟨s5, f5, rfl⟩
      rw [List.getElem?_map] at hd
      obtain ⟨c, hc, rfl⟩ : ∃ c, (namesOf w)[j]? = some c ∧ d = .str (tx c) := by
        cases q : (namesOf w)[j]? with
        | none => rw [q] at hd; cases hd
        | some c => rw [q] at hd; exact ⟨c, rfl, (Option.some.inj hd).symm⟩
      have hcok := hok c (List.mem_of_getElem? hc)
      rw [take_snoc hc, List.foldl_append]
      have hfl := fold_len ((namesOf w).take j) A
      have hn2 := namesOf_len w
      have htl := List.length_take_le j (namesOf w)
      have htl2 : ((namesOf w).take j).length ≤ (namesOf w).length := by simp; omega
      generalize ((namesOf w).take j).foldl addNm A = C at *
      show Sg _ _ _ _ (fun ρ1 => Sx _ ρ1 (fun ρ => ∃ s5, freeS s5 = true ∧ ρ = [_, _, .on (ftL ns (facts idx (addNm C c))), .on (.dic (metK (addNm C c))), _, s5, _]))
      (try simp only [List.set_cons_zero, List.set_cons_succ])
      refine sg_flat rfl f5 rfl ?_
      (try simp only [List.set_cons_zero, List.set_cons_succ])
      refine sx_if (b := !(C.any (· == c))) (tf_v (vf_e2 (vf_fn rfl) (vf_on rfl) (nin_of (in_dic (met_get c C))))) (fun h => ?_) (fun h => ?_)
      · have h' : C.any (· == c) = false := by simpa using h
        have e : addNm C c = C ++ [c] := if_neg (by rw [h']; decide)
        rw [e, facts_add, ← met_put h']
        (try simp only [List.set_cons_zero, List.set_cons_succ])
        refine sx_seq (se_sub (y := .bl true) (k := .str (tx c)) (z := .dic (putG (metK C) (.inr (tx c)) (.bl true))) (nf_flat vf_c rfl) rfl (way_on0 rfl) (m := .new) (ve_fn rfl) ?_ (put_on0 rfl)) ?_
        · show (if (metK C).length < 16777216 ∧ (flat (D.bl true) = true ∨ cntK (metK C) (.inr (tx c)) ≤ 1) then some (D.dic (putG (metK C) (.inr (tx c)) (.bl true))) else none) = _
          rw [if_pos ⟨by rw [met_len]; omega, .inl rfl⟩]
        (try simp only [List.set_cons_zero, List.set_cons_succ])
        refine sx_end (se_app rfl (way_on0 rfl) (nf_flat (vf_fact_name (ns := ns) (a := c) (o := none) (vf_fn rfl) vf_c) rfl) (by rw [List.length_map]; unfold facts; simp; omega) (put_on0 rfl)) ?_
        refine ⟨.fn (.str (tx c)), rfl, ?_⟩
        unfold ftL
        rw [List.map_append]; rfl
      · have h' : C.any (· == c) = true := by simpa using h
        have e : addNm C c = C := if_pos h'
        rw [e]
        exact sx_nil ⟨.fn (.str (tx c)), rfl, rfl⟩
    · rintro ρ' ⟨s5, f5, rfl⟩
      rw [List.length_map, List.take_length]
      exact ⟨_, _, rfl, f5, rfl⟩
  · rintro ρ' ⟨s4, s5, f4, f5, rfl⟩
    rw [List.length_map, List.take_length]
    exact sr_retOn rfl
end K06

namespace K06
open PySem L2 DL
theorem addNm_ok {acc : List (List Nat)} {c : List Nat} (h : ∀ x ∈ acc, okC x = true) (hc : okC c = true) : ∀ x ∈ addNm acc c, okC x = true := by
  unfold addNm
  split
  · exact h
  · intro x hx
    rcases List.mem_append.mp hx with hx | hx
    · exact h x hx
    · simp only [List.mem_cons, List.not_mem_nil, or_false] at hx; subst hx; exact hc
theorem fold_ok : ∀ (cs acc : List (List Nat)), (∀ x ∈ acc, okC x = true) → (∀ x ∈ cs, okC x = true) → ∀ x ∈ cs.foldl addNm acc, okC x = true
  | [], acc, h, _ => h
  | c :: r, acc, h, h2 => by
    rw [List.foldl_cons]
    exact fold_ok r (addNm acc c) (addNm_ok h (h2 c (by simp))) (fun x hx => h2 x (by simp [hx]))
theorem accR_ok : ∀ (ws : List Rw) (acc : List (List Nat)), (∀ x ∈ acc, okC x = true) → (∀ w ∈ ws, ∀ c ∈ namesOf w, okC c = true) → ∀ x ∈ accR acc ws, okC x = true
  | [], acc, h, _ => h
  | w :: r, acc, h, h2 => by
    rw [accR]
    exact accR_ok r _ (fold_ok _ _ h (h2 w (by simp))) (fun v hv => h2 v (by simp [hv]))
theorem facts_ok {ns : List Int} {idx : List Nat} (hi : ∀ i ∈ idx, i < pn ns) {acc : List (List Nat)} (ha : ∀ c ∈ acc, okC c = true) : ∀ x ∈ facts idx acc, FtOk ns x := by
  intro x hx
  unfold facts at hx
  rcases List.mem_append.mp hx with hx | hx
  · simp only [List.mem_map] at hx
    obtain ⟨i, h, rfl⟩ := hx
    exact hi i h
  · simp only [List.mem_map] at hx
    obtain ⟨c, h, rfl⟩ := hx
    exact ⟨ha c h, rfl⟩
def inTags : Rw → Bool
  | .same _ _ => true
  | .add _ _ => true
  | .tell _ => true
  | .fork _ => true
  | .go _ => true
  | .fin => true
  | _ => false
def one1 : Rw → Bool
  | .lay _ _ _ => true
  | .tell _ => true
  | _ => false
def two2 : Rw → Bool
  | .copy _ _ _ => true
  | .same _ _ => true
  | .add _ _ => true
  | _ => false
abbrev tags6 : List D := [.str "same", .str "add", .str "tell", .str "fork", .str "go", .str "end"]
theorem in_six (w : Rw) : inB (.str w.tag) (.tup tags6) = some (inTags w) := by cases w <;> kernel_rfl
theorem in_one (w : Rw) : inB (.str w.tag) (.tup [.str "lay", .str "tell"]) = some (one1 w) := by cases w <;> kernel_rfl
theorem in_two (w : Rw) : inB (.str w.tag) (.tup [.str "copy", .str "same", .str "add"]) = some (two2 w) := by cases w <;> kernel_rfl
def pTag (d : D) : Bool := ((ixD d (.int 0)).bind fun t => inB t (.tup tags6)).getD false
theorem pTag_rw (ns : List Int) (w : Rw) : pTag (rwD ns w) = inTags w := by unfold pTag; rw [rwD_tag, Option.bind_some, in_six]; rfl
def nmLst (w : Rw) : List D := (namesOf w).map fun c => .str (tx c)
theorem met_set (ns : List Int) (w : Rw) (ρ : Ev) (h6 : ρ[6]? = some (.fn (rwD ns w))) (h7 : ρ[7]? = some (.fn (.lst []))) :
    Se (sIf (tE (e2 inD (eIx ixD (eV 6) (eC (.int 0))) (eDisp .tup (aCons (eC (.str "lay")) (aCons (eC (.str "tell")) aNil))))) (sSet 7 (eDisp .lst (aCons (eIx ixD (eV 6) (eC (.int 1))) aNil))) (sIf (tE (e2 inD (eIx ixD (eV 6) (eC (.int 0))) (eDisp .tup (aCons (eC (.str "copy")) (aCons (eC (.str "same")) (aCons (eC (.str "add")) aNil)))))) (sSet 7 (eDisp .lst (aCons (eIx ixD (eV 6) (eC (.int 1))) (aCons (eIx ixD (eV 6) (eC (.int 2))) aNil)))) bNil)) ρ (.nx (ρ.set 7 (.fn (.lst (nmLst w))))) := by
  have t1 : Te (tE (e2 inD (eIx ixD (eV 6) (eC (.int 0))) (eDisp .tup (aCons (eC (.str "lay")) (aCons (eC (.str "tell")) aNil))))) ρ (one1 w) :=
    tf_v (vf_e2 (vf_ix (vf_fn h6) vf_c (rwD_tag ns w)) (vf_disp (ds := [.str "lay", .str "tell"]) (af_cons vf_c (af_cons vf_c af_nil)) rfl (by simp)) (in_of (in_one w)))
  have t2 : Te (tE (e2 inD (eIx ixD (eV 6) (eC (.int 0))) (eDisp .tup (aCons (eC (.str "copy")) (aCons (eC (.str "same")) (aCons (eC (.str "add")) aNil)))))) ρ (two2 w) :=
    tf_v (vf_e2 (vf_ix (vf_fn h6) vf_c (rwD_tag ns w)) (vf_disp (ds := [.str "copy", .str "same", .str "add"]) (af_cons vf_c (af_cons vf_c (af_cons vf_c af_nil))) rfl (by simp)) (in_of (in_two w)))
  have s1 : ∀ a, ixD (rwD ns w) (.int 1) = some (.str (tx a)) → Se (sSet 7 (eDisp .lst (aCons (eIx ixD (eV 6) (eC (.int 1))) aNil))) ρ (.nx (ρ.set 7 (.fn (.lst [.str (tx a)])))) := fun a ha =>
    sn_set (vn_disp (ds := [.str (tx a)]) (af_cons (vf_ix (vf_fn h6) vf_c ha) af_nil) rfl (by simp)) h7 rfl
  have s2 : ∀ a b, ixD (rwD ns w) (.int 1) = some (.str (tx a)) → ixD (rwD ns w) (.int 2) = some (.str (tx b)) → Se (sSet 7 (eDisp .lst (aCons (eIx ixD (eV 6) (eC (.int 1))) (aCons (eIx ixD (eV 6) (eC (.int 2))) aNil)))) ρ (.nx (ρ.set 7 (.fn (.lst [.str (tx a), .str (tx b)])))) := fun a b ha hb =>
    sn_set (vn_disp (ds := [.str (tx a), .str (tx b)]) (af_cons (vf_ix (vf_fn h6) vf_c ha) (af_cons (vf_ix (vf_fn h6) vf_c hb) af_nil)) rfl (by simp)) h7 rfl
  have e7 : ρ.set 7 (.fn (.lst [])) = ρ := by
    apply List.ext_getElem?
    intro j
    by_cases q : 7 = j
    · subst q
      rw [List.getElem?_set_self (List.getElem?_eq_some_iff.mp h7).1, h7]
    · rw [List.getElem?_set_ne q]
  have s0 : Se bNil ρ (.nx (ρ.set 7 (.fn (.lst [])))) := by rw [e7]; exact se_nil
  cases w with
  | lay a p z => exact se_if_t t1 rfl (s1 a rfl)
  | tell a => exact se_if_t t1 rfl (s1 a rfl)
  | copy a b p => exact se_if_f t1 rfl (se_if_t t2 rfl (s2 a b rfl rfl))
  | same a b => exact se_if_f t1 rfl (se_if_t t2 rfl (s2 a b rfl rfl))
  | add a b => exact se_if_f t1 rfl (se_if_t t2 rfl (s2 a b rfl rfl))
  | _ => exact se_if_f t1 rfl (se_if_f t2 rfl s0)
theorem dk_rw (ns : List Int) (l : List (List Nat)) (hl : NmOk l) {w : Rw} (hw : RwOk ns l w) (k : Nat) : dk (k + 1) (rwD ns w) = true := by
  obtain ⟨_, _, p2⟩ := pn_eq ns
  have hp : ∀ p, p < pn ns → dk k (nmD ns p) = true := fun p h => dk_str (tx_ok (pnm_ok ns (by omega)))
  have hc : ∀ c, c ∈ l → dk k (.str (tx c)) = true := fun c h => dk_str (tx_ok (hl.ok c h))
  show (.str w.tag :: w.rest ns : List D).all (dk k) = true
  rw [List.all_cons, dk_str (tag_ok w), Bool.true_and]
  cases w with
  | opn p => simp only [Rw.rest, List.all_cons, List.all_nil, hp p hw, Bool.and_self]
  | lay a p z => simp only [Rw.rest, List.all_cons, List.all_nil, hp p hw.2, hc a hw.1, dk_int, Bool.and_self]
  | copy a b p => simp only [Rw.rest, List.all_cons, List.all_nil, hp p hw.2.2, hc a hw.1, hc b hw.2.1, Bool.and_self]
  | same a b => simp only [Rw.rest, List.all_cons, List.all_nil, hc a hw.1, hc b hw.2, Bool.and_self]
  | add a b => simp only [Rw.rest, List.all_cons, List.all_nil, hc a hw.1, hc b hw.2, Bool.and_self]
  | tell a => simp only [Rw.rest, List.all_cons, List.all_nil, hc a hw, Bool.and_self]
  | give p => simp only [Rw.rest, List.all_cons, List.all_nil, hp p hw, Bool.and_self]
  | fork q => simp only [Rw.rest, List.all_cons, List.all_nil, dk_int, Bool.and_self]
  | go q => simp only [Rw.rest, List.all_cons, List.all_nil, dk_int, Bool.and_self]
  | fin => rfl
noncomputable def rowF (ns : List Int) (l : List (List Nat)) (n : Nat) (x : Int) : D := (f__law_row [.int x, .lst (plots ns), .lst (nmL l), .int (n : Nat)]).getD .non
noncomputable def rowW (ns : List Int) (l : List (List Nat)) (hl : NmOk l) (n : Nat) (hn : n ≤ 60) (x : Int) : Rw := (row_rw ns x l hl n hn).choose_spec.2.choose
theorem rowW_eq (ns : List Int) (l : List (List Nat)) (hl : NmOk l) (n : Nat) (hn : n ≤ 60) (x : Int) : f__law_row [.int x, .lst (plots ns), .lst (nmL l), .int (n : Nat)] = some (rwD ns (rowW ns l hl n hn x)) ∧ RwOk ns l (rowW ns l hl n hn x) := by
  have h := (row_rw ns x l hl n hn).choose_spec
  have h2 := h.2.choose_spec
  exact ⟨h.1.trans (congrArg some h2.1), h2.2⟩
end K06

namespace K06
open PySem L2 DL
/-- the plots and rows that are handed on -/
structure Given (ns : List Int) (l : List (List Nat)) (idx : List Nat) (ws : List Rw) : Prop where
  il : idx.length ≤ 12
  ii : ∀ i ∈ idx, i < pn ns
  wl : ws.length ≤ 60
  ww : ∀ w ∈ ws, RwOk ns l w
noncomputable def b_due : SF := (bSeq (sSetN 5 (nLc (eLc (iE (eV 1)) [13, 14] (gT 2 (gsCons 13 (gsCons 14 gsNil))) (fun _ => some true) (eDisp .tup (aCons (eC (.str "plot")) (aCons (eV 13) (aCons (eC (.bl false)) aNil)))))))
    (bSeq (sFor (iE (eV 4)) (gN 6) (bSeq (sSet 7 (eDisp .lst aNil))
    (bSeq (sIf (tE (e2 inD (eIx ixD (eV 6) (eC (.int 0))) (eDisp .tup (aCons (eC (.str "lay")) (aCons (eC (.str "tell")) aNil))))) (sSet 7 (eDisp .lst (aCons (eIx ixD (eV 6) (eC (.int 1))) aNil))) (sIf (tE (e2 inD (eIx ixD (eV 6) (eC (.int 0))) (eDisp .tup (aCons (eC (.str "copy")) (aCons (eC (.str "same")) (aCons (eC (.str "add")) aNil)))))) (sSet 7 (eDisp .lst (aCons (eIx ixD (eV 6) (eC (.int 1))) (aCons (eIx ixD (eV 6) (eC (.int 2))) aNil)))) bNil))
    (sFor (iE (eV 7)) (gN 8) (sIf (tE (e2 ninD (eDisp .tup (aCons (eC (.str "name")) (aCons (eV 8) (aCons (eC (.non)) aNil)))) (eV 5))) (sApp 5 wN (nFlat (eDisp .tup (aCons (eC (.str "name")) (aCons (eV 8) (aCons (eC (.non)) aNil)))))) bNil)))))
    (bSeq (sSet 9 (eDisp .lst (aCons (eCall lstC (aCons (eV 1) aNil)) (aCons (eCall lstC (aCons (eV 4) aNil)) aNil))))
    (bSeq (sSet 10 (eCall f_at_first (aCons (eIx ixD (eV 9) (eC (.int 0))) (aCons (eIx ixD (eV 9) (eC (.int 1))) aNil))))
    (bSeq (sIf (tOrD (tNotD (tE (e1 (isTy .list) (eV 10)))) (tE (e2 neDD (eLc (iE (eV 10)) [15] (gN 15) (tNotD (tE (eCall f__law_kind (aCons (eV 15) aNil)))) (eV 15)) (eDisp .lst aNil)))) (sRet (eC (.bl false))) bNil)
    (sRet (eAnd (e2 eqDD (eV 10) (eV 5)) (e2 eqDD (eV 9) (eDisp .lst (aCons (eV 1) (aCons (eV 4) aNil)))))))))))
theorem Given.pf {ns : List Int} {l : List (List Nat)} {idx : List Nat} {ws : List Rw} (g : Given ns l idx ws) : flats (idx.map (plot ns)) = true := flats_map (plot_flat ns) _
theorem Given.rf {ns : List Int} {l : List (List Nat)} {idx : List Nat} {ws : List Rw} (g : Given ns l idx ws) : flats (ws.map (rwD ns)) = true := flats_map (rwD_flat ns) _
theorem Given.dp {ns : List Int} {l : List (List Nat)} {idx : List Nat} {ws : List Rw} (g : Given ns l idx ws) (k : Nat) : dk (k + 2) (.lst (idx.map (plot ns))) = true := by
  obtain ⟨_, _, p2⟩ := pn_eq ns
  show (idx.map (plot ns)).all (dk (k + 1)) = true
  rw [List.all_eq_true]
  intro d hd
  simp only [List.mem_map] at hd
  obtain ⟨i, hi, rfl⟩ := hd
  exact dk_plot ns i k (by have := g.ii i hi; omega)
theorem Given.dr {ns : List Int} {l : List (List Nat)} {idx : List Nat} {ws : List Rw} (hl : NmOk l) (g : Given ns l idx ws) (k : Nat) : dk (k + 2) (.lst (ws.map (rwD ns))) = true := by
  show (ws.map (rwD ns)).all (dk (k + 1)) = true
  rw [List.all_eq_true]
  intro d hd
  simp only [List.mem_map] at hd
  obtain ⟨w, hw, rfl⟩ := hd
  exact dk_rw ns l hl (g.ww w hw) k
theorem due_eq (ns : List Int) (l : List (List Nat)) (hl : NmOk l) (L : List Int) (idx : List Nat) (ws : List Rw) (g : Given ns l idx ws) (s6 : Sl) (f6 : freeS s6 = true) :
    Sr b_due [.fz (.scr ns), .fn (.lst (idx.map (plot ns))), .fn (.lst (nmL l)), .fn (.lst (L.map .int)), .fn (.lst (ws.map (rwD ns))), .emp, s6, .emp, .emp, .emp, .emp, .emp, .emp, .emp, .emp, .emp] (.bl true) := by
  unfold b_due
  have hil := g.il
  have hwl := g.wl
  (try simp only [List.set_cons_zero, List.set_cons_succ])
  refine sr_seq (se_setN (d := ftL ns (facts idx [])) (ne_lc (m := .new) ?_ (ftL_flat ns _)) rfl rfl) ?_
  · have hx := ve_lc (f := iE (eV 1)) (ρ := [.fz (.scr ns), .fn (.lst (idx.map (plot ns))), .fn (.lst (nmL l)), .fn (.lst (L.map .int)), .fn (.lst (ws.map (rwD ns))), .emp, s6, .emp, .emp, .emp, .emp, .emp, .emp, .emp, .emp, .emp]) (vs := [13, 14]) (g := gT 2 (gsCons 13 (gsCons 14 gsNil))) (t := fun _ => some true)
      (e := eDisp .tup (aCons (eC (.str "plot")) (aCons (eV 13) (aCons (eC (.bl false)) aNil)))) (xe_seq (ve_fn rfl) rfl) (by simp; omega) (lc_mapS (fun d => match d with | .tup [a, _] => .tup [.str "plot", a, .bl false] | d => d) (fun d hd => by
        simp only [List.mem_map] at hd
        obtain ⟨i, _, rfl⟩ := hd
        exact sg_two rfl rfl rfl rfl rfl (pD_flat ns _) (vf_disp (ds := [.str "plot", nmD ns i, .bl false]) (af_cons vf_c (af_cons (vf_fn rfl) (af_cons vf_c af_nil))) rfl (by simp))) (fun d hd => by
        simp only [List.mem_map] at hd
        obtain ⟨i, _, rfl⟩ := hd
        rfl))
    rw [List.map_map] at hx
    have e : ftL ns (facts idx []) = .lst (idx.map ((fun d => match d with | .tup [a, _] => D.tup [.str "plot", a, .bl false] | d => d) ∘ plot ns)) := by
      unfold ftL facts
      rw [List.map_nil, List.append_nil, List.map_map]; rfl
    have e' : (D.lst ((facts idx []).map (ftD ns))) = _ := e
    rw [e']
    exact hx
  (try simp only [List.set_cons_zero, List.set_cons_succ])
  (try simp only [List.set_cons_zero, List.set_cons_succ])
  refine sr_for (fun k ρ => ∃ s6 s7 s8, freeS s6 = true ∧ freeS s7 = true ∧ freeS s8 = true ∧ ρ = [.fz (.scr ns), .fn (.lst (idx.map (plot ns))), .fn (.lst (nmL l)), .fn (.lst (L.map .int)), .fn (.lst (ws.map (rwD ns))), .on (ftL ns (facts idx (accR [] (ws.take k)))), s6, s7, s8, .emp, .emp, .emp, .emp, .emp, .emp, .emp]) (xe_seq (ve_fn rfl) rfl) rfl ⟨_, _, _, f6, rfl, rfl, rfl⟩ ?_ ?_
  · rintro k d ρ hd ⟨s6, s7, s8, f6, f7, f8, rfl⟩
    have hk : k < ws.length := by
      have := (List.getElem?_eq_some_iff.mp hd).1
      rwa [List.length_map] at this
    obtain ⟨w, hw, rfl⟩ : ∃ w, ws[k]? = some w ∧ d = rwD ns w := by
      rw [List.getElem?_map, List.getElem?_eq_getElem hk] at hd
      exact ⟨_, List.getElem?_eq_getElem hk, (Option.some.inj hd).symm⟩
    have hok := names_ok hl (g.ww w (List.mem_of_getElem? hw))
    have hal := accR_len (ws.take k) []
    have htk := List.length_take_le k ws
    have hAok := accR_ok (ws.take k) [] (fun x h => by cases h) (fun v hv => names_ok hl (g.ww v (List.mem_of_mem_take hv)))
    rw [take_snoc hw, accR_snoc]
    generalize accR [] (ws.take k) = A at *
    have hA : A.length ≤ 120 := by
      have : (ws.take k).length ≤ ws.length := by simp; omega
      simp only [List.length_nil] at hal
      omega
    (try simp only [List.set_cons_zero, List.set_cons_succ])
    refine sg_flat rfl f6 (rwD_flat ns w) ?_
    (try simp only [List.set_cons_zero, List.set_cons_succ])
    refine sx_seq (sn_set (d := .lst []) (vn_disp (ds := []) af_nil rfl (by simp)) rfl f7) ?_
    (try simp only [List.set_cons_zero, List.set_cons_succ])
    (try simp only [List.set_cons_zero, List.set_cons_succ])
    refine sx_seq (met_set ns w _ rfl rfl) ?_
    (try simp only [List.set_cons_zero, List.set_cons_succ])
    refine Sy.sx (Sy.imp (sy_for (fun j ρ => ∃ s8, freeS s8 = true ∧ ρ = [.fz (.scr ns), .fn (.lst (idx.map (plot ns))), .fn (.lst (nmL l)), .fn (.lst (L.map .int)), .fn (.lst (ws.map (rwD ns))), .on (ftL ns (facts idx (((namesOf w).take j).foldl addNm A))), .fn (rwD ns w), .fn (.lst (nmLst w)), s8, .emp, .emp, .emp, .emp, .emp, .emp, .emp])
      (xe_seq (ve_fn rfl) rfl) rfl ⟨_, f8, rfl⟩ ?_) ?_)
    · rintro j d ρ hd ⟨s8, f8, rfl⟩
      unfold nmLst at hd
      rw [List.getElem?_map] at hd
      obtain ⟨c, hc, rfl⟩ : ∃ c, (namesOf w)[j]? = some c ∧ d = .str (tx c) := by
        cases q : (namesOf w)[j]? with
        | none => rw [q] at hd; cases hd
        | some c => rw [q] at hd; exact ⟨c, rfl, (Option.some.inj hd).symm⟩
      have hcok := hok c (List.mem_of_getElem? hc)
      rw [take_snoc hc, List.foldl_append]
      have hfl := fold_len ((namesOf w).take j) A
      have hn2 := namesOf_len w
      have htl2 : ((namesOf w).take j).length ≤ (namesOf w).length := by simp; omega
      have hCok := fold_ok ((namesOf w).take j) A hAok (fun x hx => hok x (List.mem_of_mem_take hx))
      generalize ((namesOf w).take j).foldl addNm A = C at *
      show Sg _ _ _ _ (fun ρ1 => Sx _ ρ1 (fun ρ => ∃ s8, freeS s8 = true ∧ ρ = [_, _, _, _, _, .on (ftL ns (facts idx (addNm C c))), _, _, s8, _, _, _, _, _, _, _]))
      (try simp only [List.set_cons_zero, List.set_cons_succ])
      refine sg_flat rfl f8 rfl ?_
      (try simp only [List.set_cons_zero, List.set_cons_succ])
      (try simp only [List.set_cons_zero, List.set_cons_succ])
      refine sx_if (b := !((facts idx C).any (isNm c))) (tf_v (vf_e2 (vf_fact_name (ns := ns) (a := c) (o := none) (vf_fn rfl) vf_c) (vf_on rfl) (nin_of (in_due ns hcok (facts_ok g.ii hCok))))) (fun h => ?_) (fun h => ?_)
      · rw [facts_any] at h
        have h' : C.any (· == c) = false := by simpa using h
        have e : addNm C c = C ++ [c] := if_neg (by rw [h']; decide)
        rw [e, facts_add]
        (try simp only [List.set_cons_zero, List.set_cons_succ])
        refine sx_end (se_app rfl (way_on0 rfl) (nf_flat (vf_fact_name (ns := ns) (a := c) (o := none) (vf_fn rfl) vf_c) rfl) (by rw [List.length_map]; unfold facts; simp; omega) (put_on0 rfl)) ?_
        refine ⟨.fn (.str (tx c)), rfl, ?_⟩
        unfold ftL
        rw [List.map_append]; rfl
      · rw [facts_any] at h
        have h' : C.any (· == c) = true := by simpa using h
        have e : addNm C c = C := if_pos h'
        rw [e]
        exact sx_nil ⟨.fn (.str (tx c)), rfl, rfl⟩
    · rintro ρ' ⟨s8, f8, rfl⟩
      rw [show (nmLst w).length = (namesOf w).length by simp [nmLst], List.take_length]
      exact ⟨_, _, _, rfl, rfl, f8, rfl⟩
  · rintro ρ' ⟨s6, s7, s8, f6, f7, f8, rfl⟩
    rw [List.length_map, List.take_length]
    have hAok := accR_ok ws [] (fun x h => by cases h) (fun v hv => names_ok hl (g.ww v hv))
    have hal := accR_len ws []
    have hgood := facts_ok g.ii hAok
    have hfirst := first_eq ns l hl idx hil ws g.ww hwl
    generalize hF : facts idx (accR [] ws) = Fs at *
    have hFl : Fs.length ≤ 200 := by
      rw [← hF]; unfold facts
      simp only [List.length_append, List.length_map, List.length_nil] at hal ⊢
      omega
    (try simp only [List.set_cons_zero, List.set_cons_succ])
    refine sr_seq (sn_set (d := .lst [.lst (idx.map (plot ns)), .lst (ws.map (rwD ns))]) (ve_disp (as := [(.lst (idx.map (plot ns)), .new), (.lst (ws.map (rwD ns)), .new)]) (ae_cons (vn_call (af_cons (vf_fn rfl) af_nil) ?_) (ae_cons (vn_call (af_cons (vf_fn rfl) af_nil) ?_) ae_nil)) (by simp [okNew, isNew]) (by simp)) rfl rfl) ?_
    · show (if flats (idx.map (plot ns)) = true then some (D.lst (idx.map (plot ns))) else none) = _
      rw [if_pos g.pf]
    · show (if flats (ws.map (rwD ns)) = true then some (D.lst (ws.map (rwD ns))) else none) = _
      rw [if_pos g.rf]
    (try simp only [List.set_cons_zero, List.set_cons_succ])
    refine sr_seq (sn_set (d := ftL ns Fs) (vn_call (ds := [.lst (idx.map (plot ns)), .lst (ws.map (rwD ns))]) (af_cons (vf_ix (vf_fn rfl) vf_c rfl) (af_cons (vf_ix (vf_fn rfl) vf_c rfl) af_nil)) hfirst) rfl rfl) ?_
    (try simp only [List.set_cons_zero, List.set_cons_succ])
    have hx := ve_lc (ρ := [.fz (.scr ns), .fn (.lst (idx.map (plot ns))), .fn (.lst (nmL l)), .fn (.lst (L.map .int)), .fn (.lst (ws.map (rwD ns))), .on (ftL ns Fs), s6, s7, s8, .fn (.lst [.lst (idx.map (plot ns)), .lst (ws.map (rwD ns))]), .fn (ftL ns Fs), .emp, .emp, .emp, .emp, .emp]) (vs := [15]) (xe_seq (ve_fn (i := 10) (d := ftL ns Fs) rfl) rfl) (by rw [List.length_map]; omega)
      (lc_filterS (g := gN 15) (t := tNotD (tE (eCall f__law_kind (aCons (eV 15) aNil)))) (e := eV 15) (fun d => d) (fun _ => false) (fun d hd => by
        simp only [List.mem_map] at hd
        obtain ⟨y, hy, rfl⟩ := hd
        exact sg_flat rfl rfl (ftD_flat ns y) ⟨te_not (b := true) (tf_v (vf_call (af_cons (vf_fn rfl) af_nil) (kind_eq ns y))), fun h => by cases h⟩) (fun d hd => by
        simp only [List.mem_map] at hd
        obtain ⟨y, hy, rfl⟩ := hd
        exact ftD_flat ns y))
    rw [List.filter_eq_nil_iff.mpr (by simp)] at hx
    (try simp only [List.set_cons_zero, List.set_cons_succ])
    refine sr_guard (b := false) (te_or_f (te_not (b := true) (tf_v (vf_e1 (vf_fn rfl) rfl))) (tf_v (vf_e2 (.of hx) (.of (vn_disp (mk := .lst) (ds := []) af_nil rfl (by simp))) (ne_refl rfl)))) (fun h => by cases h) (fun _ => ?_)
    have hdk : dk 64 (.lst [.lst (idx.map (plot ns)), .lst (ws.map (rwD ns))]) = true := by
      show [D.lst (idx.map (plot ns)), .lst (ws.map (rwD ns))].all (dk 63) = true
      rw [List.all_cons, List.all_cons, g.dp 61, g.dr hl 61]; rfl
    (try simp only [List.set_cons_zero, List.set_cons_succ])
    refine sr_ret (vf_and_t (vf_e2 (vf_fn rfl) (vf_on rfl) (eq_refl (dk_ftL ns hgood))) (vf_e2 (vf_fn rfl) (.of (ve_disp (as := [(.lst (idx.map (plot ns)), .new), (.lst (ws.map (rwD ns)), .new)]) (ae_cons (ve_fn rfl) (ae_cons (ve_fn rfl) ae_nil)) (by simp [okNew, isNew]) (by simp))) (eq_refl hdk))) rfl
theorem law_true (ns : List Int) (hns : ns.length ≤ 63) : f_law [.scr ns] = some (.bl true) := by
  obtain ⟨p0, p1, p2⟩ := pn_eq ns
  obtain ⟨l, hl1, hl⟩ := names_eq ns
  obtain ⟨L0, hL0, hL0n⟩ := scr_slice ns
  refine fn_sr rfl ?_
  unfold b_law
  show Sr _ [.fz (.scr ns), .emp, .emp, .emp, .emp, .emp, .emp, .emp, .emp, .emp, .emp, .emp, .emp, .emp, .emp, .emp] _
  (try simp only [List.set_cons_zero, List.set_cons_succ])
  refine sr_seq (sn_set (d := .lst (plots ns)) (vn_call (af_cons (vf_fz rfl) af_nil) (plots_eq ns)) rfl rfl) ?_
  (try simp only [List.set_cons_zero, List.set_cons_succ])
  refine sr_seq (sn_set (d := .lst (nmL l)) (vn_call (af_cons (vf_fz rfl) (af_cons (vf_fn rfl) af_nil)) hl1) rfl rfl) ?_
  (try simp only [List.set_cons_zero, List.set_cons_succ])
  refine sr_seq (sn_set (d := .lst (L0.map .int)) (vn_sl (vf_fz rfl) (of_some vf_c) (of_some vf_c) hL0) rfl rfl) ?_
  have m0 := Int.emod_nonneg (atZ ns 5 / 8) (show (21 : Int) ≠ 0 by omega)
  have m1 := Int.emod_lt_of_pos (atZ ns 5 / 8) (show (0 : Int) < 21 by omega)
  obtain ⟨m, hm⟩ : ∃ m : Nat, 40 + atZ ns 5 / 8 % 21 = (m : Nat) := ⟨(40 + atZ ns 5 / 8 % 21).toNat, by omega⟩
  (try simp only [List.set_cons_zero, List.set_cons_succ])
  refine sr_seq (sn_if_set (b := (atZ ns 5 % 8 == 1)) (d := .lst ((List.range m).map fun (i : Nat) => .int (atZ ns (6 + (i : Int) % 3) / 7 + 7919 * (i : Int)))) ?_ rfl (fun _ => ?_)) ?_
  · (repeat' first | ((with_reducible apply vf_fz); exact rfl) | ((with_reducible apply vf_fn); exact rfl) | ((with_reducible apply vf_on); exact rfl) | ((with_reducible apply vf_fa); exact rfl) | with_reducible exact vf_c | with_reducible exact af_nil | with_reducible exact oe_none | with_reducible apply tf_v | with_reducible apply nf_flat | with_reducible apply af_cons | with_reducible apply of_some | with_reducible apply vf_e2 | with_reducible apply vf_e1 | with_reducible apply vf_ix | with_reducible apply vf_call | with_reducible apply vn_call | with_reducible apply vf_sl | with_reducible apply vf_disp | with_reducible apply vn_disp | with_reducible exact add_int | with_reducible exact sub_int | with_reducible exact eq_int | with_reducible exact ne_int | with_reducible exact lt_int | with_reducible exact gt_int | ((with_reducible apply mod_ok); omega) | ((with_reducible apply fdiv_ok) <;> omega) | ((with_reducible apply mul_okl) <;> omega) | ((with_reducible apply mul_okr) <;> omega) | (refine (?_ : flats _ = true); exact rfl) | (refine (?_ : flat _ = true); exact rfl) | (refine (?_ : List.length _ ≤ 16777216); simp; done) | exact at_eq (by decide) | exact add_int | exact sub_int)
  · refine vn_lcr (F := fun (i : Nat) => .int (atZ ns (6 + (i : Int) % 3) / 7 + 7919 * (i : Int))) ?_ (by omega) (show 11 < 16 by decide) (fun i hi => ?_) (fun _ => rfl)
    · rw [← hm]
      (repeat' first | ((with_reducible apply vf_fz); exact rfl) | ((with_reducible apply vf_fn); exact rfl) | ((with_reducible apply vf_on); exact rfl) | ((with_reducible apply vf_fa); exact rfl) | with_reducible exact vf_c | with_reducible exact af_nil | with_reducible exact oe_none | with_reducible apply tf_v | with_reducible apply nf_flat | with_reducible apply af_cons | with_reducible apply of_some | with_reducible apply vf_e2 | with_reducible apply vf_e1 | with_reducible apply vf_ix | with_reducible apply vf_call | with_reducible apply vn_call | with_reducible apply vf_sl | with_reducible apply vf_disp | with_reducible apply vn_disp | with_reducible exact add_int | with_reducible exact sub_int | with_reducible exact eq_int | with_reducible exact ne_int | with_reducible exact lt_int | with_reducible exact gt_int | ((with_reducible apply mod_ok); omega) | ((with_reducible apply fdiv_ok) <;> omega) | ((with_reducible apply mul_okl) <;> omega) | ((with_reducible apply mul_okr) <;> omega) | (refine (?_ : flats _ = true); exact rfl) | (refine (?_ : flat _ = true); exact rfl) | (refine (?_ : List.length _ ≤ 16777216); simp; done) | exact at_eq (by decide) | exact add_int | exact sub_int)
    · (repeat' first | ((with_reducible apply vf_fz); exact rfl) | ((with_reducible apply vf_fn); exact rfl) | ((with_reducible apply vf_on); exact rfl) | ((with_reducible apply vf_fa); exact rfl) | with_reducible exact vf_c | with_reducible exact af_nil | with_reducible exact oe_none | with_reducible apply tf_v | with_reducible apply nf_flat | with_reducible apply af_cons | with_reducible apply of_some | with_reducible apply vf_e2 | with_reducible apply vf_e1 | with_reducible apply vf_ix | with_reducible apply vf_call | with_reducible apply vn_call | with_reducible apply vf_sl | with_reducible apply vf_disp | with_reducible apply vn_disp | with_reducible exact add_int | with_reducible exact sub_int | with_reducible exact eq_int | with_reducible exact ne_int | with_reducible exact lt_int | with_reducible exact gt_int | ((with_reducible apply mod_ok); omega) | ((with_reducible apply fdiv_ok) <;> omega) | ((with_reducible apply mul_okl) <;> omega) | ((with_reducible apply mul_okr) <;> omega) | (refine (?_ : flats _ = true); exact rfl) | (refine (?_ : flat _ = true); exact rfl) | (refine (?_ : List.length _ ≤ 16777216); simp; done) | exact at_eq (by omega) | exact add_int | exact sub_int)
  obtain ⟨L, hL, hLn⟩ := xs_eq ns _ L0 rfl hL0n m (by omega) (fun i => atZ ns (6 + (i : Int) % 3) / 7 + 7919 * (i : Int)) (atZ ns 5 % 8 == 1)
  rw [hL]
  have hrow := fun x => rowW_eq ns l hl L.length hLn x
  (try simp only [List.set_cons_zero, List.set_cons_succ])
  refine sr_seq (sn_set (d := .lst ((L.map (rowW ns l hl L.length hLn)).map (rwD ns))) ?_ rfl rfl) ?_
  · have e : (L.map (rowW ns l hl L.length hLn)).map (rwD ns) = (L.map D.int).map (fun d => match d with | .int x => rwD ns (rowW ns l hl L.length hLn x) | d => d) := by
      rw [List.map_map, List.map_map]; rfl
    rw [e]
    refine vn_lcl (vf_fn rfl) (by simp; omega) (show 12 < 16 by decide) (ints_flat L) (fun d hd => ?_) (fun d hd => ?_)
    · simp only [List.mem_map] at hd
      obtain ⟨x, _, rfl⟩ := hd
      refine vf_call (ds := [.int x, .lst (plots ns), .lst (nmL l), .int (L.length : Nat)]) (af_cons (vf_fn rfl) (af_cons (vf_fn rfl) (af_cons (vf_fn rfl) (af_cons ?_ af_nil)))) (hrow x).1
      refine vf_call (af_cons (vf_fn rfl) af_nil) ?_
      show some (D.int ((L.map D.int).length : Nat)) = _
      rw [List.length_map]
    · simp only [List.mem_map] at hd
      obtain ⟨x, _, rfl⟩ := hd
      exact rwD_flat ns _
  generalize hW : L.map (rowW ns l hl L.length hLn) = W
  have Wok : ∀ w ∈ W, RwOk ns l w := by
    intro w hw
    rw [← hW] at hw
    simp only [List.mem_map] at hw
    obtain ⟨x, _, rfl⟩ := hw
    exact (hrow x).2
  have Wlen : W.length ≤ 60 := by rw [← hW]; simpa using hLn
  (try simp only [List.set_cons_zero, List.set_cons_succ])
  (try simp only [List.set_cons_zero, List.set_cons_succ])
  refine sr_bind (Φ := fun ρ => ∃ idx ws, Given ns l idx ws ∧ ρ = [.fz (.scr ns), .fn (.lst (idx.map (plot ns))), .fn (.lst (nmL l)), .fn (.lst (L.map .int)), .fn (.lst (ws.map (rwD ns))), .emp, .emp, .emp, .emp, .emp, .emp, .emp, .emp, .emp, .emp, .emp]) ?_ ?_
  · (try simp only [List.set_cons_zero, List.set_cons_succ])
    refine sy_if (b := (atZ ns 0 / 4 % 16 == 9)) ?_ (fun _ => ?_) (fun _ => sy_nil ⟨List.range (pn ns), W, ⟨by simpa using p2, fun i hi => by simpa using hi, Wlen, Wok⟩, rfl⟩)
    · (repeat' first | ((with_reducible apply vf_fz); exact rfl) | ((with_reducible apply vf_fn); exact rfl) | ((with_reducible apply vf_on); exact rfl) | ((with_reducible apply vf_fa); exact rfl) | with_reducible exact vf_c | with_reducible exact af_nil | with_reducible exact oe_none | with_reducible apply tf_v | with_reducible apply nf_flat | with_reducible apply af_cons | with_reducible apply of_some | with_reducible apply vf_e2 | with_reducible apply vf_e1 | with_reducible apply vf_ix | with_reducible apply vf_call | with_reducible apply vn_call | with_reducible apply vf_sl | with_reducible apply vf_disp | with_reducible apply vn_disp | with_reducible exact add_int | with_reducible exact sub_int | with_reducible exact eq_int | with_reducible exact ne_int | with_reducible exact lt_int | with_reducible exact gt_int | ((with_reducible apply mod_ok); omega) | ((with_reducible apply fdiv_ok) <;> omega) | ((with_reducible apply mul_okl) <;> omega) | ((with_reducible apply mul_okr) <;> omega) | (refine (?_ : flats _ = true); exact rfl) | (refine (?_ : flat _ = true); exact rfl) | (refine (?_ : List.length _ ≤ 16777216); simp; done) | exact at_eq (by decide) | exact add_int | exact sub_int)
    · (try simp only [List.set_cons_zero, List.set_cons_succ])
      refine sy_seq (sn_set (d := .lst []) (vn_disp (ds := []) af_nil rfl (by simp)) rfl rfl) ?_
      (try simp only [List.set_cons_zero, List.set_cons_succ])
      (try simp only [List.set_cons_zero, List.set_cons_succ])
      refine sy_end (sn_set (d := .lst ((W.filter inTags).map (rwD ns))) ?_ rfl rfl) ⟨[], W.filter inTags, ⟨by simp, fun i hi => (by cases hi), Nat.le_trans (List.length_filter_le _ _) Wlen, fun w hw => Wok w (List.mem_filter.mp hw).1⟩, rfl⟩
      have hx := ve_lc (ρ := [.fz (.scr ns), .fn (.lst []), .fn (.lst (nmL l)), .fn (.lst (L.map .int)), .fn (.lst (W.map (rwD ns))), .emp, .emp, .emp, .emp, .emp, .emp, .emp, .emp, .emp, .emp, .emp]) (vs := [6]) (xe_seq (ve_fn (i := 4) (d := .lst (W.map (rwD ns))) rfl) rfl) (by rw [List.length_map]; omega)
        (lc_filterS (g := gN 6) (t := tE (e2 inD (eIx ixD (eV 6) (eC (.int 0))) (eDisp .tup (aCons (eC (.str "same")) (aCons (eC (.str "add")) (aCons (eC (.str "tell")) (aCons (eC (.str "fork")) (aCons (eC (.str "go")) (aCons (eC (.str "end")) aNil))))))))) (e := eV 6) (fun d => d) pTag (fun d hd => by
          simp only [List.mem_map] at hd
          obtain ⟨w, hw, rfl⟩ := hd
          (try simp only [List.set_cons_zero, List.set_cons_succ])
          refine sg_flat rfl rfl (rwD_flat ns w) ⟨?_, fun _ => vf_fn rfl⟩
          rw [pTag_rw]
          exact tf_v (vf_e2 (vf_ix (vf_fn rfl) vf_c (rwD_tag ns w)) (vf_disp (ds := tags6) (af_cons vf_c (af_cons vf_c (af_cons vf_c (af_cons vf_c (af_cons vf_c (af_cons vf_c af_nil)))))) rfl (by simp)) (in_of (in_six w)))) (fun d hd => by
          simp only [List.mem_map] at hd
          obtain ⟨w, hw, rfl⟩ := hd
          exact rwD_flat ns w))
      rw [List.map_id', List.filter_map, show (pTag ∘ rwD ns) = inTags from funext fun w => pTag_rw ns w] at hx
      exact hx
  · rintro ρ' ⟨idx, ws, g, rfl⟩
    exact due_eq ns l hl L idx ws g .emp rfl
end K06

namespace K06
open PySem L2 DL
def top (i : Nat) : Stmt := PySem.Challenge.pw_plotfree_k06_facts_at_first.main.body.getD i (.Pass ⟨0, 0, 0, 0⟩)
abbrev s_at_first : Stmt := top 2
abbrev N_at_first : List Str := ["plots", "rows", "found", "met", "row", "name", "outer"]
theorem sc_at_first : FnScope N_at_first ["plots", "rows"] (defScope s_at_first) := ⟨rfl, rfl, rfl, by decide +kernel, rfl, by decide +kernel, by decide +kernel⟩
abbrev s__law_at : Stmt := top 4
abbrev N__law_at : List Str := ["_law_script", "_law_k"]
theorem sc__law_at : FnScope N__law_at ["_law_script", "_law_k"] (defScope s__law_at) := ⟨rfl, rfl, rfl, by decide +kernel, rfl, by decide +kernel, by decide +kernel⟩
abbrev s__law_called : Stmt := top 5
abbrev N__law_called : List Str := ["_law_cell", "_law_k", "_law_signs", "_law_letters", "_law_turned", "_law_size", "_law_tail", "_law_at_here", "_law_j"]
theorem sc__law_called : FnScope N__law_called ["_law_cell", "_law_k", "_law_signs"] (defScope s__law_called) := ⟨rfl, rfl, rfl, by decide +kernel, rfl, by decide +kernel, by decide +kernel⟩
abbrev s__law_plots : Stmt := top 6
abbrev N__law_plots : List Str := ["_law_script", "_law_many", "_law_plots_here", "_law_k", "_law_pick", "_law_outer"]
theorem sc__law_plots : FnScope N__law_plots ["_law_script"] (defScope s__law_plots) := ⟨rfl, rfl, rfl, by decide +kernel, rfl, by decide +kernel, by decide +kernel⟩
abbrev s__law_names : Stmt := top 7
abbrev N__law_names : List Str := ["_law_script", "_law_plots_here", "_law_cell", "_law_many", "_law_ends", "_law_plot", "_law_outer", "_law_k"]
theorem sc__law_names : FnScope N__law_names ["_law_script", "_law_plots_here"] (defScope s__law_names) := ⟨rfl, rfl, rfl, by decide +kernel, rfl, by decide +kernel, by decide +kernel⟩
abbrev s__law_row : Stmt := top 8
abbrev N__law_row : List Str := ["_law_cell", "_law_plots_here", "_law_names_here", "_law_size", "_law_more", "_law_name", "_law_other", "_law_plot", "_law_number", "_law_place", "_law_kind_here"]
theorem sc__law_row : FnScope N__law_row ["_law_cell", "_law_plots_here", "_law_names_here", "_law_size"] (defScope s__law_row) := ⟨rfl, rfl, rfl, by decide +kernel, rfl, by decide +kernel, by decide +kernel⟩
abbrev s__law_kind : Stmt := top 9
abbrev N__law_kind : List Str := ["_law_fact"]
theorem sc__law_kind : FnScope N__law_kind ["_law_fact"] (defScope s__law_kind) := ⟨rfl, rfl, rfl, by decide +kernel, rfl, by decide +kernel, by decide +kernel⟩
abbrev s_law : Stmt := top 10
abbrev N_law : List Str := ["_law_script", "_law_plots_here", "_law_names_here", "_law_cells", "_law_rows", "_law_due", "_law_row_here", "_law_met", "_law_name", "_law_handed", "_law_found", "_law_k", "_law_cell", "_law_plot", "_law_outer", "_law_fact"]
theorem sc_law : FnScope N_law ["_law_script"] (defScope s_law) := ⟨rfl, rfl, rfl, by decide +kernel, rfl, by decide +kernel, by decide +kernel⟩
section
variable {P : Program} {w : World} {K : PySem.W.Frag} {mg : Str → Option Value} {base : Heap} {cm : Nat → Addr}
theorem ok_at_first {f : Addr} {fd : FuncData} (F : Fun K "at_first" "at_first" s_at_first f fd) (T : Bm mg) (k_NAMED : KTab K w mg "NAMED" tab_NAMED) : FnOk P w K mg base CX0 1 f fd ["plots", "rows"] (spP K cm f_at_first) := by
  have key := @fn_pure P w K mg base cm "at_first" "at_first" s_at_first f fd N_at_first ["plots", "rows"] 0 b_at_first F sc_at_first (by decide)
  refine key fun cdv A outer s H E hr => ?_
  have NN := sc_at_first.nd
  exact (pub_cons (pus_setNLc 2 (own := [("name", 5), ("outer", 6)]) NN (pui_seq (pu_var 0)) (blkOk_by (own := [("name", 5), ("outer", 6)]) (N := N_at_first) (sc := defScope s_at_first) (by decide +kernel)) (fun _ _ _ _ _ => (pug_tup (pugs_cons 5 NN (pugs_cons 6 NN pugs_nil)))) (fun _ _ _ _ _ => puts_nil) (fun _ _ _ _ _ => (pu_tup (pua_cons pu_str (pua_cons (pu_var 5) (pua_cons pu_bl pua_nil))))))
    (pub_cons (pus_setN 3 NN pn_dic0)
    (pub_cons (pus_for (pui_seq (pu_var 1)) (pug_name 4 NN) (pub_one (pus_for (pui_seq (pu_sl (pu_var 4) (puo_some pu_int) (puo_some (pu_add pu_int (pu_kget k_NAMED (pu_ix (hu1 hr) (pu_var 4) pu_int) pu_int))))) (pug_name 5 NN) (pub_one (pus_if (put_nin (hu65 hr) (pu_var 5) (pu_var 3)) (pub_cons (pus_sub (hu1 hr) (pn_flat pu_bl) (pul_name 3) (pu_var 5))
    (pub_one (pus_app (pul_name 2) (pn_flat (pu_tup (pua_cons pu_str (pua_cons (pu_var 5) (pua_cons pu_non pua_nil)))))))) pub_nil)))))
    (pub_one (pus_retOn 2)))))
theorem ok__law_at {f : Addr} {fd : FuncData} (F : Fun K "_law_at" "_law_at" s__law_at f fd) (T : Bm mg) : FnOk P w K mg base CX0 1 f fd ["_law_script", "_law_k"] (spP K cm f__law_at) := by
  have key := @fn_pure P w K mg base cm "_law_at" "_law_at" s__law_at f fd N__law_at ["_law_script", "_law_k"] 0 b__law_at F sc__law_at (by decide)
  refine key fun cdv A outer s H E hr => ?_
  have NN := sc__law_at.nd
  exact (pub_cons (pus_if (put_lt (pu_var 1) (pu_len T.len (pua_cons (pu_var 0) pua_nil))) (pub_one (pus_ret (pu_ix (hu1 hr) (pu_var 0) (pu_var 1)))) pub_nil)
    (pub_one (pus_ret pu_int)))
theorem ok__law_called {f : Addr} {fd : FuncData} (F : Fun K "_law_called" "_law_called" s__law_called f fd) (T : Bm mg) : FnOk P w K mg base CX0 1 f fd ["_law_cell", "_law_k", "_law_signs"] (spP K cm f__law_called) := by
  have key := @fn_pure P w K mg base cm "_law_called" "_law_called" s__law_called f fd N__law_called ["_law_cell", "_law_k", "_law_signs"] 0 b__law_called F sc__law_called (by decide)
  refine key fun cdv A outer s H E hr => ?_
  have NN := sc__law_called.nd
  exact (pub_cons (pus_set 3 NN pu_str)
    (pub_cons (pus_set 4 NN (pu_add (pu_var 0) (pu_mul (pu_mul pu_int (pu_var 1)) (pu_mod (pu_var 0) pu_int))))
    (pub_cons (pus_set 5 NN (pu_mod (pu_fdiv (pu_var 4) pu_int) (pu_sub pu_int (pu_len T.len (pua_cons (pu_var 2) pua_nil)))))
    (pub_cons (pus_set 6 NN (pu_join pu_str (pu_lc (own := [("_law_j", 8)]) NN (pui_range T.range (pu_var 5)) (blkOk_by (own := [("_law_j", 8)]) (N := N__law_called) (sc := defScope s__law_called) (by decide +kernel)) (fun _ _ _ _ _ => (pug_name 8 NN)) (fun _ _ _ _ _ => puts_nil) (fun _ _ _ _ _ => (pu_ix (hu1 hr) (pu_var 3) (pu_mod (pu_add (pu_var 4) (pu_mul (pu_mul pu_int (pu_var 8)) (pu_add pu_int (pu_mod (pu_var 4) pu_int)))) pu_int))))))
    (pub_cons (pus_set 7 NN (pu_var 5))
    (pub_cons (pus_if (put_eq (hu64 hr) (pu_mod (pu_var 0) pu_int) pu_int) (pub_one (pus_set 7 NN (pu_mod (pu_fdiv (pu_var 0) pu_int) (pu_add (pu_var 5) pu_int)))) pub_nil)
    (pub_one (pus_ret (pu_add (pu_add (pu_sl (pu_var 6) puo_none (puo_some (pu_var 7))) (pu_var 2)) (pu_sl (pu_var 6) (puo_some (pu_var 7)) puo_none))))))))))
theorem ok__law_plots {f : Addr} {fd : FuncData} (F : Fun K "_law_plots" "_law_plots" s__law_plots f fd) (T : Bm mg) (C__law_at : CalP P w K mg base cm 1 "_law_at" f__law_at) (C__law_called : CalP P w K mg base cm 1 "_law_called" f__law_called) : FnOk P w K mg base CX0 2 f fd ["_law_script"] (spP K cm f__law_plots) := by
  have key := @fn_pure P w K mg base cm "_law_plots" "_law_plots" s__law_plots f fd N__law_plots ["_law_script"] 1 b__law_plots F sc__law_plots (by decide)
  refine key fun cdv A outer s H E hr => ?_
  have NN := sc__law_plots.nd
  exact (pub_cons (pus_set 1 NN (pu_add pu_int (pu_mod (pu_call C__law_at hr (by decide) (pua_cons (pu_var 0) (pua_cons pu_int pua_nil))) pu_int)))
    (pub_cons (pus_if (put_eq (hu64 hr) (pu_mod (pu_fdiv (pu_call C__law_at hr (by decide) (pua_cons (pu_var 0) (pua_cons pu_int pua_nil))) pu_int) pu_int) pu_int) (pub_one (pus_set 1 NN (pu_sub pu_int (pu_mod (pu_fdiv (pu_call C__law_at hr (by decide) (pua_cons (pu_var 0) (pua_cons pu_int pua_nil))) pu_int) pu_int)))) pub_nil)
    (pub_cons (pus_setN 2 NN (pn_lst pns_nil))
    (pub_cons (pus_for (pui_range T.range (pu_var 1)) (pug_name 3 NN) (pub_cons (pus_set 4 NN (pu_mod (pu_mod (pu_mul (pu_add (pu_call C__law_at hr (by decide) (pua_cons (pu_var 0) (pua_cons pu_int pua_nil))) (pu_mul pu_int (pu_var 3))) pu_int) pu_int) (pu_add (pu_var 3) pu_int)))
    (pub_cons (pus_if (putw_and (put_eq (hu64 hr) (pu_mod (pu_call C__law_at hr (by decide) (pua_cons (pu_var 0) (pua_cons pu_int pua_nil))) pu_int) pu_int) (putw_one_and (put_gt (pu_var 3) pu_int))).pt (pub_one (pus_set 4 NN (pu_sub (pu_var 3) pu_int))) pub_nil)
    (pub_cons (pus_set 5 NN pu_non)
    (pub_cons (pus_if (put_lt (pu_var 4) (pu_var 3)) (pub_one (pus_set 5 NN (pu_ix (hu1 hr) (pu_ix (hu1 hr) (pu_var 2) (pu_var 4)) pu_int))) pub_nil)
    (pub_one (pus_app (pul_name 2) (pn_flat (pu_tup (pua_cons (pu_call C__law_called hr (by decide) (pua_cons (pu_fdiv (pu_call C__law_at hr (by decide) (pua_cons (pu_var 0) (pua_cons pu_int pua_nil))) pu_int) (pua_cons (pu_var 3) (pua_cons (pu_ix (hu1 hr) pu_str (pu_var 3)) pua_nil)))) (pua_cons (pu_var 5) pua_nil)))))))))))
    (pub_one (pus_retOn 2))))))
theorem ok__law_names {f : Addr} {fd : FuncData} (F : Fun K "_law_names" "_law_names" s__law_names f fd) (T : Bm mg) (C__law_at : CalP P w K mg base cm 1 "_law_at" f__law_at) (C__law_called : CalP P w K mg base cm 1 "_law_called" f__law_called) : FnOk P w K mg base CX0 2 f fd ["_law_script", "_law_plots_here"] (spP K cm f__law_names) := by
  have key := @fn_pure P w K mg base cm "_law_names" "_law_names" s__law_names f fd N__law_names ["_law_script", "_law_plots_here"] 1 b__law_names F sc__law_names (by decide)
  refine key fun cdv A outer s H E hr => ?_
  have NN := sc__law_names.nd
  exact (pub_cons (pus_set 2 NN (pu_call C__law_at hr (by decide) (pua_cons (pu_var 0) (pua_cons pu_int pua_nil))))
    (pub_cons (pus_set 3 NN (pu_add pu_int (pu_mod (pu_var 2) pu_int)))
    (pub_cons (pus_if (put_eq (hu64 hr) (pu_mod (pu_fdiv (pu_var 2) pu_int) pu_int) pu_int) (pub_one (pus_set 3 NN pu_int)) pub_nil)
    (pub_cons (pus_if (put_eq (hu64 hr) (pu_mod (pu_fdiv (pu_var 2) pu_int) pu_int) pu_int) (pub_one (pus_ret (pu_sl (pu_lc (own := [("_law_plot", 5), ("_law_outer", 6)]) NN (pui_seq (pu_var 1)) (blkOk_by (own := [("_law_plot", 5), ("_law_outer", 6)]) (N := N__law_names) (sc := defScope s__law_names) (by decide +kernel)) (fun _ _ _ _ _ => (pug_tup (pugs_cons 5 NN (pugs_cons 6 NN pugs_nil)))) (fun _ _ _ _ _ => puts_nil) (fun _ _ _ _ _ => (pu_var 5))) puo_none (puo_some (pu_var 3))))) pub_nil)
    (pub_cons (pus_set 4 NN pu_str)
    (pub_one (pus_ret (pu_lc (own := [("_law_k", 7)]) NN (pui_range T.range (pu_var 3)) (blkOk_by (own := [("_law_k", 7)]) (N := N__law_names) (sc := defScope s__law_names) (by decide +kernel)) (fun _ _ _ _ _ => (pug_name 7 NN)) (fun _ _ _ _ _ => puts_nil) (fun _ _ _ _ _ => (pu_call C__law_called hr (by decide) (pua_cons (pu_fdiv (pu_var 2) pu_int) (pua_cons (pu_var 7) (pua_cons (pu_add (pu_ix (hu1 hr) pu_str (pu_fdiv (pu_var 7) pu_int)) (pu_ix (hu1 hr) (pu_var 4) (pu_mod (pu_var 7) pu_int))) pua_nil)))))))))))))
theorem ok__law_row {f : Addr} {fd : FuncData} (F : Fun K "_law_row" "_law_row" s__law_row f fd) (T : Bm mg) : FnOk P w K mg base CX0 1 f fd ["_law_cell", "_law_plots_here", "_law_names_here", "_law_size"] (spP K cm f__law_row) := by
  have key := @fn_pure P w K mg base cm "_law_row" "_law_row" s__law_row f fd N__law_row ["_law_cell", "_law_plots_here", "_law_names_here", "_law_size"] 0 b__law_row F sc__law_row (by decide)
  refine key fun cdv A outer s H E hr => ?_
  have NN := sc__law_row.nd
  exact (pub_cons (pus_set 4 NN (pu_mod (pu_add (pu_mul (pu_fdiv (pu_var 0) pu_int) pu_int) pu_int) pu_int))
    (pub_cons (pus_set 5 NN (pu_ix (hu1 hr) (pu_var 2) (pu_mod (pu_var 4) (pu_len T.len (pua_cons (pu_var 2) pua_nil)))))
    (pub_cons (pus_set 6 NN (pu_ix (hu1 hr) (pu_var 2) (pu_mod (pu_fdiv (pu_var 4) pu_int) (pu_len T.len (pua_cons (pu_var 2) pua_nil)))))
    (pub_cons (pus_set 7 NN (pu_ix (hu1 hr) (pu_ix (hu1 hr) (pu_var 1) (pu_mod (pu_fdiv (pu_var 4) pu_int) (pu_len T.len (pua_cons (pu_var 1) pua_nil)))) pu_int))
    (pub_cons (pus_set 8 NN (pu_sub (pu_mod (pu_fdiv (pu_var 0) pu_int) pu_int) pu_int))
    (pub_cons (pus_if (put_eq (hu64 hr) (pu_mod (pu_var 4) pu_int) pu_int) (pub_one (pus_set 8 NN (pu_sub (pu_mod (pu_fdiv (pu_var 0) pu_int) pu_int) pu_int))) pub_nil)
    (pub_cons (pus_set 9 NN (pu_mod (pu_fdiv (pu_var 4) pu_int) (pu_add (pu_var 3) pu_int)))
    (pub_cons (pus_set 10 NN (pu_mod (pu_var 0) pu_int))
    (pub_cons (pus_if (put_lt (pu_var 10) pu_int) (pub_one (pus_ret (pu_ix (hu1 hr) (pu_lst (pua_cons (pu_tup (pua_cons pu_str (pua_cons (pu_var 7) pua_nil))) (pua_cons (pu_tup (pua_cons pu_str (pua_cons (pu_var 5) (pua_cons (pu_var 7) (pua_cons (pu_var 8) pua_nil))))) pua_nil))) (pu_var 10)))) pub_nil)
    (pub_cons (pus_if (put_lt (pu_var 10) pu_int) (pub_one (pus_ret (pu_ix (hu1 hr) (pu_lst (pua_cons (pu_tup (pua_cons pu_str (pua_cons (pu_var 5) (pua_cons (pu_var 6) (pua_cons (pu_var 7) pua_nil))))) (pua_cons (pu_tup (pua_cons pu_str (pua_cons (pu_var 5) (pua_cons (pu_var 6) pua_nil)))) (pua_cons (pu_tup (pua_cons pu_str (pua_cons (pu_var 5) (pua_cons (pu_var 6) pua_nil)))) (pua_cons (pu_tup (pua_cons pu_str (pua_cons (pu_var 5) pua_nil))) pua_nil))))) (pu_sub (pu_var 10) pu_int)))) pub_nil)
    (pub_one (pus_ret (pu_ix (hu1 hr) (pu_lst (pua_cons (pu_tup (pua_cons pu_str (pua_cons (pu_var 7) pua_nil))) (pua_cons (pu_tup (pua_cons pu_str (pua_cons (pu_var 9) pua_nil))) (pua_cons (pu_tup (pua_cons pu_str (pua_cons (pu_var 9) pua_nil))) (pua_cons (pu_tup (pua_cons pu_str pua_nil)) pua_nil))))) (pu_sub (pu_var 10) pu_int))))))))))))))
theorem ok__law_kind {f : Addr} {fd : FuncData} (F : Fun K "_law_kind" "_law_kind" s__law_kind f fd) (T : Bm mg) : FnOk P w K mg base CX0 1 f fd ["_law_fact"] (spP K cm f__law_kind) := by
  have key := @fn_pure P w K mg base cm "_law_kind" "_law_kind" s__law_kind f fd N__law_kind ["_law_fact"] 0 b__law_kind F sc__law_kind (by decide)
  refine key fun cdv A outer s H E hr => ?_
  have NN := sc__law_kind.nd
  exact (pub_cons (pus_if (putw_or (put_not (put_val (pu_isi .tuple T.isinstance T.tuple (by decide +kernel) (pu_var 0)))) (putw_one_or (put_ne (hu64 hr) (pu_len T.len (pua_cons (pu_var 0) pua_nil)) pu_int))).pt (pub_one (pus_ret pu_bl)) pub_nil)
    (pub_one (pus_ret (pu_eq (hu64 hr) (pu_isi .bool T.isinstance T.bool (by decide +kernel) (pu_ix (hu1 hr) (pu_var 0) pu_int)) (pu_eq (hu64 hr) (pu_ix (hu1 hr) (pu_var 0) pu_int) pu_str)))))
theorem ok_law {f : Addr} {fd : FuncData} (F : Fun K "law" "law" s_law f fd) (T : Bm mg) (C__law_plots : CalP P w K mg base cm 2 "_law_plots" f__law_plots) (C__law_names : CalP P w K mg base cm 2 "_law_names" f__law_names) (C__law_at : CalP P w K mg base cm 1 "_law_at" f__law_at) (C__law_row : CalP P w K mg base cm 1 "_law_row" f__law_row) (C_at_first : CalP P w K mg base cm 1 "at_first" f_at_first) (C__law_kind : CalP P w K mg base cm 1 "_law_kind" f__law_kind) : FnOk P w K mg base CX0 3 f fd ["_law_script"] (spP K cm f_law) := by
  have key := @fn_pure P w K mg base cm "law" "law" s_law f fd N_law ["_law_script"] 2 b_law F sc_law (by decide)
  refine key fun cdv A outer s H E hr => ?_
  have NN := sc_law.nd
  exact (pub_cons (pus_set 1 NN (pu_call C__law_plots hr (by decide) (pua_cons (pu_var 0) pua_nil)))
    (pub_cons (pus_set 2 NN (pu_call C__law_names hr (by decide) (pua_cons (pu_var 0) (pua_cons (pu_var 1) pua_nil))))
    (pub_cons (pus_set 3 NN (pu_sl (pu_var 0) (puo_some pu_int) (puo_some pu_int)))
    (pub_cons (pus_if (put_eq (hu64 hr) (pu_mod (pu_call C__law_at hr (by decide) (pua_cons (pu_var 0) (pua_cons pu_int pua_nil))) pu_int) pu_int) (pub_one (pus_set 3 NN (pu_lc (own := [("_law_k", 11)]) NN (pui_range T.range (pu_add pu_int (pu_mod (pu_fdiv (pu_call C__law_at hr (by decide) (pua_cons (pu_var 0) (pua_cons pu_int pua_nil))) pu_int) pu_int))) (blkOk_by (own := [("_law_k", 11)]) (N := N_law) (sc := defScope s_law) (by decide +kernel)) (fun _ _ _ _ _ => (pug_name 11 NN)) (fun _ _ _ _ _ => puts_nil) (fun _ _ _ _ _ => (pu_add (pu_fdiv (pu_call C__law_at hr (by decide) (pua_cons (pu_var 0) (pua_cons (pu_add pu_int (pu_mod (pu_var 11) pu_int)) pua_nil))) pu_int) (pu_mul pu_int (pu_var 11))))))) pub_nil)
    (pub_cons (pus_setLc 4 (own := [("_law_cell", 12)]) NN (pui_seq (pu_var 3)) (blkOk_by (own := [("_law_cell", 12)]) (N := N_law) (sc := defScope s_law) (by decide +kernel)) (fun _ _ _ _ _ => (pug_name 12 NN)) (fun _ _ _ _ _ => puts_nil) (fun _ _ _ _ _ => (pu_call C__law_row hr (by decide) (pua_cons (pu_var 12) (pua_cons (pu_var 1) (pua_cons (pu_var 2) (pua_cons (pu_len T.len (pua_cons (pu_var 3) pua_nil)) pua_nil)))))))
    (pub_cons (pus_if (put_eq (hu64 hr) (pu_mod (pu_fdiv (pu_call C__law_at hr (by decide) (pua_cons (pu_var 0) (pua_cons pu_int pua_nil))) pu_int) pu_int) pu_int) (pub_cons (pus_set 1 NN (pu_lst pua_nil))
    (pub_one (pus_setLc 4 (own := [("_law_row_here", 6)]) NN (pui_seq (pu_var 4)) (blkOk_by (own := [("_law_row_here", 6)]) (N := N_law) (sc := defScope s_law) (by decide +kernel)) (fun _ _ _ _ _ => (pug_name 6 NN)) (fun _ _ _ _ _ => (puts_one (put_in (hu65 hr) (pu_ix (hu1 hr) (pu_var 6) pu_int) (pu_tup (pua_cons pu_str (pua_cons pu_str (pua_cons pu_str (pua_cons pu_str (pua_cons pu_str (pua_cons pu_str pua_nil)))))))))) (fun _ _ _ _ _ => (pu_var 6))))) pub_nil)
    (pub_cons (pus_setNLc 5 (own := [("_law_plot", 13), ("_law_outer", 14)]) NN (pui_seq (pu_var 1)) (blkOk_by (own := [("_law_plot", 13), ("_law_outer", 14)]) (N := N_law) (sc := defScope s_law) (by decide +kernel)) (fun _ _ _ _ _ => (pug_tup (pugs_cons 13 NN (pugs_cons 14 NN pugs_nil)))) (fun _ _ _ _ _ => puts_nil) (fun _ _ _ _ _ => (pu_tup (pua_cons pu_str (pua_cons (pu_var 13) (pua_cons pu_bl pua_nil))))))
    (pub_cons (pus_for (pui_seq (pu_var 4)) (pug_name 6 NN) (pub_cons (pus_set 7 NN (pu_lst pua_nil))
    (pub_cons (pus_if (put_in (hu65 hr) (pu_ix (hu1 hr) (pu_var 6) pu_int) (pu_tup (pua_cons pu_str (pua_cons pu_str pua_nil)))) (pub_one (pus_set 7 NN (pu_lst (pua_cons (pu_ix (hu1 hr) (pu_var 6) pu_int) pua_nil)))) (pub_one (pus_if (put_in (hu65 hr) (pu_ix (hu1 hr) (pu_var 6) pu_int) (pu_tup (pua_cons pu_str (pua_cons pu_str (pua_cons pu_str pua_nil))))) (pub_one (pus_set 7 NN (pu_lst (pua_cons (pu_ix (hu1 hr) (pu_var 6) pu_int) (pua_cons (pu_ix (hu1 hr) (pu_var 6) pu_int) pua_nil))))) pub_nil)))
    (pub_one (pus_for (pui_seq (pu_var 7)) (pug_name 8 NN) (pub_one (pus_if (put_nin (hu65 hr) (pu_tup (pua_cons pu_str (pua_cons (pu_var 8) (pua_cons pu_non pua_nil)))) (pu_var 5)) (pub_one (pus_app (pul_name 5) (pn_flat (pu_tup (pua_cons pu_str (pua_cons (pu_var 8) (pua_cons pu_non pua_nil))))))) pub_nil)))))))
    (pub_cons (pus_set 9 NN (pu_lst (pua_cons (pu_lstc T.list (pua_cons (pu_var 1) pua_nil)) (pua_cons (pu_lstc T.list (pua_cons (pu_var 4) pua_nil)) pua_nil))))
    (pub_cons (pus_set 10 NN (pu_call C_at_first hr (by decide) (pua_cons (pu_ix (hu1 hr) (pu_var 9) pu_int) (pua_cons (pu_ix (hu1 hr) (pu_var 9) pu_int) pua_nil))))
    (pub_cons (pus_if (putw_or (put_not (put_val (pu_isi .list T.isinstance T.list (by decide +kernel) (pu_var 10)))) (putw_one_or (put_ne (hu64 hr) (pu_lc (own := [("_law_fact", 15)]) NN (pui_seq (pu_var 10)) (blkOk_by (own := [("_law_fact", 15)]) (N := N_law) (sc := defScope s_law) (by decide +kernel)) (fun _ _ _ _ _ => (pug_name 15 NN)) (fun _ _ _ _ _ => (puts_one (put_not (put_val (pu_call C__law_kind hr (by decide) (pua_cons (pu_var 15) pua_nil)))))) (fun _ _ _ _ _ => (pu_var 15))) (pu_lst pua_nil)))).pt (pub_one (pus_ret pu_bl)) pub_nil)
    (pub_one (pus_ret (pu_and (pu_eq (hu64 hr) (pu_var 10) (pu_var 5)) (pu_one (pu_eq (hu64 hr) (pu_var 9) (pu_lst (pua_cons (pu_var 1) (pua_cons (pu_var 4) pua_nil)))))))))))))))))))
end
end K06

namespace K06
open PySem L2 DL
theorem all_mk {l : PySem.W.OpenLaw} {w : World} {K : PySem.W.Frag} {h : Heap} {mg : Str → Option Value} {fa fl : Addr} {cm : Nat → Addr} (X : K.In h) (G : h.Ns mainGlobals mg) (hfa : mg "law" = some (.ref fa)) (zB : FactB K) (D_at_first : FactD K "at_first" s_at_first) (D__law_at : FactD K "_law_at" s__law_at) (D__law_called : FactD K "_law_called" s__law_called) (D__law_plots : FactD K "_law_plots" s__law_plots) (D__law_names : FactD K "_law_names" s__law_names) (D__law_row : FactD K "_law_row" s__law_row) (D__law_kind : FactD K "_law_kind" s__law_kind) (k_NAMED : KTab0 K w "NAMED" tab_NAMED)
    {od an : Option Addr} {sl : Array (Option Value)} {oc kV dc pm cd ct : Value} (a : PySem.W.nsIn K mainGlobals "law" = some (some (.ref fl))) (lk : K.lookup fl = some ⟨oc, od, .func (PySem.W.fnOf "law" "law" (defArgs s_law) (defBody s_law) (defScope s_law) .none kV dc pm an cd ct), sl⟩) (cc : PySem.W.codeIn K cd "law" = true) (kk : PySem.W.keepIn K (.ref fl) = true) :
    ∃ fd : FuncData, (∀ (s : Shared) (v : Value), BindsTo s fd ⟨[v], []⟩ [("_law_script", v)]) ∧ ∀ base : Heap, K.In base → base.Ns mainGlobals mg → FnOk l.prog w K mg base CX0 3 fa fd ["_law_script"] (spP K cm f_law) := by
  have e := hfa.symm.trans (PySem.W.mg_of X G a)
  cases e
  have T : Bm mg := zB.bm X G
  have k_NAMED := k_NAMED.at_ X G
  refine ⟨PySem.W.fnOf "law" "law" (defArgs s_law) (defBody s_law) (defScope s_law) .none kV dc pm an cd ct, fun s v => .of_eq rfl, fun base _ _ => ?_⟩
  have C_at_first : CalP l.prog w K mg base cm 1 "at_first" f_at_first := (D_at_first.at_ (ps := ["plots", "rows"]) X G fun _ _ _ _ _ _ us hl => match us, hl with | [_, _], _ => rfl).cal fun F => ok_at_first F T k_NAMED
  have C__law_at : CalP l.prog w K mg base cm 1 "_law_at" f__law_at := (D__law_at.at_ (ps := ["_law_script", "_law_k"]) X G fun _ _ _ _ _ _ us hl => match us, hl with | [_, _], _ => rfl).cal fun F => ok__law_at F T
  have C__law_called : CalP l.prog w K mg base cm 1 "_law_called" f__law_called := (D__law_called.at_ (ps := ["_law_cell", "_law_k", "_law_signs"]) X G fun _ _ _ _ _ _ us hl => match us, hl with | [_, _, _], _ => rfl).cal fun F => ok__law_called F T
  have C__law_plots : CalP l.prog w K mg base cm 2 "_law_plots" f__law_plots := (D__law_plots.at_ (ps := ["_law_script"]) X G fun _ _ _ _ _ _ us hl => match us, hl with | [_], _ => rfl).cal fun F => ok__law_plots F T C__law_at C__law_called
  have C__law_names : CalP l.prog w K mg base cm 2 "_law_names" f__law_names := (D__law_names.at_ (ps := ["_law_script", "_law_plots_here"]) X G fun _ _ _ _ _ _ us hl => match us, hl with | [_, _], _ => rfl).cal fun F => ok__law_names F T C__law_at C__law_called
  have C__law_row : CalP l.prog w K mg base cm 1 "_law_row" f__law_row := (D__law_row.at_ (ps := ["_law_cell", "_law_plots_here", "_law_names_here", "_law_size"]) X G fun _ _ _ _ _ _ us hl => match us, hl with | [_, _, _, _], _ => rfl).cal fun F => ok__law_row F T
  have C__law_kind : CalP l.prog w K mg base cm 1 "_law_kind" f__law_kind := (D__law_kind.at_ (ps := ["_law_fact"]) X G fun _ _ _ _ _ _ us hl => match us, hl with | [_], _ => rfl).cal fun F => ok__law_kind F T
  exact ok_law (fun_mk (st := s_law) lk cc kk) T C__law_plots C__law_names C__law_at C__law_row C_at_first C__law_kind
theorem walk {l : PySem.W.OpenLaw} {q : Program} {loose : List Str} {XP : (Str → Option Value) → Heap → Prop} {YP : World → Heap → Prop} {d : DefRec} {K : Params → PySem.W.Frag} (hn : l.most = some 63) (hdf : d.params.defaults = [])
    (hY : ∀ (w : World) (h : Heap), YP w h → (K w.params).In h)
    (F : ∀ (w : World) (mg : Str → Option Value) (fa : Addr) (h : Heap), (K w.params).In h → h.Ns mainGlobals mg → mg d.name = some (.ref fa) →
      ∃ (cm : Nat → Addr) (fd : FuncData), (∀ (s : Shared) (u : Value), BindsTo s fd ⟨[u], []⟩ [("_law_script", u)]) ∧ ∀ base : Heap, (K w.params).In base → base.Ns mainGlobals mg → FnOk l.prog w (K w.params) mg base CX0 3 fa fd ["_law_script"] (spP (K w.params) cm f_law)) :
    PySem.W.WalkO q loose XP YP l.row.toRowW d [] (fun f vs => PySem.call f vs) :=
  L2.walk_of (n := 63) (k := 3) (x := "_law_script") (CX := fun _ => CX0) (sp := fun w => spAny (K w.params) f_law) hn (by decide) hdf ⟨rfl, by decide, by decide⟩ hY (fun w mg fa h a b c => by
    obtain ⟨cm, fd, h1, h2⟩ := F w mg fa h a b c
    exact ⟨fd, h1, fun base i1 i2 => (h2 base i1 i2).imp fun vs H Q E z => z cm⟩) (fun w H a ns hl _ hS cm => law_sp (law_true ns hl) hS) fun _ _ _ _ _ z => z
end K06
open PySem PySem.W PyProof.Rows in
set_option maxRecDepth 100000 in
set_option maxHeartbeats 0 in
theorem PySem.Challenge.cw_plotfree_k06_facts_at_first_holds : PySem.Challenge.rw_plotfree_k06_facts_at_first.Holds := by
  w_on; o_law; k_head; (case hw => w_witness2)
  k_fill
  refine K06.walk (l := PySem.Challenge.rw_plotfree_k06_facts_at_first) rfl rfl (fun w h Y => PySem.W.kIn_of Y) ?F
  case F =>
    intro w mg fa h KX G hmg
    refine ⟨fun _ => 0, ?_⟩
    refine' K06.all_mk KX G hmg ?zB ?d0 ?d1 ?d2 ?d3 ?d4 ?d5 ?d6 ?t0 ?a ?l ?c ?k
    (case zB => exact ⟨by k_is, by k_is, by k_is, by k_is, by k_is, by k_is, by k_is, by k_is, by k_is, by k_is, by k_is, by k_is, by k_is⟩)
    (case d0 => exact DL.factD_mk (by k_is) (by k_is) (by k_is) (by k_is))
    (case d1 => exact DL.factD_mk (by k_is) (by k_is) (by k_is) (by k_is))
    (case d2 => exact DL.factD_mk (by k_is) (by k_is) (by k_is) (by k_is))
    (case d3 => exact DL.factD_mk (by k_is) (by k_is) (by k_is) (by k_is))
    (case d4 => exact DL.factD_mk (by k_is) (by k_is) (by k_is) (by k_is))
    (case d5 => exact DL.factD_mk (by k_is) (by k_is) (by k_is) (by k_is))
    (case d6 => exact DL.factD_mk (by k_is) (by k_is) (by k_is) (by k_is))
    (case t0 => refine' DL.ktab_mk ?ze ?zl ?zk ?zo ?zt; (case ze => k_is); (case zl => k_is); (case zk => k_keys); (case zo => decide); (case zt => exact (DL.kents_cons (DL.kent_some (by k_is)) (DL.kents_cons (DL.kent_some (by k_is)) (DL.kents_cons (DL.kent_some (by k_is)) (DL.kents_cons (DL.kent_some (by k_is)) (DL.kents_cons (DL.kent_some (by k_is)) (DL.kents_cons (DL.kent_none (by k_is)) (DL.kents_cons (DL.kent_none (by k_is)) (DL.kents_cons (DL.kent_none (by k_is)) (DL.kents_cons (DL.kent_none (by k_is)) (DL.kents_cons (DL.kent_none (by k_is)) DL.kents_nil))))))))))))
    (case a => k_is)
    (case l => k_is)
    (case c => k_is)
    (case k => k_is)
