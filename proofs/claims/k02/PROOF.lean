import PyProof.Rows.All
import Wide.All
import OpenK.AllK
import Wide.FinOn
import HandS.ForMost
import HandS.IsInst
import HandS.Deep
import HandS.Style
import HandS.SortInts
import KE.KDictKeyed
import HandS.TupAny
import HandS.HeadHook3
import HandS.Zip
import HandS.TryOnly
import HandS.Conv
import HandS.SetKeys
import HandS.Exc
import HandS.ExcInit
import HandS.ExcOwn
import HandS.ExcField
import HandS.WordsExc
import HandS.RaiseMore
import KE.KExcIs
import HandS.ExcIs
import PySem.Challenge.RW_plotfree_k02_what_runs_refuse
set_option Elab.async false
set_option linter.all false
set_option maxRecDepth 100000
set_option maxHeartbeats 4000000
/-! DL1: values as trees; what stands for them in the abstract heap. -/
namespace DL
open PySem L2

/-- data: flat things, the script, tuples, lists, dicts with keys ints and texts, instances (the class by number) -/
inductive D where
  | non | bl (b : Bool) | int (i : Int) | str (x : Str)
  | scr (ns : List Int) | wtp (xs : List Str) | tup (xs : List D) | lst (xs : List D) | dic (kvs : List (Key × D)) | ins (c : Nat) (fs : List (Str × D)) | dn (ks ds : List D) | adr (a : Addr)

theorem same_sqT {K : PySem.W.Frag} {H H' : Hp} {a : Addr} {xs : List V} (e : Same H H') (h : SqT K H a xs) : SqT K H' a xs := by
  rcases h with (h | ⟨o, h⟩) | h
  · exact .inl (.inl (e _ _ h))
  · exact .inl (.inr ⟨o, e _ _ h⟩)
  · exact .inr h
/-- what the relations lean on: the written part, the classes' addresses by number -/
structure Ga where
  K : PySem.W.Frag
  cm : Nat → Addr
  w : World

mutual
/-- data as a nested key -/
def nk : D → NestedKey
  | .bl b => .num (if b = true then 1 else 0)
  | .int i => .num i
  | .str x => .text x
  | .tup ds => .tup (nks ds)
  | _ => .none
def nks : List D → List NestedKey
  | [] => []
  | d :: r => nk d :: nks r
end
/-- an entry of a dict with nested keys, by the key's hash -/
def entN (w : World) (x : NestedKey × Addr × Value) : DictEntry := ⟨x.1.hash w, .ref x.2.1, x.2.2⟩
def RelN (p : NestedKey × Addr × V) (q : NestedKey × Addr × Value) : Prop := p.1 = q.1 ∧ p.2.1 = q.2.1 ∧ RelV p.2.2 q.2.2
def dnP (w : World) (a : Addr) (ys : List (NestedKey × Addr × V)) (h : Heap) : Prop := ys.length ≤ sizeLine ∧ (a == sysModules) = false ∧ ∃ xs, Paired RelN ys xs ∧
  ∃ o es ep, h.get? a = some o ∧ o.ExactDict ∧ o.data = .dict es ep ∧ es.toList = xs.map (entN w) ∧ (xs.map (·.1)).Nodup
/-- a dict with nested keys: its entries, and where their keys stand -/
def dnO (w : World) (a : Addr) (ys : List (NestedKey × Addr × V)) : HO := .ext (dnP w a ys)

mutual
/-- nothing in it that can be changed -/
def flat : D → Bool
  | .non | .bl _ | .int _ | .str _ => true
  | .tup ds => flats ds
  | _ => false
def flats : List D → Bool
  | [] => true
  | d :: ds => flat d && flats ds
end
/-- what may be a nested key -/
def nkOk : D → Bool
  | .tup ds => flats ds && decide (NestedKey.depthAll (nks ds) ≤ 7)
  | _ => false
mutual
def Is (Γ : Ga) (H : Hp) : D → V → Prop
  | .non, v => v = .non
  | .bl b, v => v = .bl b
  | .int i, v => v = .int i
  | .str x, v => v = .str x
  | .tup ds, v => ∃ a vs, v = .ref a ∧ H a = some (.tup vs) ∧ Iss Γ H ds vs
  | .scr ns, v => ∃ a, v = .ref a ∧ SqL Γ.K H a (ns.map V.int)
  | .wtp xs, v => ∃ a, v = .ref a ∧ SqT Γ.K H a (xs.map V.str)
  | .lst ds, v => ∃ a vs, v = .ref a ∧ H a = some (.lst vs) ∧ Iss Γ H ds vs
  | .dic kvs, v => ∃ a vs, v = .ref a ∧ H a = some (.dK vs) ∧ IsK Γ H kvs vs
  | .ins c fs, v => ∃ a dx vs, v = .ref a ∧ H a = some (.ins (Γ.cm c) dx vs) ∧ IsF Γ H fs vs
  | .dn ks ds, v => ∃ a ys, v = .ref a ∧ H a = some (dnO Γ.w a ys) ∧ ys.map (·.1) = nks ks ∧ ks.all nkOk = true ∧ flats ds = true ∧ Iss Γ H ks (ys.map fun y => .ref y.2.1) ∧ Iss Γ H ds (ys.map fun y => y.2.2)
  | .adr a, v => v = .ref a
def Iss (Γ : Ga) (H : Hp) : List D → List V → Prop
  | [], vs => vs = []
  | d :: ds, vs => ∃ v r, vs = v :: r ∧ Is Γ H d v ∧ Iss Γ H ds r
def IsK (Γ : Ga) (H : Hp) : List (Key × D) → List (Key × V) → Prop
  | [], vs => vs = []
  | (k, d) :: ds, vs => ∃ v r, vs = (k, v) :: r ∧ Is Γ H d v ∧ IsK Γ H ds r
def IsF (Γ : Ga) (H : Hp) : List (Str × D) → List (Str × V) → Prop
  | [], vs => vs = []
  | (k, d) :: ds, vs => ∃ v r, vs = (k, v) :: r ∧ Is Γ H d v ∧ IsF Γ H ds r
end

mutual
theorem Is.mono {Γ : Ga} {H H' : Hp} (e : Same H H') : ∀ {d : D} {v : V}, Is Γ H d v → Is Γ H' d v
  | .non, _, h => h
  | .bl _, _, h => h
  | .int _, _, h => h
  | .str _, _, h => h
  | .tup ds, v, h => by
    obtain ⟨a, vs, e1, h1, h2⟩ := h
    exact ⟨a, vs, e1, e _ _ h1, Iss.mono e h2⟩
  | .scr ns, v, h => by
    obtain ⟨a, e1, h1⟩ := h
    exact ⟨a, e1, e.seq h1⟩
  | .wtp xs, v, h => by
    obtain ⟨a, e1, h1⟩ := h
    exact ⟨a, e1, same_sqT e h1⟩
  | .lst ds, v, h => by
    obtain ⟨a, vs, e1, h1, h2⟩ := h
    exact ⟨a, vs, e1, e _ _ h1, Iss.mono e h2⟩
  | .dic kvs, v, h => by
    obtain ⟨a, vs, e1, h1, h2⟩ := h
    exact ⟨a, vs, e1, e _ _ h1, IsK.mono e h2⟩
  | .ins c fs, v, h => by
    obtain ⟨a, dx, vs, e1, h1, h2⟩ := h
    exact ⟨a, dx, vs, e1, e _ _ h1, IsF.mono e h2⟩
  | .dn ks ds, v, h => by
    obtain ⟨a, ys, e1, h1, h2, h3, h4, h5, h6⟩ := h
    exact ⟨a, ys, e1, e _ _ h1, h2, h3, h4, Iss.mono e h5, Iss.mono e h6⟩
  | .adr _, _, h => h
theorem Iss.mono {Γ : Ga} {H H' : Hp} (e : Same H H') : ∀ {d : List D} {v : List V}, Iss Γ H d v → Iss Γ H' d v
  | [], _, h => h
  | d :: ds, v, h => by
    obtain ⟨a, vs, e1, h1, h2⟩ := h
    exact ⟨a, vs, e1, Is.mono e h1, Iss.mono e h2⟩
theorem IsK.mono {Γ : Ga} {H H' : Hp} (e : Same H H') : ∀ {d : List (Key × D)} {v : List (Key × V)}, IsK Γ H d v → IsK Γ H' d v
  | [], _, h => h
  | (k, d) :: ds, v, h => by
    obtain ⟨a, vs, e1, h1, h2⟩ := h
    exact ⟨a, vs, e1, Is.mono e h1, IsK.mono e h2⟩
theorem IsF.mono {Γ : Ga} {H H' : Hp} (e : Same H H') : ∀ {d : List (Str × D)} {v : List (Str × V)}, IsF Γ H d v → IsF Γ H' d v
  | [], _, h => h
  | (k, d) :: ds, v, h => by
    obtain ⟨a, vs, e1, h1, h2⟩ := h
    exact ⟨a, vs, e1, Is.mono e h1, IsF.mono e h2⟩
end

/-- the tuples of a heap alone -/
def tupOf (H : Hp) : Hp := fun a => match H a with
  | some (.tup xs) => some (.tup xs)
  | _ => none
theorem tupOf_some {H : Hp} {a : Addr} {o : HO} (h : tupOf H a = some o) : H a = some o ∧ ∃ xs, o = .tup xs := by
  unfold tupOf at h
  split at h
  · rename_i xs e
    cases h
    exact ⟨e, xs, rfl⟩
  · cases h
theorem tupOf_tup {H : Hp} {a : Addr} {xs : List V} (h : H a = some (.tup xs)) : tupOf H a = some (.tup xs) := by
  unfold tupOf
  rw [h]
theorem tupOf_same {H : Hp} : Same (tupOf H) H := fun _ _ h => (tupOf_some h).1
theorem tupOf_mono {H H' : Hp} (e : ∀ a xs, H a = some (.tup xs) → H' a = some (.tup xs)) : Same (tupOf H) (tupOf H') := fun a o h => by
  obtain ⟨h1, xs, rfl⟩ := tupOf_some h
  exact tupOf_tup (e a xs h1)

mutual
theorem Is.ofFlat {Γ : Ga} {H : Hp} : ∀ {d : D} {v : V}, flat d = true → Is Γ H d v → Is Γ (tupOf H) d v
  | .non, _, _, h => h
  | .bl _, _, _, h => h
  | .int _, _, _, h => h
  | .str _, _, _, h => h
  | .tup ds, v, f, h => by
    obtain ⟨a, vs, e1, h1, h2⟩ := h
    refine ⟨a, vs, e1, ?_, Iss.ofFlat (by rw [flat] at f; exact f) h2⟩
    exact tupOf_tup h1
  | .scr _, _, f, _ => by simp [flat] at f
  | .wtp _, _, f, _ => by simp [flat] at f
  | .lst _, _, f, _ => by simp [flat] at f
  | .dic _, _, f, _ => by simp [flat] at f
  | .ins _ _, _, f, _ => by simp [flat] at f
  | .dn _ _, _, f, _ => by simp [flat] at f
  | .adr _, _, f, _ => by simp [flat] at f
theorem Iss.ofFlat {Γ : Ga} {H : Hp} : ∀ {d : List D} {v : List V}, flats d = true → Iss Γ H d v → Iss Γ (tupOf H) d v
  | [], _, _, h => h
  | d :: ds, v, f, h => by
    rw [flats, Bool.and_eq_true] at f
    obtain ⟨a, vs, e1, h1, h2⟩ := h
    exact ⟨a, vs, e1, Is.ofFlat f.1 h1, Iss.ofFlat f.2 h2⟩
end
end DL

/-! DL2: trees that are owned: their addresses, the way to a part, the part exchanged. -/
namespace DL
open PySem L2

/-- all tuples are kept -/
def TupK (H H' : Hp) : Prop := ∀ a xs, H a = some (.tup xs) → H' a = some (.tup xs)
theorem TupK.refl (H : Hp) : TupK H H := fun _ _ h => h
theorem TupK.trans {H H1 H2 : Hp} (a : TupK H H1) (b : TupK H1 H2) : TupK H H2 := fun c o h => b c o (a c o h)
theorem TupK.of {H H' : Hp} (e : Same H H') : TupK H H' := fun _ _ h => e _ _ h
theorem TupK.same {H H' : Hp} (e : TupK H H') : Same (tupOf H) (tupOf H') := tupOf_mono e
theorem TupK.upd {H : Hp} {a : Addr} {o : HO} (h : ∀ xs, H a ≠ some (.tup xs)) : TupK H (upd H a o) := fun b xs e => by
  rw [upd_ne]
  · exact e
  · rintro rfl
    exact h xs e

mutual
def Own (Γ : Ga) (H : Hp) : D → V → List Addr → Prop
  | .non, v, fp => v = .non ∧ fp = []
  | .bl b, v, fp => v = .bl b ∧ fp = []
  | .int i, v, fp => v = .int i ∧ fp = []
  | .str x, v, fp => v = .str x ∧ fp = []
  | .tup ds, v, fp => Is Γ (tupOf H) (.tup ds) v ∧ fp = []
  | .scr _, _, _ => False
  | .wtp _, _, _ => False
  | .lst ds, v, fp => ∃ a vs fq, v = .ref a ∧ H a = some (.lst vs) ∧ Owns Γ H ds vs fq ∧ fp = a :: fq
  | .dic kvs, v, fp => ∃ a vs fq, v = .ref a ∧ H a = some (.dK vs) ∧ OwnK Γ H kvs vs fq ∧ fp = a :: fq
  | .ins c fs, v, fp => ∃ a dx vs fq, v = .ref a ∧ H a = some (.ins (Γ.cm c) dx vs) ∧ OwnF Γ H fs vs fq ∧ fp = a :: fq
  | .dn ks ds, v, fp => ∃ a ys, v = .ref a ∧ H a = some (dnO Γ.w a ys) ∧ ys.map (·.1) = nks ks ∧ ks.all nkOk = true ∧ flats ds = true ∧ Iss Γ (tupOf H) ks (ys.map fun y => .ref y.2.1) ∧ Iss Γ (tupOf H) ds (ys.map fun y => y.2.2) ∧ fp = [a]
  | .adr a, v, fp => v = .ref a ∧ fp = []
def Owns (Γ : Ga) (H : Hp) : List D → List V → List Addr → Prop
  | [], vs, fp => vs = [] ∧ fp = []
  | d :: ds, vs, fp => ∃ v r f1 f2, vs = v :: r ∧ Own Γ H d v f1 ∧ Owns Γ H ds r f2 ∧ fp = f1 ++ f2
def OwnK (Γ : Ga) (H : Hp) : List (Key × D) → List (Key × V) → List Addr → Prop
  | [], vs, fp => vs = [] ∧ fp = []
  | (k, d) :: ds, vs, fp => ∃ v r f1 f2, vs = (k, v) :: r ∧ Own Γ H d v f1 ∧ OwnK Γ H ds r f2 ∧ fp = f1 ++ f2
def OwnF (Γ : Ga) (H : Hp) : List (Str × D) → List (Str × V) → List Addr → Prop
  | [], vs, fp => vs = [] ∧ fp = []
  | (k, d) :: ds, vs, fp => ∃ v r f1 f2, vs = (k, v) :: r ∧ Own Γ H d v f1 ∧ OwnF Γ H ds r f2 ∧ fp = f1 ++ f2
end

/- what stands in a region that has the tree's own objects and all tuples -/
mutual
theorem Own.isIn {Γ : Ga} {H R : Hp} (ht : Same (tupOf H) R) : ∀ {d : D} {v : V} {fp : List Addr}, (∀ a ∈ fp, R a = H a) → Own Γ H d v fp → Is Γ R d v
  | .non, _, _, _, h => h.1
  | .bl _, _, _, _, h => h.1
  | .int _, _, _, _, h => h.1
  | .str _, _, _, _, h => h.1
  | .tup _, _, _, _, h => Is.mono ht h.1
  | .scr _, _, _, _, h => nomatch (h : False)
  | .wtp _, _, _, _, h => nomatch (h : False)
  | .lst _, _, _, hf, ⟨a, vs, fq, e, h1, h2, ef⟩ => by
    subst ef
    exact ⟨a, vs, e, by rw [hf a (by simp), h1], Owns.isIn ht (fun b hb => hf b (by simp [hb])) h2⟩
  | .dic _, _, _, hf, ⟨a, vs, fq, e, h1, h2, ef⟩ => by
    subst ef
    exact ⟨a, vs, e, by rw [hf a (by simp), h1], OwnK.isIn ht (fun b hb => hf b (by simp [hb])) h2⟩
  | .ins _ _, _, _, hf, ⟨a, dx, vs, fq, e, h1, h2, ef⟩ => by
    subst ef
    exact ⟨a, dx, vs, e, by rw [hf a (by simp), h1], OwnF.isIn ht (fun b hb => hf b (by simp [hb])) h2⟩
  | .dn _ _, _, _, hf, ⟨a, ys, e, h1, h2, h3, h4, h5, h6, ef⟩ => by
    subst ef
    exact ⟨a, ys, e, by rw [hf a (by simp), h1], h2, h3, h4, Iss.mono ht h5, Iss.mono ht h6⟩
  | .adr _, _, _, _, h => h.1
theorem Owns.isIn {Γ : Ga} {H R : Hp} (ht : Same (tupOf H) R) : ∀ {d : List D} {v : List V} {fp : List Addr}, (∀ a ∈ fp, R a = H a) → Owns Γ H d v fp → Iss Γ R d v
  | [], _, _, _, h => h.1
  | _ :: _, _, _, hf, ⟨v, r, f1, f2, e, h1, h2, ef⟩ => by
    subst ef
    exact ⟨v, r, e, Own.isIn ht (fun b hb => hf b (by simp [hb])) h1, Owns.isIn ht (fun b hb => hf b (by simp [hb])) h2⟩
theorem OwnK.isIn {Γ : Ga} {H R : Hp} (ht : Same (tupOf H) R) : ∀ {d : List (Key × D)} {v : List (Key × V)} {fp : List Addr}, (∀ a ∈ fp, R a = H a) → OwnK Γ H d v fp → IsK Γ R d v
  | [], _, _, _, h => h.1
  | (_, _) :: _, _, _, hf, ⟨v, r, f1, f2, e, h1, h2, ef⟩ => by
    subst ef
    exact ⟨v, r, e, Own.isIn ht (fun b hb => hf b (by simp [hb])) h1, OwnK.isIn ht (fun b hb => hf b (by simp [hb])) h2⟩
theorem OwnF.isIn {Γ : Ga} {H R : Hp} (ht : Same (tupOf H) R) : ∀ {d : List (Str × D)} {v : List (Str × V)} {fp : List Addr}, (∀ a ∈ fp, R a = H a) → OwnF Γ H d v fp → IsF Γ R d v
  | [], _, _, _, h => h.1
  | (_, _) :: _, _, _, hf, ⟨v, r, f1, f2, e, h1, h2, ef⟩ => by
    subst ef
    exact ⟨v, r, e, Own.isIn ht (fun b hb => hf b (by simp [hb])) h1, OwnF.isIn ht (fun b hb => hf b (by simp [hb])) h2⟩
end
theorem Own.is {Γ : Ga} {H : Hp} {d : D} {v : V} {fp : List Addr} (h : Own Γ H d v fp) : Is Γ H d v := h.isIn tupOf_same fun _ _ => rfl

mutual
theorem Own.keep {Γ : Ga} {H H' : Hp} (ht : TupK H H') : ∀ {d : D} {v : V} {fp : List Addr}, (∀ a ∈ fp, H' a = H a) → Own Γ H d v fp → Own Γ H' d v fp
  | .non, _, _, _, h => h
  | .bl _, _, _, _, h => h
  | .int _, _, _, _, h => h
  | .str _, _, _, _, h => h
  | .tup _, _, _, _, h => ⟨Is.mono ht.same h.1, h.2⟩
  | .scr _, _, _, _, h => nomatch (h : False)
  | .wtp _, _, _, _, h => nomatch (h : False)
  | .lst _, _, _, hf, ⟨a, vs, fq, e, h1, h2, ef⟩ => by
    subst ef
    exact ⟨a, vs, fq, e, by rw [hf a (by simp), h1], Owns.keep ht (fun b hb => hf b (by simp [hb])) h2, rfl⟩
  | .dic _, _, _, hf, ⟨a, vs, fq, e, h1, h2, ef⟩ => by
    subst ef
    exact ⟨a, vs, fq, e, by rw [hf a (by simp), h1], OwnK.keep ht (fun b hb => hf b (by simp [hb])) h2, rfl⟩
  | .ins _ _, _, _, hf, ⟨a, dx, vs, fq, e, h1, h2, ef⟩ => by
    subst ef
    exact ⟨a, dx, vs, fq, e, by rw [hf a (by simp), h1], OwnF.keep ht (fun b hb => hf b (by simp [hb])) h2, rfl⟩
  | .dn _ _, _, _, hf, ⟨a, ys, e, h1, h2, h3, h4, h5, h6, ef⟩ => by
    subst ef
    exact ⟨a, ys, e, by rw [hf a (by simp), h1], h2, h3, h4, Iss.mono ht.same h5, Iss.mono ht.same h6, rfl⟩
  | .adr _, _, _, _, h => h
theorem Owns.keep {Γ : Ga} {H H' : Hp} (ht : TupK H H') : ∀ {d : List D} {v : List V} {fp : List Addr}, (∀ a ∈ fp, H' a = H a) → Owns Γ H d v fp → Owns Γ H' d v fp
  | [], _, _, _, h => h
  | _ :: _, _, _, hf, ⟨v, r, f1, f2, e, h1, h2, ef⟩ => by
    subst ef
    exact ⟨v, r, f1, f2, e, Own.keep ht (fun b hb => hf b (by simp [hb])) h1, Owns.keep ht (fun b hb => hf b (by simp [hb])) h2, rfl⟩
theorem OwnK.keep {Γ : Ga} {H H' : Hp} (ht : TupK H H') : ∀ {d : List (Key × D)} {v : List (Key × V)} {fp : List Addr}, (∀ a ∈ fp, H' a = H a) → OwnK Γ H d v fp → OwnK Γ H' d v fp
  | [], _, _, _, h => h
  | (_, _) :: _, _, _, hf, ⟨v, r, f1, f2, e, h1, h2, ef⟩ => by
    subst ef
    exact ⟨v, r, f1, f2, e, Own.keep ht (fun b hb => hf b (by simp [hb])) h1, OwnK.keep ht (fun b hb => hf b (by simp [hb])) h2, rfl⟩
theorem OwnF.keep {Γ : Ga} {H H' : Hp} (ht : TupK H H') : ∀ {d : List (Str × D)} {v : List (Str × V)} {fp : List Addr}, (∀ a ∈ fp, H' a = H a) → OwnF Γ H d v fp → OwnF Γ H' d v fp
  | [], _, _, _, h => h
  | (_, _) :: _, _, _, hf, ⟨v, r, f1, f2, e, h1, h2, ef⟩ => by
    subst ef
    exact ⟨v, r, f1, f2, e, Own.keep ht (fun b hb => hf b (by simp [hb])) h1, OwnF.keep ht (fun b hb => hf b (by simp [hb])) h2, rfl⟩
end

/-- what may be changed: a list, a dict, an instance -/
def Box : HO → Prop
  | .lst _ | .dK _ | .ins _ _ _ | .ext _ => True
  | _ => False
theorem Box.notTup {o : HO} (h : Box o) (xs : List V) : o ≠ .tup xs := by rintro rfl; exact h
theorem Box.notFrz {o u : HO} {ob : Obj} (h : Box o) : o ≠ .frz ob u := by rintro rfl; exact h
mutual
theorem Own.box {Γ : Ga} {H : Hp} : ∀ {d : D} {v : V} {fp : List Addr}, Own Γ H d v fp → ∀ a ∈ fp, ∃ o, H a = some o ∧ Box o
  | .non, _, _, h, a, ha => by rw [h.2] at ha; cases ha
  | .bl _, _, _, h, a, ha => by rw [h.2] at ha; cases ha
  | .int _, _, _, h, a, ha => by rw [h.2] at ha; cases ha
  | .str _, _, _, h, a, ha => by rw [h.2] at ha; cases ha
  | .tup _, _, _, h, a, ha => by rw [h.2] at ha; cases ha
  | .scr _, _, _, h, _, _ => nomatch (h : False)
  | .wtp _, _, _, h, _, _ => nomatch (h : False)
  | .lst _, _, _, ⟨b, vs, fq, e, h1, h2, ef⟩, a, ha => by
    subst ef
    rcases List.mem_cons.mp ha with rfl | ha
    · exact ⟨_, h1, trivial⟩
    · exact Owns.box h2 a ha
  | .dic _, _, _, ⟨b, vs, fq, e, h1, h2, ef⟩, a, ha => by
    subst ef
    rcases List.mem_cons.mp ha with rfl | ha
    · exact ⟨_, h1, trivial⟩
    · exact OwnK.box h2 a ha
  | .ins _ _, _, _, ⟨b, dx, vs, fq, e, h1, h2, ef⟩, a, ha => by
    subst ef
    rcases List.mem_cons.mp ha with rfl | ha
    · exact ⟨_, h1, trivial⟩
    · exact OwnF.box h2 a ha
  | .dn _ _, _, _, ⟨b, ys, e, h1, h2, h3, h4, h5, h6, ef⟩, a, ha => by
    subst ef
    cases List.mem_singleton.mp ha
    exact ⟨_, h1, trivial⟩
  | .adr _, _, _, h, a, ha => by rw [h.2] at ha; cases ha
theorem Owns.box {Γ : Ga} {H : Hp} : ∀ {d : List D} {v : List V} {fp : List Addr}, Owns Γ H d v fp → ∀ a ∈ fp, ∃ o, H a = some o ∧ Box o
  | [], _, _, h, a, ha => by rw [h.2] at ha; cases ha
  | _ :: _, _, _, ⟨v, r, f1, f2, e, h1, h2, ef⟩, a, ha => by
    subst ef
    rcases List.mem_append.mp ha with ha | ha
    · exact Own.box h1 a ha
    · exact Owns.box h2 a ha
theorem OwnK.box {Γ : Ga} {H : Hp} : ∀ {d : List (Key × D)} {v : List (Key × V)} {fp : List Addr}, OwnK Γ H d v fp → ∀ a ∈ fp, ∃ o, H a = some o ∧ Box o
  | [], _, _, h, a, ha => by rw [h.2] at ha; cases ha
  | (_, _) :: _, _, _, ⟨v, r, f1, f2, e, h1, h2, ef⟩, a, ha => by
    subst ef
    rcases List.mem_append.mp ha with ha | ha
    · exact Own.box h1 a ha
    · exact OwnK.box h2 a ha
theorem OwnF.box {Γ : Ga} {H : Hp} : ∀ {d : List (Str × D)} {v : List (Str × V)} {fp : List Addr}, OwnF Γ H d v fp → ∀ a ∈ fp, ∃ o, H a = some o ∧ Box o
  | [], _, _, h, a, ha => by rw [h.2] at ha; cases ha
  | (_, _) :: _, _, _, ⟨v, r, f1, f2, e, h1, h2, ef⟩, a, ha => by
    subst ef
    rcases List.mem_append.mp ha with ha | ha
    · exact Own.box h1 a ha
    · exact OwnF.box h2 a ha
end

/-- a flat thing owns nothing -/
theorem Own.ofFlat {Γ : Ga} {H : Hp} {d : D} {v : V} (f : flat d = true) (h : Is Γ H d v) : Own Γ H d v [] := by
  have q := Is.ofFlat f h
  cases d with
  | non => exact ⟨h, rfl⟩
  | bl => exact ⟨h, rfl⟩
  | int => exact ⟨h, rfl⟩
  | str => exact ⟨h, rfl⟩
  | tup => exact ⟨q, rfl⟩
  | scr => simp [flat] at f
  | wtp => simp [flat] at f
  | dn => simp [flat] at f
  | adr => simp [flat] at f
  | lst => simp [flat] at f
  | dic => simp [flat] at f
  | ins => simp [flat] at f
theorem Owns.ofFlat {Γ : Ga} {H : Hp} : ∀ {d : List D} {v : List V}, flats d = true → Iss Γ H d v → Owns Γ H d v []
  | [], _, _, h => ⟨h, rfl⟩
  | _ :: _, _, f, ⟨v, r, e, h1, h2⟩ => by
    rw [flats, Bool.and_eq_true] at f
    exact ⟨v, r, [], [], e, Own.ofFlat f.1 h1, Owns.ofFlat f.2 h2, rfl⟩

/-! ### the way to a part -/
inductive Stp where
  | ix (i : Nat) | ky (k : Key) | fd (f : Str)
def getK : List (Key × D) → Key → Option D
  | [], _ => none
  | (k, d) :: r, j => if k = j then some d else getK r j
def repK : List (Key × D) → Key → D → List (Key × D)
  | [], _, _ => []
  | (k, d) :: r, j, x => if k = j then (k, x) :: r else (k, d) :: repK r j x
def getF : List (Str × D) → Str → Option D
  | [], _ => none
  | (k, d) :: r, j => if k = j then some d else getF r j
def repF : List (Str × D) → Str → D → List (Str × D)
  | [], _, _ => []
  | (k, d) :: r, j, x => if k = j then (k, x) :: r else (k, d) :: repF r j x
def dget : D → Stp → Option D
  | .lst ds, .ix i => ds[i]?
  | .dic kvs, .ky k => getK kvs k
  | .ins _ fs, .fd f => getF fs f
  | _, _ => none
def drep : D → Stp → D → D
  | .lst ds, .ix i, x => .lst (ds.set i x)
  | .dic kvs, .ky k, x => .dic (repK kvs k x)
  | .ins c fs, .fd f, x => .ins c (repF fs f x)
  | d, _, _ => d
def dgets : D → List Stp → Option D
  | d, [] => some d
  | d, s :: r => (dget d s).bind fun e => dgets e r
def dreps : D → List Stp → D → D
  | _, [], x => x
  | d, s :: r, x => match dget d s with
    | some e => drep d s (dreps e r x)
    | none => d
/-- the same in the heap -/
def vget (H : Hp) : V → Stp → Option V
  | .ref a, .ix i => match H a with
    | some (.lst vs) => vs[i]?
    | _ => none
  | .ref a, .ky k => match H a with
    | some (.dK vs) => valV vs k
    | _ => none
  | .ref a, .fd f => match H a with
    | some (.ins _ _ vs) => vs.lookup f
    | _ => none
  | _, _ => none
def vgets (H : Hp) : V → List Stp → Option V
  | v, [] => some v
  | v, s :: r => (vget H v s).bind fun e => vgets H e r

/-- a part d' (value v', addresses fq) of what owns fp: all the rest is l and r -/
structure Part (Γ : Ga) (H : Hp) (d : D) (v : V) (fp : List Addr) (rep : D → D) (d' : D) (v' : V) : Prop where
  ex : ∃ l fq r, fp = l ++ fq ++ r ∧ Own Γ H d' v' fq ∧
    ∀ (H' : Hp) (x : D) (fx : List Addr), (∀ a ∈ l ++ r, H' a = H a) → TupK H H' → Own Γ H' x v' fx → Own Γ H' (rep x) v (l ++ fx ++ r)

theorem Owns.part {Γ : Ga} {H : Hp} : ∀ {ds : List D} {vs : List V} {fp : List Addr} {i : Nat} {d' : D}, Owns Γ H ds vs fp → ds[i]? = some d' →
    ∃ v', vs[i]? = some v' ∧ ∃ l fq r, fp = l ++ fq ++ r ∧ Own Γ H d' v' fq ∧
    ∀ (H' : Hp) (x : D) (fx : List Addr), (∀ a ∈ l ++ r, H' a = H a) → TupK H H' → Own Γ H' x v' fx → Owns Γ H' (ds.set i x) vs (l ++ fx ++ r)
  | [], _, _, i, _, _, e => by simp at e
  | d :: ds, _, _, 0, d', ⟨v, r, f1, f2, e, h1, h2, ef⟩, q => by
    subst e ef
    cases (Option.some.inj q : d = d')
    exact ⟨v, rfl, [], f1, f2, rfl, h1, fun H' x fx hk ht hx => ⟨v, r, fx, f2, rfl, hx, Owns.keep ht (fun a ha => hk a (by simpa using ha)) h2, rfl⟩⟩
  | d :: ds, _, _, i + 1, d', ⟨v, r, f1, f2, e, h1, h2, ef⟩, q => by
    subst e ef
    obtain ⟨v', e', l, fq, r', e2, ho, hk⟩ := Owns.part h2 (i := i) (d' := d') (by simpa using q)
    subst e2
    refine ⟨v', by simpa using e', f1 ++ l, fq, r', by simp, ho, fun H' x fx hh ht hx => ?_⟩
    refine ⟨v, r, f1, l ++ fx ++ r', rfl, Own.keep ht (fun a ha => hh a (by simp [ha])) h1, hk H' x fx (fun a ha => hh a ?_) ht hx, by simp⟩
    rcases List.mem_append.mp ha with ha | ha <;> simp [ha]
theorem OwnK.part {Γ : Ga} {H : Hp} : ∀ {ds : List (Key × D)} {vs : List (Key × V)} {fp : List Addr} {k : Key} {d' : D}, OwnK Γ H ds vs fp → getK ds k = some d' →
    ∃ v', valV vs k = some v' ∧ ∃ l fq r, fp = l ++ fq ++ r ∧ Own Γ H d' v' fq ∧
    ∀ (H' : Hp) (x : D) (fx : List Addr), (∀ a ∈ l ++ r, H' a = H a) → TupK H H' → Own Γ H' x v' fx → OwnK Γ H' (repK ds k x) vs (l ++ fx ++ r)
  | [], _, _, _, _, _, e => by simp [getK] at e
  | (k0, d) :: ds, _, _, k, d', ⟨v, r, f1, f2, e, h1, h2, ef⟩, q => by
    subst e ef
    rw [getK] at q
    by_cases hk0 : k0 = k
    · rw [if_pos hk0] at q
      cases (Option.some.inj q : d = d')
      refine ⟨v, valV_pos (p := (k0, v)) hk0, [], f1, f2, rfl, h1, fun H' x fx hk ht hx => ?_⟩
      rw [repK, if_pos hk0]
      exact ⟨v, r, fx, f2, rfl, hx, OwnK.keep ht (fun a ha => hk a (by simpa using ha)) h2, rfl⟩
    · rw [if_neg hk0] at q
      obtain ⟨v', e', l, fq, r', e2, ho, hk⟩ := OwnK.part h2 q
      subst e2
      refine ⟨v', (valV_neg (p := (k0, v)) hk0).trans e', f1 ++ l, fq, r', by simp, ho, fun H' x fx hh ht hx => ?_⟩
      rw [repK, if_neg hk0]
      refine ⟨v, r, f1, l ++ fx ++ r', rfl, Own.keep ht (fun a ha => hh a (by simp [ha])) h1, hk H' x fx (fun a ha => hh a ?_) ht hx, by simp⟩
      rcases List.mem_append.mp ha with ha | ha <;> simp [ha]
theorem lookup_pos {k : Str} {v : V} {r : List (Str × V)} : List.lookup k ((k, v) :: r) = some v := by rw [List.lookup_cons, beq_self_eq_true]
theorem lookup_neg {k j : Str} {v : V} {r : List (Str × V)} (h : ¬ k = j) : List.lookup j ((k, v) :: r) = List.lookup j r := by
  rw [List.lookup_cons, beq_eq_false_iff_ne.mpr (fun e => h e.symm)]
theorem OwnF.part {Γ : Ga} {H : Hp} : ∀ {ds : List (Str × D)} {vs : List (Str × V)} {fp : List Addr} {k : Str} {d' : D}, OwnF Γ H ds vs fp → getF ds k = some d' →
    ∃ v', vs.lookup k = some v' ∧ ∃ l fq r, fp = l ++ fq ++ r ∧ Own Γ H d' v' fq ∧
    ∀ (H' : Hp) (x : D) (fx : List Addr), (∀ a ∈ l ++ r, H' a = H a) → TupK H H' → Own Γ H' x v' fx → OwnF Γ H' (repF ds k x) vs (l ++ fx ++ r)
  | [], _, _, _, _, _, e => by simp [getF] at e
  | (k0, d) :: ds, _, _, k, d', ⟨v, r, f1, f2, e, h1, h2, ef⟩, q => by
    subst e ef
    rw [getF] at q
    by_cases hk0 : k0 = k
    · rw [if_pos hk0] at q
      cases (Option.some.inj q : d = d')
      refine ⟨v, by rw [hk0]; exact lookup_pos, [], f1, f2, rfl, h1, fun H' x fx hk ht hx => ?_⟩
      rw [repF, if_pos hk0]
      exact ⟨v, r, fx, f2, rfl, hx, OwnF.keep ht (fun a ha => hk a (by simpa using ha)) h2, rfl⟩
    · rw [if_neg hk0] at q
      obtain ⟨v', e', l, fq, r', e2, ho, hk⟩ := OwnF.part h2 q
      subst e2
      refine ⟨v', (lookup_neg hk0).trans e', f1 ++ l, fq, r', by simp, ho, fun H' x fx hh ht hx => ?_⟩
      rw [repF, if_neg hk0]
      refine ⟨v, r, f1, l ++ fx ++ r', rfl, Own.keep ht (fun a ha => hh a (by simp [ha])) h1, hk H' x fx (fun a ha => hh a ?_) ht hx, by simp⟩
      rcases List.mem_append.mp ha with ha | ha <;> simp [ha]

theorem Own.part1 {Γ : Ga} {H : Hp} {d : D} {v : V} {fp : List Addr} {s : Stp} {d' : D} (h : Own Γ H d v fp) (g : dget d s = some d') :
    ∃ v', vget H v s = some v' ∧ Part Γ H d v fp (drep d s) d' v' := by
  cases d with
  | lst ds =>
    cases s with
    | ix i =>
      obtain ⟨a, vs, fq, rfl, h1, h2, rfl⟩ := h
      obtain ⟨v', e', l, fq', r, rfl, ho, hk⟩ := h2.part g
      refine ⟨v', by simp only [vget, h1]; exact e', ⟨a :: l, fq', r, by simp, ho, fun H' x fx hh ht hx => ?_⟩⟩
      exact ⟨a, vs, l ++ fx ++ r, rfl, by rw [hh a (by simp), h1], hk H' x fx (fun b hb => hh b (by simp only [List.cons_append]; exact List.mem_cons_of_mem _ hb)) ht hx, by simp⟩
    | ky => simp [dget] at g
    | fd => simp [dget] at g
  | dic ds =>
    cases s with
    | ky k =>
      obtain ⟨a, vs, fq, rfl, h1, h2, rfl⟩ := h
      obtain ⟨v', e', l, fq', r, rfl, ho, hk⟩ := h2.part g
      refine ⟨v', by simp only [vget, h1]; exact e', ⟨a :: l, fq', r, by simp, ho, fun H' x fx hh ht hx => ?_⟩⟩
      exact ⟨a, vs, l ++ fx ++ r, rfl, by rw [hh a (by simp), h1], hk H' x fx (fun b hb => hh b (by simp only [List.cons_append]; exact List.mem_cons_of_mem _ hb)) ht hx, by simp⟩
    | ix => simp [dget] at g
    | fd => simp [dget] at g
  | ins c ds =>
    cases s with
    | fd k =>
      obtain ⟨a, dx, vs, fq, rfl, h1, h2, rfl⟩ := h
      obtain ⟨v', e', l, fq', r, rfl, ho, hk⟩ := h2.part g
      refine ⟨v', by simp only [vget, h1]; exact e', ⟨a :: l, fq', r, by simp, ho, fun H' x fx hh ht hx => ?_⟩⟩
      exact ⟨a, dx, vs, l ++ fx ++ r, rfl, by rw [hh a (by simp), h1], hk H' x fx (fun b hb => hh b (by simp only [List.cons_append]; exact List.mem_cons_of_mem _ hb)) ht hx, by simp⟩
    | ix => simp [dget] at g
    | ky => simp [dget] at g
  | _ => cases s <;> simp [dget] at g

theorem Own.parts {Γ : Ga} {H : Hp} : ∀ {p : List Stp} {d : D} {v : V} {fp : List Addr} {d' : D}, Own Γ H d v fp → dgets d p = some d' →
    ∃ v', vgets H v p = some v' ∧ Part Γ H d v fp (dreps d p) d' v'
  | [], d, v, fp, d', h, g => by
    cases (Option.some.inj g : d = d')
    exact ⟨v, rfl, ⟨[], fp, [], by simp, h, fun H' x fx _ _ hx => by simpa [dreps] using hx⟩⟩
  | s :: p, d, v, fp, d', h, g => by
    rw [dgets] at g
    cases e : dget d s with
    | none => rw [e] at g; cases g
    | some d1 =>
      rw [e] at g
      obtain ⟨v1, e1, ⟨l, fq, r, rfl, ho, hk⟩⟩ := h.part1 e
      obtain ⟨v', e', ⟨l2, fq2, r2, rfl, ho2, hk2⟩⟩ := Own.parts ho g
      refine ⟨v', by rw [vgets, e1]; exact e', ⟨l ++ l2, fq2, r2 ++ r, by simp, ho2, fun H' x fx hh ht hx => ?_⟩⟩
      rw [dreps, e]
      have a1 := hk2 H' x fx (fun a ha => hh a (by rcases List.mem_append.mp ha with ha | ha <;> simp [ha])) ht hx
      have a2 := hk H' _ _ (fun a ha => hh a (by rcases List.mem_append.mp ha with ha | ha <;> simp [ha])) ht a1
      simpa using a2
end DL

/-! DL3: the slots of a def and what stands in them; expressions as functions of the slots. -/
namespace DL
open PySem L2

/-- a slot: nothing known; an argument that is read; a name for it; a thing made here that is read; an argument that is changed; a thing made here that is changed -/
inductive Sl where
  | emp | fz (d : D) | fa (d : D) | fn (d : D) | ow (d : D) | on (d : D) | ol (ds : List D)
abbrev Ev := List Sl
/-- where a value comes from: a part of what is changed here, of an argument that is read, or made here (or flat) -/
inductive Md where
  | own | par | new
/-- what is fixed through a def: the heap at its entry, what of it stays, what may be changed, the slots -/
structure Fx where
  H0 : Hp
  Kp : Hp
  P : Addr → Prop
  s0 : St

def SlotAt (Γ : Ga) (x : Fx) (B H : Hp) (i : Nat) (o : Option (Option V)) (fp : List Addr) : Sl → Prop
  | .emp => fp = []
  | .fz d => fp = [] ∧ ∃ v, o = some (some v) ∧ Is Γ x.Kp d v ∧ x.s0[i]? = some (some v)
  | .fa d => fp = [] ∧ ∃ v, o = some (some v) ∧ Is Γ x.Kp d v
  | .fn d => fp = [] ∧ ∃ v, o = some (some v) ∧ Is Γ B d v
  | .ow d => ∃ v, o = some (some v) ∧ Own Γ H d v fp ∧ x.s0[i]? = some (some v)
  | .on d => ∃ v, o = some (some v) ∧ Own Γ H d v fp ∧ ∀ a ∈ fp, x.H0 a = none
  | .ol ds => ∃ a vs, o = some (some (.ref a)) ∧ fp = [a] ∧ H a = some (.lst vs) ∧ Iss Γ B ds vs ∧ x.H0 a = none

structure Ok (Γ : Ga) (x : Fx) (B : Hp) (F : Nat → List Addr) (ρ : Ev) (σ : St) (H : Hp) : Prop where
  kp : Same x.Kp H
  bh : Same B H
  tup : ∀ a xs, H a = some (.tup xs) → B a = some (.tup xs)
  born : ∀ a o, B a = some o → (∃ xs, o = .tup xs) ∨ x.H0 a = none
  bk : ∀ a o, B a = some o → (∃ xs, o = .tup xs) ∨ x.Kp a = none
  dom : ∀ a, H a = none → x.H0 a = none
  fk : ∀ i a, a ∈ F i → x.Kp a = none ∧ B a = none ∧ (x.P a ∨ x.H0 a = none)
  dj : ∀ i j a, a ∈ F i → a ∈ F j → i = j
  nd : ∀ i, (F i).Nodup
  out : ∀ i, ρ.length ≤ i → F i = []
  len : ρ.length = σ.length
  at_ : ∀ (i : Nat) (s : Sl), ρ[i]? = some s → SlotAt Γ x B H i σ[i]? (F i) s

def Val (Γ : Ga) (x : Fx) (m : Md) (B H : Hp) (d : D) (v : V) : Prop := match m with
  | .own => Is Γ H d v
  | .par => Is Γ x.Kp d v
  | .new => Is Γ B d v

section
variable {Γ : Ga} {x : Fx} {B : Hp} {F : Nat → List Addr} {ρ : Ev} {σ : St} {H H' : Hp}
theorem Ok.box (o : Ok Γ x B F ρ σ H) {i : Nat} {a : Addr} (h : a ∈ F i) : ∃ u, H a = some u ∧ Box u := by
  by_cases hi : i < ρ.length
  · have q := o.at_ i ρ[i] (List.getElem?_eq_getElem hi)
    revert q
    cases ρ[i] with
    | emp => intro q; rw [show F i = [] from q] at h; cases h
    | fz => intro q; rw [q.1] at h; cases h
    | fa => intro q; rw [q.1] at h; cases h
    | fn => intro q; rw [q.1] at h; cases h
    | ow => intro ⟨v, _, q, _⟩; exact q.box a h
    | on => intro ⟨v, _, q, _⟩; exact q.box a h
    | ol =>
      intro ⟨b, vs, _, q, q3, _⟩
      rw [q] at h
      have h : a = b := List.mem_singleton.mp h
      subst h
      exact ⟨_, q3, trivial⟩
  · rw [o.out i (by omega)] at h
    cases h
theorem Ok.grow {B' : Hp} (o : Ok Γ x B F ρ σ H) (e : Same H H') (eb : Same B B') (bh : Same B' H') (tup : ∀ a xs, H' a = some (.tup xs) → B' a = some (.tup xs))
    (new : ∀ a u, B' a = some u → (∃ xs, u = .tup xs) ∨ B a = some u ∨ H a = none) : Ok Γ x B' F ρ σ H' where
  kp := o.kp.trans e
  bh := bh
  tup := tup
  born := fun a u h => by
    rcases new a u h with h1 | h1 | h1
    · exact .inl h1
    · exact o.born a u h1
    · exact .inr (o.dom a h1)
  bk := fun a u h => by
    rcases new a u h with h1 | h1 | h1
    · exact .inl h1
    · exact o.bk a u h1
    · exact .inr (o.kp.free h1)
  dom := fun a h => o.dom a (e.free h)
  fk := fun i a h => by
    obtain ⟨h1, h2, h3⟩ := o.fk i a h
    obtain ⟨u, hu, bx⟩ := o.box h
    refine ⟨h1, ?_, h3⟩
    cases q : B' a with
    | none => rfl
    | some w =>
      have hw := bh a w q
      rw [e a u hu] at hw
      cases hw
      rcases new a u q with ⟨xs, rfl⟩ | h4 | h4
      · exact bx.elim
      · rw [h2] at h4; cases h4
      · rw [hu] at h4; cases h4
  dj := o.dj
  nd := o.nd
  out := o.out
  len := o.len
  at_ := fun i s h => by
    have q := o.at_ i s h
    have hk : ∀ a ∈ F i, H' a = H a := fun a ha => by
      obtain ⟨u, hu, _⟩ := o.box ha
      rw [hu, e a u hu]
    cases s with
    | emp => exact q
    | fz => exact q
    | fa => exact q
    | fn => obtain ⟨q1, v, q2, q3⟩ := q; exact ⟨q1, v, q2, q3.mono eb⟩
    | ow => obtain ⟨v, q1, q2, q3⟩ := q; exact ⟨v, q1, q2.keep (TupK.of e) hk, q3⟩
    | on => obtain ⟨v, q1, q2, q3⟩ := q; exact ⟨v, q1, q2.keep (TupK.of e) hk, q3⟩
    | ol => obtain ⟨b, vs, q1, q2, q3, q4, q5⟩ := q; exact ⟨b, vs, q1, q2, e _ _ q3, q4.mono eb, q5⟩

/-- from the region B of the heap H to B' of H': all stays; B' has what is new besides -/
structure Gr (B H B' H' : Hp) : Prop where
  hh : Same H H'
  bb : Same B B'
  new : ∀ a u, B' a = some u → (∃ xs, u = .tup xs) ∨ B a = some u ∨ H a = none
theorem Gr.refl (B H : Hp) : Gr B H B H := ⟨Same.refl H, Same.refl B, fun _ _ h => .inr (.inl h)⟩
theorem Gr.trans {B H B1 H1 B2 H2 : Hp} (a : Gr B H B1 H1) (b : Gr B1 H1 B2 H2) : Gr B H B2 H2 :=
  ⟨a.hh.trans b.hh, a.bb.trans b.bb, fun c u h => by
    rcases b.new c u h with h | h | h
    · exact .inl h
    · exact a.new c u h
    · exact .inr (.inr (a.hh.free h))⟩
/-- made of new things and of tuples alone -/
def Born (Γ : Ga) (H H' : Hp) (d : D) (v : V) : Prop :=
  Same H H' ∧ ∃ R : Hp, Same R H' ∧ (∀ a u, R a = some u → (∃ xs, u = .tup xs) ∨ H a = none) ∧ Is Γ R d v
theorem Born.flat {d : D} {v : V} (f : flat d = true) (h : Is Γ H d v) : Born Γ H H d v :=
  ⟨Same.refl H, tupOf H, tupOf_same, fun _ _ h => .inl (tupOf_some h).2, Is.ofFlat f h⟩
theorem Born.is {d : D} {v : V} (h : Born Γ H H' d v) : Is Γ H' d v := by
  obtain ⟨_, R, e, _, q⟩ := h
  exact q.mono e
def jn (T B R : Hp) : Hp := fun a => match T a with
  | some o => some o
  | none => match B a with
    | some o => some o
    | none => R a
theorem jn_cases {T B R : Hp} {a : Addr} {o : HO} (h : jn T B R a = some o) : T a = some o ∨ B a = some o ∨ R a = some o := by
  unfold jn at h
  split at h
  · rename_i u e; cases h; exact .inl e
  · split at h
    · rename_i u e; cases h; exact .inr (.inl e)
    · exact .inr (.inr h)
theorem jn_at {T B R H : Hp} (t : Same T H) (b : Same B H) (r : Same R H) {a : Addr} {o : HO} (h : T a = some o ∨ B a = some o ∨ R a = some o) : jn T B R a = some o := by
  have hH : H a = some o := h.elim (t a o) fun h => h.elim (b a o) (r a o)
  unfold jn
  split
  · rename_i u e; rw [← hH, t a u e]
  · rename_i e
    split
    · rename_i u e2; rw [← hH, b a u e2]
    · rename_i e2
      rcases h with h | h | h
      · rw [e] at h; cases h
      · rw [e2] at h; cases h
      · exact h
theorem Ok.born' {d : D} {v : V} (o : Ok Γ x B F ρ σ H) (h : Born Γ H H' d v) : ∃ B', Gr B H B' H' ∧ Ok Γ x B' F ρ σ H' ∧ Is Γ B' d v := by
  obtain ⟨e, R, er, hn, q⟩ := h
  have t : Same (tupOf H') H' := tupOf_same
  have b : Same B H' := o.bh.trans e
  have nw : ∀ a u, jn (tupOf H') B R a = some u → (∃ xs, u = .tup xs) ∨ B a = some u ∨ H a = none := fun a u z => by
    rcases jn_cases z with z | z | z
    · exact .inl (tupOf_some z).2
    · exact .inr (.inl z)
    · rcases hn a u z with z | z
      · exact .inl z
      · exact .inr (.inr z)
  have bb : Same B (jn (tupOf H') B R) := fun a u z => jn_at t b er (.inr (.inl z))
  refine ⟨jn (tupOf H') B R, ⟨e, bb, nw⟩, ?_, q.mono fun a u z => jn_at t b er (.inr (.inr z))⟩
  refine o.grow e bb (fun a u z => ?_) (fun a xs z => jn_at t b er (.inl (tupOf_tup z))) nw
  rcases jn_cases z with z | z | z
  · exact t a u z
  · exact b a u z
  · exact er a u z
theorem Val.is {m : Md} {d : D} {v : V} (o : Ok Γ x B F ρ σ H) (h : Val Γ x m B H d v) : Is Γ H d v := by
  cases m with
  | own => exact h
  | par => exact Is.mono o.kp h
  | new => exact Is.mono o.bh h
theorem Val.mono {m : Md} {d : D} {v : V} {B' : Hp} (g : Gr B H B' H') (h : Val Γ x m B H d v) : Val Γ x m B' H' d v := by
  cases m with
  | own => exact Is.mono g.hh h
  | par => exact h
  | new => exact Is.mono g.bb h
end

/-! ### the judgements -/
abbrev gx (X : Cx) (cm : Nat → Addr) : Ga := ⟨X.K, cm, X.w⟩
abbrev EF := Ev → Option (D × Md)
/-- e is worth what f says of the slots -/
def PuE (cm : Nat → Addr) (X : Cx) (e : Expr) (f : EF) : Prop :=
  ∃ t, PE X e t ∧ ∀ (x : Fx) (B : Hp) (F : Nat → List Addr) (ρ : Ev) (σ : St) (H : Hp) (d : D) (m : Md) (Q : VK), Ok (gx X cm) x B F ρ σ H → f ρ = some (d, m) →
    (∀ v B' H', Gr B H B' H' → Ok (gx X cm) x B' F ρ σ H' → Val (gx X cm) x m B' H' d v → Q v H') → t σ H Q
def PuT (cm : Nat → Addr) (X : Cx) (e : Expr) (f : Ev → Option Bool) : Prop :=
  ∃ t, PT X e t ∧ ∀ (x : Fx) (B : Hp) (F : Nat → List Addr) (ρ : Ev) (σ : St) (H : Hp) (b : Bool) (Q : Bool → Hp → Prop), Ok (gx X cm) x B F ρ σ H → f ρ = some b →
    (∀ B' H', Gr B H B' H' → Ok (gx X cm) x B' F ρ σ H' → Q b H') → t σ H Q
/-- arguments -/
def PuA (cm : Nat → Addr) (X : Cx) (es : List Expr) (f : Ev → Option (List (D × Md))) : Prop :=
  ∃ t, PA X es t ∧ ∀ (x : Fx) (B : Hp) (F : Nat → List Addr) (ρ : Ev) (σ : St) (H : Hp) (ds : List (D × Md)) (Q : List V → Hp → Prop), Ok (gx X cm) x B F ρ σ H → f ρ = some ds →
    (∀ vs B' H', Gr B H B' H' → Ok (gx X cm) x B' F ρ σ H' → Paired (fun (p : D × Md) v => Val (gx X cm) x p.2 B' H' p.1 v) ds vs → Q vs H') → t σ H Q
end DL

/-! DL4: expressions: names, constants, operators, comparisons, subscripts, calls, displays, slices. -/
namespace DL
open PySem L2

section
variable {cm : Nat → Addr} {X : Cx}

/-! ### names and constants -/
def eV (i : Nat) : EF := fun ρ => match ρ[i]? with
  | some (.fz d) => some (d, .par)
  | some (.fa d) => some (d, .par)
  | some (.fn d) => some (d, .new)
  | some (.ow d) => some (d, .own)
  | some (.on d) => some (d, .own)
  | some (.ol ds) => some (.lst ds, .own)
  | _ => none
theorem pu_var (i : Nat) {x : Str} {pos : Pos} (hN : X.N[i]? = some x := by rfl) (hv : Vis X.env.scope x := by first | exact Or.inl rfl | exact Or.inr (Or.inl rfl) | exact Or.inr (Or.inr rfl))
    (hd : (x == ("__debug__" : Str)) = false := by decide) (hcd : (x == ("__classdict__" : Str)) = false := by decide) : PuE cm X (.Name x pos) (eV i) := by
  refine ⟨_, pe_var hN hv hd hcd, fun z B F ρ σ H d m Q ok hf hQ => ?_⟩
  have key : ∃ v, σ[i]? = some (some v) ∧ Val (gx X cm) z m B H d v := by
    unfold eV at hf
    split at hf
    all_goals first
      | (rename_i e; cases hf; obtain ⟨_, v, e1, e2⟩ := ok.at_ i _ e; exact ⟨v, e1, e2⟩)
      | (rename_i e; cases hf; obtain ⟨_, v, e1, e2, _⟩ := ok.at_ i _ e; exact ⟨v, e1, e2⟩)
      | (rename_i e; cases hf; obtain ⟨v, e1, e2, _⟩ := ok.at_ i _ e; exact ⟨v, e1, e2.is⟩)
      | (rename_i e; cases hf; obtain ⟨a, vs, e1, _, h, e2, _⟩ := ok.at_ i _ e; exact ⟨.ref a, e1, a, vs, rfl, h, e2.mono ok.bh⟩)
      | cases hf
  obtain ⟨v, e, q⟩ := key
  exact ⟨v, e, hQ v B H (Gr.refl B H) ok q⟩

/-- an atom as a value -/
def atomV : D → Option V
  | .non => some .non
  | .bl b => some (.bl b)
  | .int i => some (.int i)
  | .str x => some (.str x)
  | _ => none
theorem atomV_is {Γ : Ga} {H : Hp} {d : D} {v w : V} (h : atomV d = some v) (i : Is Γ H d w) : w = v := by
  cases d <;> simp [atomV] at h <;> subst h <;> exact i
theorem atomV_mk {Γ : Ga} {H : Hp} {d : D} {v : V} (h : atomV d = some v) : Is Γ H d v := by
  cases d <;> simp [atomV] at h <;> subst h <;> rfl
theorem atomV_flat {d : D} {v : V} (h : atomV d = some v) : flat d = true := by
  cases d <;> simp [atomV] at h <;> rfl
def eC (d : D) : EF := fun _ => some (d, .new)
theorem pu_const {e : Expr} {d : D} {v : V} (h : PE X e (tC v)) (ha : atomV d = some v) : PuE cm X e (eC d) :=
  ⟨_, h, fun _ B F ρ σ H c m Q ok hf hQ => by cases hf; exact hQ v B H (Gr.refl B H) ok (atomV_mk ha)⟩
theorem pu_int {i j pos} : PuE cm X (.Constant (.int i) j pos) (eC (.int i)) := pu_const pe_int rfl
theorem pu_bl {b j pos} : PuE cm X (.Constant (.bool b) j pos) (eC (.bl b)) := pu_const pe_bl rfl
theorem pu_non {j pos} : PuE cm X (.Constant .none j pos) (eC .non) := pu_const pe_non rfl
theorem pu_str {x j pos} : PuE cm X (.Constant (.str x) j pos) (eC (.str x)) := pu_const pe_str rfl
/-- a module's constant -/
theorem pu_glob {x : Str} {d : D} {v : V} {u : Value} {pos : Pos} (hg : Gl X x) (hm : X.mg x = some u) (r : RelV v u) (ha : atomV d = some v) (hd : (x == ("__debug__" : Str)) = false := by decide) : PuE cm X (.Name x pos) (eC d) :=
  pu_const (pe_glob hg hm r hd) ha

/-! ### two-place operators -/
/-- by data: o says what comes of it -/
def OkOp (Γ : Ga) (r : R2) (o : D → D → Option D) : Prop :=
  ∀ (H : Hp) (a b c : D) (v u : V) (Q : VK), o a b = some c → Is Γ H a v → Is Γ H b u → (∀ w H', Born Γ H H' c w → Q w H') → r v u H Q
def e2 (o : D → D → Option D) (f g : EF) : EF := fun ρ => (f ρ).bind fun a => (g ρ).bind fun b => (o a.1 b.1).bind fun c => some (c, .new)
theorem e2_some {o : D → D → Option D} {f g : EF} {ρ : Ev} {d : D} {m : Md} (h : e2 o f g ρ = some (d, m)) : ∃ a m1 b m2, f ρ = some (a, m1) ∧ g ρ = some (b, m2) ∧ o a b = some d ∧ m = .new := by
  unfold e2 at h
  cases ea : f ρ with
  | none => rw [ea] at h; cases h
  | some a =>
    cases eb : g ρ with
    | none => rw [ea, eb] at h; cases h
    | some b =>
      rw [ea, eb] at h
      cases ec : o a.1 b.1 with
      | none => simp [ec] at h
      | some c =>
        simp [ec] at h
        exact ⟨a.1, a.2, b.1, b.2, rfl, rfl, h.1 ▸ ec, h.2.symm⟩
variable {a b : Expr} {fa fb : EF} {pos : Pos}
/-- two expressions, one after the other -/
theorem two {ta tb : TE} {f g : EF} (ha : ∀ (x : Fx) (B : Hp) (F : Nat → List Addr) (ρ : Ev) (σ : St) (H : Hp) (d : D) (m : Md) (Q : VK), Ok (gx X cm) x B F ρ σ H → f ρ = some (d, m) →
      (∀ v B' H', Gr B H B' H' → Ok (gx X cm) x B' F ρ σ H' → Val (gx X cm) x m B' H' d v → Q v H') → ta σ H Q)
    (hb : ∀ (x : Fx) (B : Hp) (F : Nat → List Addr) (ρ : Ev) (σ : St) (H : Hp) (d : D) (m : Md) (Q : VK), Ok (gx X cm) x B F ρ σ H → g ρ = some (d, m) →
      (∀ v B' H', Gr B H B' H' → Ok (gx X cm) x B' F ρ σ H' → Val (gx X cm) x m B' H' d v → Q v H') → tb σ H Q)
    {x : Fx} {B : Hp} {F : Nat → List Addr} {ρ : Ev} {σ : St} {H : Hp} {d e : D} {m n : Md} {R : V → V → Hp → Prop} (ok : Ok (gx X cm) x B F ρ σ H) (hf : f ρ = some (d, m)) (hg : g ρ = some (e, n))
    (h : ∀ v u B' H', Gr B H B' H' → Ok (gx X cm) x B' F ρ σ H' → Val (gx X cm) x m B' H' d v → Val (gx X cm) x n B' H' e u → R v u H') : ta σ H fun v H1 => tb σ H1 fun u H2 => R v u H2 := by
  refine ha x B F ρ σ H d m _ ok hf fun v B1 H1 g1 ok1 v1 => ?_
  refine hb x B1 F ρ σ H1 e n _ ok1 hg fun u B2 H2 g2 ok2 v2 => ?_
  exact h v u B2 H2 (g1.trans g2) ok2 (v1.mono g2) v2
theorem pu_op2 {t : TE → TE → TE} {e : Expr} {r : R2} {o : D → D → Option D} (ht : ∀ ta tb, PE X a ta → PE X b tb → PE X e (tOp r ta tb)) (ho : OkOp (gx X cm) r o) (ha : PuE cm X a fa) (hb : PuE cm X b fb) : PuE cm X e (e2 o fa fb) := by
  obtain ⟨ta, pa, qa⟩ := ha
  obtain ⟨tb, pb, qb⟩ := hb
  refine ⟨_, ht ta tb pa pb, fun x B F ρ σ H d m Q ok hf hQ => ?_⟩
  obtain ⟨da, m1, db, m2, ea, eb, ed, rfl⟩ := e2_some hf
  refine two (R := fun v u H2 => r v u H2 Q) qa qb ok ea eb fun v u B' H' g ok' hv hu => ?_
  refine ho H' da db d v u Q ed (hv.is ok') (hu.is ok') fun w H2 bn => ?_
  obtain ⟨B2, g2, ok2, hw⟩ := ok'.born' bn
  exact hQ w B2 H2 (g.trans g2) ok2 hw
theorem pu_bin {op : Operator} {r : R2} {o : D → D → Option D} (hr : OpR X (binaryOp op) r) (ho : OkOp (gx X cm) r o) (ha : PuE cm X a fa) (hb : PuE cm X b fb) : PuE cm X (.BinOp a op b pos) (e2 o fa fb) :=
  pu_op2 (t := tOp r) (fun _ _ pa pb => pe_op hr pa pb) ho ha hb
theorem pu_cmp {op : CmpOp} {r : R2} {o : D → D → Option D} (hr : OpR X (compareOp op) r) (ho : OkOp (gx X cm) r o) (ha : PuE cm X a fa) (hb : PuE cm X b fb) (hm : behindInMarks op b = false := by first | exact nomark _ | rfl) : PuE cm X (.Compare a [op] [b] pos) (e2 o fa fb) :=
  pu_op2 (t := tOp r) (fun _ _ pa pb => pe_cmpR hr pa pb hm) ho ha hb

theorem Born.atom {Γ : Ga} {H : Hp} {d : D} {v : V} (h : atomV d = some v) : Born Γ H H d v := Born.flat (atomV_flat h) (atomV_mk h)
/-- a new list or tuple of what is flat -/
theorem born_new {Γ : Ga} {H : Hp} {p : Addr} {o : HO} {d : D} (hp : H p = none) (h : ∀ R : Hp, Same (tupOf H) R → R p = some o → Is Γ R d (.ref p)) : Born Γ H (upd H p o) d (.ref p) := by
  have ne : ∀ {b u}, H b = some u → b ≠ p := fun e q => by rw [q, hp] at e; cases e
  refine ⟨fun b u e => by rw [upd_ne (ne e)]; exact e, upd (tupOf H) p o, fun b u e => ?_, fun b u e => ?_, h _ (fun b u e => ?_) upd_same⟩
  · by_cases q : b = p
    · subst q; rw [upd_same] at e ⊢; exact e
    · rw [upd_ne q] at e ⊢; exact tupOf_same _ _ e
  · by_cases q : b = p
    · subst q; exact .inr hp
    · rw [upd_ne q] at e; exact .inl (tupOf_some e).2
  · rw [upd_ne (ne (tupOf_same _ _ e))]; exact e
theorem born_lst {Γ : Ga} {H : Hp} {p : Addr} {ds : List D} {vs : List V} (hp : H p = none) (f : flats ds = true) (h : Iss Γ H ds vs) : Born Γ H (upd H p (.lst vs)) (.lst ds) (.ref p) :=
  born_new hp fun _ s e => ⟨p, vs, rfl, e, (Iss.ofFlat f h).mono s⟩
theorem born_tup {Γ : Ga} {H : Hp} {p : Addr} {ds : List D} {vs : List V} (hp : H p = none) (f : flats ds = true) (h : Iss Γ H ds vs) : Born Γ H (upd H p (.tup vs)) (.tup ds) (.ref p) :=
  born_new hp fun _ s e => ⟨p, vs, rfl, e, (Iss.ofFlat f h).mono s⟩

theorem Iss.length {Γ : Ga} {H : Hp} : ∀ {ds : List D} {vs : List V}, Iss Γ H ds vs → vs.length = ds.length
  | [], _, h => by rw [show _ = [] from h]; rfl
  | _ :: _, _, ⟨v, r, e, _, h2⟩ => by subst e; rw [List.length_cons, List.length_cons, Iss.length h2]
theorem Iss.get {Γ : Ga} {H : Hp} : ∀ {ds : List D} {vs : List V} {i : Nat} {d : D}, Iss Γ H ds vs → ds[i]? = some d → ∃ v, vs[i]? = some v ∧ Is Γ H d v
  | [], _, _, _, _, e => by simp at e
  | _ :: _, _, 0, _, ⟨v, r, e, h1, _⟩, q => by
    subst e
    cases q
    exact ⟨v, rfl, h1⟩
  | _ :: _, _, i + 1, _, ⟨v, r, e, _, h2⟩, q => by
    subst e
    obtain ⟨w, e1, e2⟩ := Iss.get h2 (i := i) (by simpa using q)
    exact ⟨w, by simpa using e1, e2⟩
theorem Iss.append {Γ : Ga} {H : Hp} : ∀ {ds es : List D} {vs us : List V}, Iss Γ H ds vs → Iss Γ H es us → Iss Γ H (ds ++ es) (vs ++ us)
  | [], _, _, _, h, k => by rw [show _ = [] from h]; exact k
  | _ :: _, _, _, _, ⟨v, r, e, h1, h2⟩, k => by subst e; exact ⟨v, r ++ _, rfl, h1, Iss.append h2 k⟩
theorem Iss.take {Γ : Ga} {H : Hp} : ∀ {ds : List D} {vs : List V} (n : Nat), Iss Γ H ds vs → Iss Γ H (ds.take n) (vs.take n)
  | _, _, 0, _ => by rw [List.take_zero, List.take_zero]; rfl
  | [], _, n + 1, h => by rw [show _ = [] from h]; rfl
  | _ :: _, _, n + 1, ⟨v, r, e, h1, h2⟩ => by subst e; exact ⟨v, r.take n, rfl, h1, Iss.take n h2⟩
theorem Iss.drop {Γ : Ga} {H : Hp} : ∀ {ds : List D} {vs : List V} (n : Nat), Iss Γ H ds vs → Iss Γ H (ds.drop n) (vs.drop n)
  | _, _, 0, h => h
  | [], _, n + 1, h => by rw [show _ = [] from h]; rfl
  | _ :: _, _, n + 1, ⟨v, r, e, h1, h2⟩ => by subst e; exact Iss.drop n h2
theorem Iss.snoc {Γ : Ga} {H : Hp} {ds : List D} {vs : List V} {d : D} {v : V} (h : Iss Γ H ds vs) (k : Is Γ H d v) : Iss Γ H (ds ++ [d]) (vs ++ [v]) := h.append ⟨v, [], rfl, k, rfl⟩
theorem Iss.reverse {Γ : Ga} {H : Hp} : ∀ {ds : List D} {vs : List V}, Iss Γ H ds vs → Iss Γ H ds.reverse vs.reverse
  | [], _, h => by rw [show _ = [] from h]; rfl
  | _ :: _, _, ⟨v, r, e, h1, h2⟩ => by subst e; rw [List.reverse_cons, List.reverse_cons]; exact (Iss.reverse h2).snoc h1
theorem Iss.scr {Γ : Ga} {H : Hp} : ∀ ns : List Int, Iss Γ H (ns.map D.int) (ns.map V.int)
  | [] => rfl
  | _ :: r => ⟨_, _, rfl, rfl, Iss.scr r⟩
theorem flats_map_int : ∀ ns : List Int, flats (ns.map D.int) = true
  | [] => rfl
  | _ :: r => by rw [List.map_cons, flats, flats_map_int r]; rfl
theorem flats_append : ∀ {a b : List D}, flats (a ++ b) = (flats a && flats b)
  | [], _ => rfl
  | x :: a, b => by rw [List.cons_append, flats, flats, flats_append, Bool.and_assoc]
theorem flats_take : ∀ {a : List D} (n : Nat), flats a = true → flats (a.take n) = true
  | _, 0, _ => rfl
  | [], _ + 1, _ => rfl
  | x :: a, n + 1, h => by
    rw [flats, Bool.and_eq_true] at h
    rw [List.take_succ_cons, flats, h.1, flats_take n h.2]; rfl
theorem flats_drop : ∀ {a : List D} (n : Nat), flats a = true → flats (a.drop n) = true
  | _, 0, h => h
  | [], _ + 1, _ => rfl
  | x :: a, n + 1, h => by
    rw [flats, Bool.and_eq_true] at h
    exact flats_drop n h.2
theorem flats_reverse {a : List D} (h : flats a = true) : flats a.reverse = true := by
  induction a with
  | nil => rfl
  | cons x a ih =>
    rw [flats, Bool.and_eq_true] at h
    rw [List.reverse_cons, flats_append, ih h.2, flats, h.1]; rfl
theorem flats_mem : ∀ {a : List D}, flats a = true → ∀ d ∈ a, flat d = true
  | x :: a, h, d, hd => by
    rw [flats, Bool.and_eq_true] at h
    rcases List.mem_cons.mp hd with rfl | hd
    · exact h.1
    · exact flats_mem h.2 d hd
theorem flats_of : ∀ {a : List D}, (∀ d ∈ a, flat d = true) → flats a = true
  | [], _ => rfl
  | x :: a, h => by rw [flats, h x (by simp), flats_of fun d hd => h d (by simp [hd])]; rfl

/-! ### arithmetic -/
def addD : D → D → Option D
  | .int i, .int j => some (.int (i + j))
  | .str x, .str y => if x.length + y.length ≤ 16777216 then some (.str (x ++ y)) else none
  | .lst xs, .lst ys => if flats xs = true ∧ flats ys = true ∧ xs.length + ys.length ≤ 16777216 then some (.lst (xs ++ ys)) else none
  | _, _ => none
def subD : D → D → Option D
  | .int i, .int j => some (.int (i - j))
  | _, _ => none
def mulD : D → D → Option D
  | .int i, .int j => if (-18446744073709551616 < i ∧ i < 18446744073709551616) ∨ (-18446744073709551616 < j ∧ j < 18446744073709551616) then some (.int (i * j)) else none
  | .lst xs, .int k => if flats xs = true ∧ 0 ≤ k ∧ k < 1000000 ∧ xs.length * k.toNat ≤ 16777216 then some (.lst (List.replicate k.toNat xs).flatten) else none
  | _, _ => none
def fdivD : D → D → Option D
  | .int i, .int j => if 0 < j ∧ j < 1073741824 then some (.int (i / j)) else none
  | _, _ => none
def modD : D → D → Option D
  | .int i, .int j => if 0 < j then some (.int (i % j)) else none
  | _, _ => none
theorem line_eq : sizeLine = 16777216 := by decide
abbrev rAddA : R2 := fun x y H Q => rI0 (fun i j => .int (i + j)) x y H Q ∨ (∃ i j, x = .str i ∧ y = .str j ∧ i.length + j.length ≤ sizeLine ∧ Q (.str (i ++ j)) H) ∨ rCat x y H Q
theorem op_addA : OpR X (binaryOp .Add) rAddA := op_add.or (op_add_str.or op_cat)
theorem ok_add {Γ : Ga} : OkOp Γ rAddA addD := by
  intro H a b c v u Q e ha hb hQ
  unfold addD at e
  split at e
  · cases e; cases ha; cases hb
    exact .inl ⟨_, _, rfl, rfl, hQ _ _ (.atom rfl)⟩
  · split at e
    · rename_i h
      cases e; cases ha; cases hb
      exact .inr (.inl ⟨_, _, rfl, rfl, by rw [line_eq]; exact h, hQ _ _ (.atom rfl)⟩)
    · cases e
  · split at e
    · rename_i h
      cases e
      obtain ⟨p, vs, rfl, h1, h2⟩ := ha
      obtain ⟨q, us, rfl, k1, k2⟩ := hb
      exact .inr (.inr ⟨_, _, _, _, rfl, rfl, h1, k1, by rw [line_eq, h2.length, k2.length]; exact h.2.2, fun l hl => hQ _ _ (born_lst hl (by rw [flats_append, h.1, h.2.1]; rfl) (h2.append k2))⟩)
    · cases e
  · cases e
theorem pu_add (ha : PuE cm X a fa) (hb : PuE cm X b fb) : PuE cm X (.BinOp a .Add b pos) (e2 addD fa fb) := pu_bin op_addA ok_add ha hb
theorem ok_sub {Γ : Ga} : OkOp Γ (rI0 fun i j => .int (i - j)) subD := by
  intro H a b c v u Q e ha hb hQ
  unfold subD at e
  split at e
  · cases e; cases ha; cases hb
    exact ⟨_, _, rfl, rfl, hQ _ _ (.atom rfl)⟩
  · cases e
theorem pu_sub (ha : PuE cm X a fa) (hb : PuE cm X b fb) : PuE cm X (.BinOp a .Sub b pos) (e2 subD fa fb) := pu_bin op_sub ok_sub ha hb
theorem flats_rep {xs : List D} (h : flats xs = true) : ∀ n : Nat, flats (List.replicate n xs).flatten = true
  | 0 => rfl
  | n + 1 => by rw [List.replicate_succ, List.flatten_cons, flats_append, h, flats_rep h n]; rfl
theorem Iss.rep {Γ : Ga} {H : Hp} {ds : List D} {vs : List V} (h : Iss Γ H ds vs) : ∀ n : Nat, Iss Γ H (List.replicate n ds).flatten (List.replicate n vs).flatten
  | 0 => rfl
  | n + 1 => by rw [List.replicate_succ, List.flatten_cons, List.replicate_succ, List.flatten_cons]; exact h.append (Iss.rep h n)
abbrev rMulA : R2 := fun x y H Q => rI CMul (fun i j => .int (i * j)) x y H Q ∨ rRep x y H Q
theorem ok_mul {Γ : Ga} : OkOp Γ rMulA mulD := by
  intro H a b c v u Q e ha hb hQ
  unfold mulD at e
  split at e
  · split at e
    · rename_i h
      cases e; cases ha; cases hb
      exact .inl ⟨_, _, rfl, rfl, h, hQ _ _ (.atom rfl)⟩
    · cases e
  · split at e
    · rename_i h
      cases e
      obtain ⟨p, vs, rfl, h1, h2⟩ := ha
      cases hb
      exact .inr ⟨_, _, _, rfl, rfl, h1, by omega, by omega, by rw [line_eq, h2.length]; exact h.2.2.2, fun l hl => hQ _ _ (born_lst hl (flats_rep h.1 _) (h2.rep _))⟩
    · cases e
  · cases e
theorem pu_mul (ha : PuE cm X a fa) (hb : PuE cm X b fb) : PuE cm X (.BinOp a .Mult b pos) (e2 mulD fa fb) := pu_bin (op_mul.or op_rep) ok_mul ha hb
theorem ok_fdiv {Γ : Ga} : OkOp Γ (rI CDiv fun i j => .int (i / j)) fdivD := by
  intro H a b c v u Q e ha hb hQ
  unfold fdivD at e
  split at e
  · split at e
    · rename_i h
      cases e; cases ha; cases hb
      exact ⟨_, _, rfl, rfl, h, hQ _ _ (.atom rfl)⟩
    · cases e
  · cases e
theorem pu_fdiv (ha : PuE cm X a fa) (hb : PuE cm X b fb) : PuE cm X (.BinOp a .FloorDiv b pos) (e2 fdivD fa fb) := pu_bin op_fdiv ok_fdiv ha hb
theorem ok_mod {Γ : Ga} : OkOp Γ (rI (fun _ j => 0 < j) fun i j => .int (i % j)) modD := by
  intro H a b c v u Q e ha hb hQ
  unfold modD at e
  split at e
  · split at e
    · rename_i h
      cases e; cases ha; cases hb
      exact ⟨_, _, rfl, rfl, h, hQ _ _ (.atom rfl)⟩
    · cases e
  · cases e
theorem pu_mod (ha : PuE cm X a fa) (hb : PuE cm X b fb) : PuE cm X (.BinOp a .Mod b pos) (e2 modD fa fb) := pu_bin op_mod ok_mod ha hb

/-! ### comparisons -/
def cmpD (p : Int → Int → Bool) : D → D → Option D
  | .int i, .int j => some (.bl (p i j))
  | _, _ => none
theorem ok_cmp {Γ : Ga} (p : Int → Int → Bool) : OkOp Γ (rI0 fun i j => .bl (p i j)) (cmpD p) := by
  intro H a b c v u Q e ha hb hQ
  unfold cmpD at e
  split at e
  · cases e; cases ha; cases hb
    exact ⟨_, _, rfl, rfl, hQ _ _ (.atom rfl)⟩
  · cases e
abbrev ltD := cmpD fun i j => decide (i < j)
abbrev leD := cmpD fun i j => decide (i ≤ j)
abbrev gtD := cmpD fun i j => decide (j < i)
abbrev geD := cmpD fun i j => decide (j ≤ i)
theorem pu_lt (ha : PuE cm X a fa) (hb : PuE cm X b fb) : PuE cm X (.Compare a [.Lt] [b] pos) (e2 ltD fa fb) := pu_cmp op_lt (ok_cmp _) ha hb
theorem pu_le (ha : PuE cm X a fa) (hb : PuE cm X b fb) : PuE cm X (.Compare a [.LtE] [b] pos) (e2 leD fa fb) := pu_cmp op_le (ok_cmp _) ha hb
theorem pu_gt (ha : PuE cm X a fa) (hb : PuE cm X b fb) : PuE cm X (.Compare a [.Gt] [b] pos) (e2 gtD fa fb) := pu_cmp op_gt (ok_cmp _) ha hb
theorem pu_ge (ha : PuE cm X a fa) (hb : PuE cm X b fb) : PuE cm X (.Compare a [.GtE] [b] pos) (e2 geD fa fb) := pu_cmp op_ge (ok_cmp _) ha hb

mutual
def toPy : D → Option PyData
  | .non => some .none
  | .bl b => some (.bool b)
  | .int i => some (.int i)
  | .str x => some (.str x)
  | .tup ds => (toPys ds).map .tuple
  | .lst ds => (toPys ds).map .list
  | _ => none
def toPys : List D → Option (List PyData)
  | [] => some []
  | d :: r => (toPy d).bind fun p => (toPys r).bind fun q => some (p :: q)
end
mutual
theorem dp_of {Γ : Ga} {H : Hp} : ∀ {d : D} {v : V} {p : PyData}, toPy d = some p → Is Γ H d v → Dp Γ.K H v p
  | .non, _, _, e, h => by rw [toPy] at e; cases e; cases h; exact .non
  | .bl _, _, _, e, h => by rw [toPy] at e; cases e; cases h; exact .bl _
  | .int _, _, _, e, h => by rw [toPy] at e; cases e; cases h; exact .int _
  | .str _, _, _, e, h => by rw [toPy] at e; cases e; cases h; exact .str _
  | .tup ds, _, _, e, ⟨a, vs, e1, h1, h2⟩ => by
    subst e1
    rw [toPy] at e
    cases q : toPys ds with
    | none => rw [q] at e; cases e
    | some ps => rw [q] at e; cases e; exact .tup (SqT.of h1) (dps_of q h2)
  | .lst ds, _, _, e, ⟨a, vs, e1, h1, h2⟩ => by
    subst e1
    rw [toPy] at e
    cases q : toPys ds with
    | none => rw [q] at e; cases e
    | some ps => rw [q] at e; cases e; exact .lst (SqL.of h1) (dps_of q h2)
  | .scr _, _, _, e, _ => by simp [toPy] at e
  | .wtp _, _, _, e, _ => by simp [toPy] at e
  | .dn _ _, _, _, e, _ => by simp [toPy] at e
  | .adr _, _, _, e, _ => by simp [toPy] at e
  | .dic _, _, _, e, _ => by simp [toPy] at e
  | .ins _ _, _, _, e, _ => by simp [toPy] at e
theorem dps_of {Γ : Ga} {H : Hp} : ∀ {d : List D} {v : List V} {p : List PyData}, toPys d = some p → Iss Γ H d v → DpAll Γ.K H v p
  | [], _, _, e, h => by rw [toPys] at e; cases e; cases h; exact .nil
  | d :: r, _, _, e, ⟨v, s, e1, h1, h2⟩ => by
    subst e1
    rw [toPys] at e
    cases q : toPy d with
    | none => simp [q] at e
    | some p =>
      cases q2 : toPys r with
      | none => simp [q, q2] at e
      | some ps =>
        simp [q, q2] at e
        subst e
        exact .cons (dp_of q h1) (dps_of q2 h2)
end
/-- Python's == of data -/
def eqD (a b : D) : Option Bool := (toPy a).bind fun p => (toPy b).bind fun q => if SeqAt.shaped p = true ∧ SeqAt.shaped q = true then some (PyData.eqv p q) else none
theorem eqD_some {a b : D} {k : Bool} (h : eqD a b = some k) : ∃ p q, toPy a = some p ∧ toPy b = some q ∧ SeqAt.shaped p = true ∧ SeqAt.shaped q = true ∧ k = PyData.eqv p q := by
  unfold eqD at h
  cases ea : toPy a with
  | none => simp [ea] at h
  | some p =>
    cases eb : toPy b with
    | none => simp [ea, eb] at h
    | some q =>
      simp [ea, eb] at h
      exact ⟨p, q, rfl, rfl, h.1.1, h.1.2, h.2.symm⟩
def eqDD (a b : D) : Option D := (eqD a b).map .bl
def neDD (a b : D) : Option D := (eqD a b).map fun k => .bl (!k)
theorem ok_eq {Γ : Ga} : OkOp Γ (rEqD Γ.K) eqDD := by
  intro H a b c v u Q e ha hb hQ
  unfold eqDD at e
  cases q : eqD a b with
  | none => rw [q] at e; cases e
  | some k =>
    rw [q] at e
    cases e
    obtain ⟨p, s, e1, e2, z1, z2, rfl⟩ := eqD_some q
    exact ⟨p, s, dp_of e1 ha, dp_of e2 hb, z1, z2, hQ _ _ (.atom rfl)⟩
theorem ok_ne {Γ : Ga} : OkOp Γ (rNeD Γ.K) neDD := by
  intro H a b c v u Q e ha hb hQ
  unfold neDD at e
  cases q : eqD a b with
  | none => rw [q] at e; cases e
  | some k =>
    rw [q] at e
    cases e
    obtain ⟨p, s, e1, e2, z1, z2, rfl⟩ := eqD_some q
    exact ⟨p, s, dp_of e1 ha, dp_of e2 hb, z1, z2, hQ _ _ (.atom rfl)⟩
theorem pu_eq (hu : X.A.units + 64 < cLine) (ha : PuE cm X a fa) (hb : PuE cm X b fb) : PuE cm X (.Compare a [.Eq] [b] pos) (e2 eqDD fa fb) := pu_cmp (op_eqD hu) ok_eq ha hb
theorem pu_ne (hu : X.A.units + 64 < cLine) (ha : PuE cm X a fa) (hb : PuE cm X b fb) : PuE cm X (.Compare a [.NotEq] [b] pos) (e2 neDD fa fb) := pu_cmp (op_neD hu) ok_ne ha hb
/-- is None -/
def isN : D → Bool
  | .non => true
  | _ => false
theorem isN_of {Γ : Ga} {H : Hp} {d : D} {v : V} (h : Is Γ H d v) : decide (v = .non) = isN d := by
  cases d with
  | non => cases h; rfl
  | bl => cases h; rfl
  | int => cases h; rfl
  | str => cases h; rfl
  | scr => obtain ⟨a, rfl, _⟩ := h; rfl
  | wtp => obtain ⟨a, rfl, _⟩ := h; rfl
  | tup => obtain ⟨a, vs, rfl, _⟩ := h; rfl
  | lst => obtain ⟨a, vs, rfl, _⟩ := h; rfl
  | dic => obtain ⟨a, vs, rfl, _⟩ := h; rfl
  | ins => obtain ⟨a, dx, vs, rfl, _⟩ := h; rfl
  | dn => obtain ⟨a, vs, rfl, _⟩ := h; rfl
  | adr => cases h; rfl
def e1 (o : D → Option D) (f : EF) : EF := fun ρ => (f ρ).bind fun a => (o a.1).bind fun c => some (c, .new)
theorem e1_some {o : D → Option D} {f : EF} {ρ : Ev} {d : D} {m : Md} (h : e1 o f ρ = some (d, m)) : ∃ a m1, f ρ = some (a, m1) ∧ o a = some d ∧ m = .new := by
  unfold e1 at h
  cases ea : f ρ with
  | none => rw [ea] at h; cases h
  | some a =>
    rw [ea] at h
    cases ec : o a.1 with
    | none => simp [ec] at h
    | some c =>
      simp [ec] at h
      exact ⟨a.1, a.2, rfl, h.1 ▸ ec, h.2.symm⟩
def OkU (Γ : Ga) (r : V → Hp → VK → Prop) (o : D → Option D) : Prop :=
  ∀ (H : Hp) (a c : D) (v : V) (Q : VK), o a = some c → Is Γ H a v → (∀ w H', Born Γ H H' c w → Q w H') → r v H Q
theorem pu_op1 {e : Expr} {r : V → Hp → VK → Prop} {o : D → Option D} (ht : ∀ ta, PE X a ta → PE X e (fun σ H Q => ta σ H fun v H1 => r v H1 Q)) (ho : OkU (gx X cm) r o) (ha : PuE cm X a fa) : PuE cm X e (e1 o fa) := by
  obtain ⟨ta, pa, qa⟩ := ha
  refine ⟨_, ht ta pa, fun x B F ρ σ H d m Q ok hf hQ => ?_⟩
  obtain ⟨da, m1, ea, ed, rfl⟩ := e1_some hf
  refine qa x B F ρ σ H da m1 _ ok ea fun v B' H' g ok' hv => ?_
  refine ho H' da d v Q ed (hv.is ok') fun w H2 bn => ?_
  obtain ⟨B2, g2, ok2, hw⟩ := ok'.born' bn
  exact hQ w B2 H2 (g.trans g2) ok2 hw
def isND (d : D) : Option D := some (.bl (isN d))
def notND (d : D) : Option D := some (.bl (!isN d))
theorem pu_isN {j pos'} (ha : PuE cm X a fa) : PuE cm X (.Compare a [.Is] [.Constant .none j pos'] pos) (e1 isND fa) :=
  pu_op1 (r := fun v H Q => Q (.bl (decide (v = .non))) H) (fun _ pa => pe_cmp (pc_isN pa) rfl) (fun H d c v Q e h hQ => by cases e; rw [isN_of h]; exact hQ _ _ (.atom rfl)) ha
theorem pu_notN {j pos'} (ha : PuE cm X a fa) : PuE cm X (.Compare a [.IsNot] [.Constant .none j pos'] pos) (e1 notND fa) :=
  pu_op1 (r := fun v H Q => Q (.bl (!decide (v = .non))) H) (fun _ pa => pe_cmp (pc_notN pa) rfl) (fun H d c v Q e h hQ => by cases e; rw [isN_of h]; exact hQ _ _ (.atom rfl)) ha
def negD : D → Option D
  | .int i => some (.int (-i))
  | _ => none
theorem pu_neg (ha : PuE cm X a fa) : PuE cm X (.UnaryOp .USub a pos) (e1 negD fa) :=
  pu_op1 (fun _ pa => pe_un un_neg pa) (fun H d c v Q e h hQ => by
    unfold negD at e
    split at e
    · cases e; cases h; exact ⟨_, rfl, hQ _ _ (.atom rfl)⟩
    · cases e) ha
end
end DL

/-! DL5: in, subscripts, fields, and or not, slices, displays, calls. -/
namespace DL
open PySem L2

section
variable {cm : Nat → Addr} {X : Cx} {a b c : Expr} {fa fb fc : EF} {pos : Pos}

/-! ### dicts by key -/
def keyOf : D → Option Key
  | .int i => some (.inl i)
  | .str x => some (.inr x)
  | _ => none
theorem keyOf_is {Γ : Ga} {H : Hp} {d : D} {k : Key} {v : V} (h : keyOf d = some k) (i : Is Γ H d v) : v = kV k := by
  cases d <;> simp [keyOf] at h <;> subst h <;> exact i
theorem IsK.val {Γ : Ga} {H : Hp} : ∀ {ds : List (Key × D)} {vs : List (Key × V)} (k : Key), IsK Γ H ds vs → match getK ds k with
    | some d => ∃ v, valV vs k = some v ∧ Is Γ H d v
    | none => valV vs k = none
  | [], _, k, h => by rw [show _ = [] from h]; exact valV_nil
  | (k0, d) :: r, _, k, ⟨v, s, e, h1, h2⟩ => by
    subst e
    rw [getK]
    by_cases q : k0 = k
    · rw [if_pos q]; exact ⟨v, valV_pos (p := (k0, v)) q, h1⟩
    · rw [if_neg q, valV_neg (p := (k0, v)) q]; exact IsK.val k h2
theorem IsK.some {Γ : Ga} {H : Hp} {ds : List (Key × D)} {vs : List (Key × V)} {k : Key} {d : D} (h : IsK Γ H ds vs) (g : getK ds k = some d) : ∃ v, valV vs k = some v ∧ Is Γ H d v := by
  have q := h.val k
  rw [g] at q
  exact q
theorem IsK.isSome {Γ : Ga} {H : Hp} {ds : List (Key × D)} {vs : List (Key × V)} {k : Key} (h : IsK Γ H ds vs) : (valV vs k).isSome = (getK ds k).isSome := by
  have q := h.val k
  cases g : getK ds k with
  | none => rw [g] at q; rw [show valV vs k = none from q]; rfl
  | some d => rw [g] at q; obtain ⟨v, e, _⟩ := q; rw [e]; rfl
theorem op_din (hu : X.A.units + 1 < cLine) : OpR X (compareOp .In) (fun y x H Q => ∃ p o, x = .ref p ∧ DGet H p y o ∧ Q (.bl o.isSome) H) := by
  intro pins s σ H y x v u Q I ry rx h
  obtain ⟨p, o, rfl, g, q⟩ := h
  cases rx
  exact d_in hu I g ry fun s' I' => ⟨.bl _, H, I', rfl, q⟩
theorem op_dnotin (hu : X.A.units + 1 < cLine) : OpR X (compareOp .NotIn) (fun y x H Q => ∃ p o, x = .ref p ∧ DGet H p y o ∧ Q (.bl (!o.isSome)) H) := by
  intro pins s σ H y x v u Q I ry rx h
  obtain ⟨p, o, rfl, g, q⟩ := h
  cases rx
  exact d_notIn hu I g ry fun s' I' => ⟨.bl _, H, I', rfl, q⟩

/-! ### in -/
def atomsV : List D → Option (List V)
  | [] => some []
  | d :: r => (atomV d).bind fun v => (atomsV r).bind fun vs => some (v :: vs)
theorem atomsV_is {Γ : Ga} {H : Hp} : ∀ {ds : List D} {vs ws : List V}, atomsV ds = some vs → Iss Γ H ds ws → ws = vs
  | [], _, _, h, i => by cases h; exact i
  | d :: r, _, _, h, ⟨v, s, e, h1, h2⟩ => by
    subst e
    rw [atomsV] at h
    cases q : atomV d with
    | none => simp [q] at h
    | some v' =>
      cases q2 : atomsV r with
      | none => simp [q, q2] at h
      | some vs' =>
        simp [q, q2] at h
        subst h
        rw [atomV_is q h1, atomsV_is q2 h2]
theorem atomV_flatV {d : D} {v : V} (h : atomV d = some v) : flatV v = true := by
  cases d <;> simp [atomV] at h <;> subst h <;> rfl
theorem atomsV_flatV : ∀ {ds : List D} {vs : List V}, atomsV ds = some vs → vs.all flatV = true
  | [], _, h => by cases h; rfl
  | d :: r, _, h => by
    rw [atomsV] at h
    cases q : atomV d with
    | none => simp [q] at h
    | some v' =>
      cases q2 : atomsV r with
      | none => simp [q, q2] at h
      | some vs' =>
        simp [q, q2] at h
        subst h
        rw [List.all_cons, atomV_flatV q, atomsV_flatV q2]; rfl
def oneSign (x : Str) : Option Nat := match x.cps.toList with
  | [c] => some c
  | _ => none
theorem oneSign_eq {x : Str} {c : Nat} (h : oneSign x = some c) : x = ⟨#[c]⟩ := by
  unfold oneSign at h
  split at h
  · rename_i e
    cases h
    exact TL.ext_tl e
  · cases h
/-- x in c -/
def inB (x : D) : D → Option Bool
  | .lst ds => (toPy x).bind fun p => (toPys ds).bind fun ps => if SeqAt.shaped p = true ∧ SeqAt.shaped (.list ps) = true then some (ps.any fun z => PyData.eqv z p) else none
  | .tup ds => (atomV x).bind fun v => (atomsV ds).bind fun vs => some (inV v vs)
  | .dic kvs => (keyOf x).bind fun k => some (getK kvs k).isSome
  | .str z => match x with
    | .str y => (oneSign y).bind fun c => some (decide (c ∈ z.cps.toList))
    | _ => none
  | _ => none
def inD (x c : D) : Option D := (inB x c).map .bl
def ninD (x c : D) : Option D := (inB x c).map fun k => .bl (!k)
abbrev rInA (K : PySem.W.Frag) : R2 := fun x y H Q => rInD K x y H Q ∨ rIn K false x y H Q ∨ (∃ p o, y = .ref p ∧ DGet H p x o ∧ Q (.bl o.isSome) H) ∨ (∃ (c : Nat) (z : Str), x = .str ⟨#[c]⟩ ∧ y = .str z ∧ Q (.bl (decide (c ∈ z.cps.toList))) H)
abbrev rNinA (K : PySem.W.Frag) : R2 := fun x y H Q => rNotInD K x y H Q ∨ rIn K true x y H Q ∨ (∃ p o, y = .ref p ∧ DGet H p x o ∧ Q (.bl (!o.isSome)) H) ∨ (∃ (c : Nat) (z : Str), x = .str ⟨#[c]⟩ ∧ y = .str z ∧ Q (.bl (!decide (c ∈ z.cps.toList))) H)
theorem in_all {Γ : Ga} {H : Hp} {x c : D} {v u : V} {k : Bool} (h : inB x c = some k) (hx : Is Γ H x v) (hc : Is Γ H c u) :
    (∃ d ds, Dp Γ.K H v d ∧ Dp Γ.K H u (.list ds) ∧ SeqAt.shaped d = true ∧ SeqAt.shaped (.list ds) = true ∧ k = ds.any fun z => PyData.eqv z d) ∨
    (∃ p xs, u = .ref p ∧ (SqL Γ.K H p xs ∨ SqT Γ.K H p xs) ∧ flatV v = true ∧ xs.all flatV = true ∧ k = inV v xs) ∨
    (∃ p o, u = .ref p ∧ DGet H p v o ∧ k = o.isSome) ∨ (∃ (c : Nat) (z : Str), v = .str ⟨#[c]⟩ ∧ u = .str z ∧ k = decide (c ∈ z.cps.toList)) := by
  unfold inB at h
  split at h
  · rename_i ds
    cases e1 : toPy x with
    | none => simp [e1] at h
    | some p =>
      cases e2 : toPys ds with
      | none => simp [e1, e2] at h
      | some ps =>
        simp [e1, e2] at h
        exact .inl ⟨p, ps, dp_of e1 hx, dp_of (d := .lst ds) (by rw [toPy, e2]; rfl) hc, h.1.1, h.1.2, h.2.symm⟩
  · rename_i ds
    cases e1 : atomV x with
    | none => simp [e1] at h
    | some w =>
      cases e2 : atomsV ds with
      | none => simp [e1, e2] at h
      | some ws =>
        simp [e1, e2] at h
        obtain ⟨p, vs, rfl, h1, h2⟩ := hc
        cases atomV_is e1 hx
        cases atomsV_is e2 h2
        exact .inr (.inl ⟨p, _, rfl, .inr (SqT.of h1), atomV_flatV e1, atomsV_flatV e2, h.symm⟩)
  · rename_i kvs
    cases e1 : keyOf x with
    | none => simp [e1] at h
    | some w =>
      simp [e1] at h
      obtain ⟨p, vs, rfl, h1, h2⟩ := hc
      cases keyOf_is e1 hx
      exact .inr (.inr (.inl ⟨p, _, rfl, DGet.k h1, by rw [← h]; exact h2.isSome.symm⟩))
  · split at h
    · rename_i z _ y
      cases e1 : oneSign y with
      | none => simp [e1] at h
      | some w =>
        simp [e1] at h
        cases hx; cases hc
        exact .inr (.inr (.inr ⟨w, z, by rw [oneSign_eq e1], rfl, by rw [← h]; simp⟩))
    · cases h
  · cases h
theorem ok_in {Γ : Ga} : OkOp Γ (rInA Γ.K) inD := by
  intro H x y d v u Q e hx hy hQ
  unfold inD at e
  cases q : inB x y with
  | none => rw [q] at e; cases e
  | some k =>
    rw [q] at e
    cases e
    have fin := hQ (.bl k) H (.atom rfl)
    rcases in_all q hx hy with ⟨d, ds, h1, h2, h3, h4, rfl⟩ | ⟨p, xs, h1, h2, h3, h4, rfl⟩ | ⟨p, o, h1, h2, rfl⟩ | ⟨c, z, h1, h2, rfl⟩
    · exact .inl ⟨d, ds, h1, h2, h3, h4, fin⟩
    · exact .inr (.inl ⟨p, xs, h1, h2, h3, h4, fin⟩)
    · exact .inr (.inr (.inl ⟨p, o, h1, h2, fin⟩))
    · exact .inr (.inr (.inr ⟨c, z, h1, h2, fin⟩))
theorem ok_nin {Γ : Ga} : OkOp Γ (rNinA Γ.K) ninD := by
  intro H x y d v u Q e hx hy hQ
  unfold ninD at e
  cases q : inB x y with
  | none => rw [q] at e; cases e
  | some k =>
    rw [q] at e
    cases e
    have fin := hQ (.bl (!k)) H (.atom rfl)
    rcases in_all q hx hy with ⟨d, ds, h1, h2, h3, h4, rfl⟩ | ⟨p, xs, h1, h2, h3, h4, rfl⟩ | ⟨p, o, h1, h2, rfl⟩ | ⟨c, z, h1, h2, rfl⟩
    · exact .inl ⟨d, ds, h1, h2, h3, h4, fin⟩
    · exact .inr (.inl ⟨p, xs, h1, h2, h3, h4, fin⟩)
    · exact .inr (.inr (.inl ⟨p, o, h1, h2, fin⟩))
    · exact .inr (.inr (.inr ⟨c, z, h1, h2, fin⟩))
theorem pu_in (hu : X.A.units + 65 < cLine) (ha : PuE cm X a fa) (hb : PuE cm X b fb) (hm : behindInMarks .In b = false := by rfl) : PuE cm X (.Compare a [.In] [b] pos) (e2 inD fa fb) :=
  pu_cmp ((op_inD hu).or (op_in_seq.or ((op_din (by omega)).or op_in_sign))) ok_in ha hb hm
theorem pu_nin (hu : X.A.units + 65 < cLine) (ha : PuE cm X a fa) (hb : PuE cm X b fb) (hm : behindInMarks .NotIn b = false := by rfl) : PuE cm X (.Compare a [.NotIn] [b] pos) (e2 ninD fa fb) :=
  pu_cmp ((op_notInD hu).or (op_notIn_seq.or ((op_dnotin (by omega)).or op_notIn_sign))) ok_nin ha hb hm

/-! ### a part of a thing -/
/-- where a part comes from -/
def effm (m : Md) (d : D) : Md := if flat d = true then .new else m
/-- a part w of v: it stands wherever v stands -/
def PartOf (Γ : Ga) (H : Hp) (a c : D) (v w : V) : Prop := ∀ R : Hp, Same R H → Is Γ R a v → Is Γ R c w
theorem Val.part {Γ : Ga} {x : Fx} {B : Hp} {F : Nat → List Addr} {ρ : Ev} {σ : St} {H : Hp} (ok : Ok Γ x B F ρ σ H) {m : Md} {d c : D} {v w : V} (h : Val Γ x m B H d v) (p : PartOf Γ H d c v w) : Val Γ x (effm m c) B H c w := by
  unfold effm
  split
  · rename_i f
    have q : Is Γ H c w := p H (Same.refl H) (h.is ok)
    exact (Is.ofFlat f q).mono fun a o e => by
      obtain ⟨e1, xs, rfl⟩ := tupOf_some e
      exact ok.tup _ _ e1
  · cases m with
    | own => exact p H (Same.refl H) h
    | par => exact p _ ok.kp h
    | new => exact p _ ok.bh h
def OkIx (Γ : Ga) (r : R2) (o : D → D → Option D) : Prop :=
  ∀ (H : Hp) (a b c : D) (v u : V) (Q : VK), o a b = some c → Is Γ H a v → Is Γ H b u → (∀ w, PartOf Γ H a c v w → Q w H) → r v u H Q
def eIx (o : D → D → Option D) (f g : EF) : EF := fun ρ => (f ρ).bind fun a => (g ρ).bind fun b => (o a.1 b.1).bind fun c => some (c, effm a.2 c)
theorem eIx_some {o : D → D → Option D} {f g : EF} {ρ : Ev} {d : D} {m : Md} (h : eIx o f g ρ = some (d, m)) : ∃ a m1 b m2, f ρ = some (a, m1) ∧ g ρ = some (b, m2) ∧ o a b = some d ∧ m = effm m1 d := by
  unfold eIx at h
  cases ea : f ρ with
  | none => rw [ea] at h; cases h
  | some a =>
    cases eb : g ρ with
    | none => rw [ea, eb] at h; cases h
    | some b =>
      rw [ea, eb] at h
      cases ec : o a.1 b.1 with
      | none => simp [ec] at h
      | some c =>
        simp [ec] at h
        obtain ⟨rfl, rfl⟩ := h
        exact ⟨a.1, a.2, b.1, b.2, rfl, rfl, ec, rfl⟩
theorem ix_dict (hu : X.A.units + 1 < cLine) : IxR X (fun x y H Q => ∃ p v, x = .ref p ∧ DGet H p y (some v) ∧ Q v H) := by
  intro value slice pins s σ H x y v u Q I rx ry h hs
  obtain ⟨p, z, rfl, g, q⟩ := h
  cases rx
  exact PyProof.Rows.tail_any (dict_typeIs I g) PySem.F.slot_dict_getitem.lookup (d_getItem hu I g ry fun w' s3 I3 rw' => ⟨z, H, I3, rw', q⟩) hs
def ixD : D → D → Option D
  | .lst ds, .int i => atI ds i
  | .tup ds, .int i => atI ds i
  | .scr ns, .int i => (atI ns i).map .int
  | .str z, .int i => if z.length ≤ 16777216 then (atI z.cps.toList i).map fun c => .str ⟨#[c]⟩ else none
  | .dic kvs, k => (keyOf k).bind fun k => getK kvs k
  | _, _ => none
abbrev rIxA (K : PySem.W.Frag) : R2 := fun x y H Q => rIx K x y H Q ∨ ∃ p v, x = .ref p ∧ DGet H p y (some v) ∧ Q v H
theorem atI_iss {Γ : Ga} {H : Hp} {ds : List D} {vs : List V} {i : Int} {d : D} (h : Iss Γ H ds vs) (e : atI ds i = some d) : ∃ v, atI vs i = some v ∧ Is Γ H d v := by
  unfold atI at e ⊢
  rw [h.length]
  cases q : ixN ds.length i with
  | none => rw [q] at e; cases e
  | some j =>
    rw [q] at e
    exact h.get e
theorem atI_map {α β : Type} (f : α → β) (xs : List α) (i : Int) : atI (xs.map f) i = (atI xs i).map f := by
  unfold atI
  rw [List.length_map]
  cases ixN xs.length i with
  | none => rfl
  | some j => simp
theorem ok_ix {Γ : Ga} : OkIx Γ (rIxA Γ.K) ixD := by
  intro H a b c v u Q e ha hb hQ
  unfold ixD at e
  split at e
  · obtain ⟨p, vs, rfl, h1, h2⟩ := ha
    cases hb
    obtain ⟨w, e1, e2⟩ := atI_iss h2 e
    refine .inl (.inl ⟨p, vs, _, w, rfl, rfl, SqL.of h1, e1, hQ w fun R eR ⟨p', vs', ep, k1, k2⟩ => ?_⟩)
    cases ep
    have q := (eR _ _ k1).symm.trans h1
    cases q
    obtain ⟨w', e1', e2'⟩ := atI_iss k2 e
    rw [e1] at e1'
    cases e1'
    exact e2'
  · obtain ⟨p, vs, rfl, h1, h2⟩ := ha
    cases hb
    obtain ⟨w, e1, e2⟩ := atI_iss h2 e
    refine .inl (.inr (.inl ⟨p, vs, _, w, rfl, rfl, SqT.of h1, e1, hQ w fun R eR ⟨p', vs', ep, k1, k2⟩ => ?_⟩))
    cases ep
    have q := (eR _ _ k1).symm.trans h1
    cases q
    obtain ⟨w', e1', e2'⟩ := atI_iss k2 e
    rw [e1] at e1'
    cases e1'
    exact e2'
  · rename_i ns i
    obtain ⟨p, rfl, h1⟩ := ha
    cases hb
    cases q : atI ns i with
    | none => rw [q] at e; cases e
    | some n =>
      rw [q] at e
      cases e
      exact .inl (.inl ⟨p, _, _, .int n, rfl, rfl, h1, by rw [atI_map, q]; rfl, hQ _ fun R _ _ => rfl⟩)
  · rename_i z i
    split at e
    · rename_i hl
      cases ha
      cases hb
      cases q : atI z.cps.toList i with
      | none => rw [q] at e; cases e
      | some n =>
        rw [q] at e
        cases e
        exact .inl (.inr (.inr ⟨z, i, n, rfl, rfl, by rw [line_eq]; exact hl, q, hQ _ fun R _ _ => rfl⟩))
    · cases e
  · rename_i kvs k
    obtain ⟨p, vs, rfl, h1, h2⟩ := ha
    cases e1 : keyOf b with
    | none => simp [e1] at e
    | some k =>
      simp [e1] at e
      cases keyOf_is e1 hb
      obtain ⟨w, g1, g2⟩ := h2.some e
      refine .inr ⟨p, w, rfl, by rw [← g1]; exact DGet.k h1, hQ w fun R eR ⟨p', vs', ep, k1, k2⟩ => ?_⟩
      cases ep
      have q := (eR _ _ k1).symm.trans h1
      cases q
      obtain ⟨w', e1', e2'⟩ := k2.some e
      rw [g1] at e1'
      cases e1'
      exact e2'
  · cases e
theorem pu_ix (hu : X.A.units + 1 < cLine) (ha : PuE cm X a fa) (hb : PuE cm X b fb) (hs : PlainIx b := by intro _ _; rfl) : PuE cm X (.Subscript a b pos) (eIx ixD fa fb) := by
  obtain ⟨ta, pa, qa⟩ := ha
  obtain ⟨tb, pb, qb⟩ := hb
  refine ⟨_, pe_ix (ix_seq.or (ix_dict hu)) pa pb hs, fun x B F ρ σ H d m Q ok hf hQ => ?_⟩
  obtain ⟨da, m1, db, m2, ea, eb, ed, rfl⟩ := eIx_some hf
  refine two (R := fun v u H2 => rIxA X.K v u H2 Q) qa qb ok ea eb fun v u B' H' g ok' hv hu => ?_
  exact ok_ix (Γ := gx X cm) H' da db d v u Q ed (hv.is ok') (hu.is ok') fun w pw => hQ w B' H' g ok' (hv.part ok' pw)

/-! ### fields of an instance -/
theorem IsF.some {Γ : Ga} {H : Hp} : ∀ {ds : List (Str × D)} {vs : List (Str × V)} {k : Str} {d : D}, IsF Γ H ds vs → getF ds k = some d → ∃ v, vs.lookup k = some v ∧ Is Γ H d v
  | [], _, _, _, _, e => by simp [getF] at e
  | (k0, d0) :: r, _, k, d, ⟨v, s, e, h1, h2⟩, g => by
    subst e
    rw [getF] at g
    by_cases q : k0 = k
    · rw [if_pos q] at g
      cases g
      exact ⟨v, by rw [q]; exact lookup_pos, h1⟩
    · rw [if_neg q] at g
      obtain ⟨w, e1, e2⟩ := IsF.some h2 g
      exact ⟨w, (lookup_neg q).trans e1, e2⟩
theorem IsF.none {Γ : Ga} {H : Hp} : ∀ {ds : List (Str × D)} {vs : List (Str × V)} {k : Str}, IsF Γ H ds vs → getF ds k = none → vs.lookup k = none
  | [], _, _, h, _ => by rw [show _ = [] from h]; rfl
  | (k0, d0) :: r, _, k, ⟨v, s, e, h1, h2⟩, g => by
    subst e
    rw [getF] at g
    by_cases q : k0 = k
    · rw [if_pos q] at g; cases g
    · rw [if_neg q] at g
      exact (lookup_neg q).trans (IsF.none h2 g)
def fldD (n : Nat) (f : Str) : D → Option D
  | .ins c fs => if c = n then getF fs f else none
  | _ => none
def eFld (n : Nat) (f : Str) (g : EF) : EF := fun ρ => (g ρ).bind fun a => (fldD n f a.1).bind fun c => some (c, effm a.2 c)
theorem eFld_some {n : Nat} {f : Str} {g : EF} {ρ : Ev} {d : D} {m : Md} (h : eFld n f g ρ = some (d, m)) : ∃ fs m1, g ρ = some (.ins n fs, m1) ∧ getF fs f = some d ∧ m = effm m1 d := by
  unfold eFld at h
  cases ea : g ρ with
  | none => rw [ea] at h; cases h
  | some a =>
    rw [ea] at h
    obtain ⟨a, ma⟩ := a
    cases a with
    | ins c fs =>
      simp only [Option.bind_some, fldD] at h
      by_cases q : c = n
      · rw [if_pos q] at h
        subst q
        cases ec : getF fs f with
        | none => rw [ec] at h; cases h
        | some e =>
          rw [ec] at h
          simp at h
          obtain ⟨rfl, rfl⟩ := h
          exact ⟨fs, ma, rfl, ec, rfl⟩
      · rw [if_neg q] at h; cases h
    | _ => simp [fldD] at h
theorem pu_fld (n : Nat) {f : Str} (hc : Cls X.K (cm n)) (hn : NoAttr X.K (cm n) f) (ha : PuE cm X a fa) (hb : attributeBase a f X.env (eval a X.env) = eval a X.env := by rfl) : PuE cm X (.Attribute a f pos) (eFld n f fa) := by
  obtain ⟨ta, pa, qa⟩ := ha
  refine ⟨_, pe_fld pa hb, fun x B F ρ σ H d m Q ok hf hQ => ?_⟩
  obtain ⟨fs, m1, ea, ed, rfl⟩ := eFld_some hf
  refine qa x B F ρ σ H _ m1 _ ok ea fun v B' H' g ok' hv => ?_
  obtain ⟨p, dx, vs, rfl, h1, h2⟩ := hv.is ok'
  obtain ⟨w, e1, e2⟩ := h2.some ed
  refine ⟨p, cm n, dx, vs, w, rfl, h1, hc, hn, e1, hQ w B' H' g ok' (hv.part ok' fun R eR ⟨p', dx', vs', ep, k1, k2⟩ => ?_)⟩
  cases ep
  have q := (eR _ _ k1).symm.trans h1
  cases q
  obtain ⟨w', e1', e2'⟩ := k2.some ed
  rw [e1] at e1'
  cases e1'
  exact e2'

/-! ### truth -/
def blD : D → Option Bool
  | .bl b => some b
  | _ => none
def tE (f : EF) : Ev → Option Bool := fun ρ => (f ρ).bind fun a => blD a.1
theorem tE_some {f : EF} {ρ : Ev} {k : Bool} (h : tE f ρ = some k) : ∃ m, f ρ = some (.bl k, m) := by
  unfold tE at h
  cases ea : f ρ with
  | none => rw [ea] at h; cases h
  | some a =>
    rw [ea] at h
    obtain ⟨a, m⟩ := a
    cases a <;> simp [blD] at h
    subst h
    exact ⟨m, rfl⟩
theorem put_val (ha : PuE cm X a fa) (he : ∀ whole, isTrue a X.env whole = (do let v ← whole; standAt a.pos; holding [v] (truthy v)) := by intro _; rfl) : PuT cm X a (tE fa) := by
  obtain ⟨ta, pa, qa⟩ := ha
  refine ⟨_, pt_val pa he, fun x B F ρ σ H k Q ok hf hQ => ?_⟩
  obtain ⟨m, e⟩ := tE_some hf
  refine qa x B F ρ σ H _ m _ ok e fun v B' H' g ok' hv => ?_
  cases hv.is ok'
  exact ⟨k, rfl, hQ B' H' g ok'⟩
/-- a comparison as a test -/
theorem put_cmp {op : CmpOp} {r : R2} {o : D → D → Option D} (hr : OpR X (compareOp op) r) (ho : OkOp (gx X cm) r o) (ha : PuE cm X a fa) (hb : PuE cm X b fb) (hm : behindInMarks op b = false) : PuT cm X (.Compare a [op] [b] pos) (tE (e2 o fa fb)) := by
  obtain ⟨ta, pa, qa⟩ := ha
  obtain ⟨tb, pb, qb⟩ := hb
  refine ⟨_, pt_cmpR hr pa pb hm, fun x B F ρ σ H k Q ok hf hQ => ?_⟩
  obtain ⟨m, e⟩ := tE_some hf
  obtain ⟨da, m1, db, m2, ea, eb, ed, rfl⟩ := e2_some e
  refine two (R := fun v u H2 => r v u H2 fun x H' => ∃ k, x = .bl k ∧ Q k H') qa qb ok ea eb fun v u B' H' g ok' hv hu => ?_
  refine ho H' da db _ v u _ ed (hv.is ok') (hu.is ok') fun w H2 bn => ?_
  obtain ⟨B2, g2, ok2, hw⟩ := ok'.born' bn
  cases hw
  exact ⟨k, rfl, hQ B2 H2 (g.trans g2) ok2⟩
theorem put_lt (ha : PuE cm X a fa) (hb : PuE cm X b fb) : PuT cm X (.Compare a [.Lt] [b] pos) (tE (e2 ltD fa fb)) := put_cmp op_lt (ok_cmp _) ha hb (nomark _)
theorem put_le (ha : PuE cm X a fa) (hb : PuE cm X b fb) : PuT cm X (.Compare a [.LtE] [b] pos) (tE (e2 leD fa fb)) := put_cmp op_le (ok_cmp _) ha hb (nomark _)
theorem put_gt (ha : PuE cm X a fa) (hb : PuE cm X b fb) : PuT cm X (.Compare a [.Gt] [b] pos) (tE (e2 gtD fa fb)) := put_cmp op_gt (ok_cmp _) ha hb (nomark _)
theorem put_ge (ha : PuE cm X a fa) (hb : PuE cm X b fb) : PuT cm X (.Compare a [.GtE] [b] pos) (tE (e2 geD fa fb)) := put_cmp op_ge (ok_cmp _) ha hb (nomark _)
theorem put_eq (hu : X.A.units + 64 < cLine) (ha : PuE cm X a fa) (hb : PuE cm X b fb) : PuT cm X (.Compare a [.Eq] [b] pos) (tE (e2 eqDD fa fb)) := put_cmp (op_eqD hu) ok_eq ha hb (nomark _)
theorem put_ne (hu : X.A.units + 64 < cLine) (ha : PuE cm X a fa) (hb : PuE cm X b fb) : PuT cm X (.Compare a [.NotEq] [b] pos) (tE (e2 neDD fa fb)) := put_cmp (op_neD hu) ok_ne ha hb (nomark _)
theorem put_in (hu : X.A.units + 65 < cLine) (ha : PuE cm X a fa) (hb : PuE cm X b fb) (hm : behindInMarks .In b = false := by rfl) : PuT cm X (.Compare a [.In] [b] pos) (tE (e2 inD fa fb)) :=
  put_cmp ((op_inD hu).or (op_in_seq.or ((op_din (by omega)).or op_in_sign))) ok_in ha hb hm
theorem put_nin (hu : X.A.units + 65 < cLine) (ha : PuE cm X a fa) (hb : PuE cm X b fb) (hm : behindInMarks .NotIn b = false := by rfl) : PuT cm X (.Compare a [.NotIn] [b] pos) (tE (e2 ninD fa fb)) :=
  put_cmp ((op_notInD hu).or (op_notIn_seq.or ((op_dnotin (by omega)).or op_notIn_sign))) ok_nin ha hb hm
theorem put_isN {j pos'} (ha : PuE cm X a fa) : PuT cm X (.Compare a [.Is] [.Constant .none j pos'] pos) (tE (e1 isND fa)) := by
  obtain ⟨ta, pa, qa⟩ := ha
  refine ⟨_, pt_cmp (pc_isN pa) rfl, fun x B F ρ σ H k Q ok hf hQ => ?_⟩
  obtain ⟨m, e⟩ := tE_some hf
  obtain ⟨da, m1, ea, ed, rfl⟩ := e1_some e
  cases ed
  exact qa x B F ρ σ H da m1 _ ok ea fun v B' H' g ok' hv => ⟨_, rfl, by rw [isN_of (hv.is ok')]; exact hQ B' H' g ok'⟩
theorem put_notN {j pos'} (ha : PuE cm X a fa) : PuT cm X (.Compare a [.IsNot] [.Constant .none j pos'] pos) (tE (e1 notND fa)) := by
  obtain ⟨ta, pa, qa⟩ := ha
  refine ⟨_, pt_cmp (pc_notN pa) rfl, fun x B F ρ σ H k Q ok hf hQ => ?_⟩
  obtain ⟨m, e⟩ := tE_some hf
  obtain ⟨da, m1, ea, ed, rfl⟩ := e1_some e
  cases ed
  exact qa x B F ρ σ H da m1 _ ok ea fun v B' H' g ok' hv => ⟨_, rfl, by rw [isN_of (hv.is ok')]; exact hQ B' H' g ok'⟩
structure PuW (cm : Nat → Addr) (X : Cx) (e : Expr) (f : Ev → Option Bool) : Prop where
  ex : ∃ t, PW X e t ∧ ∀ (x : Fx) (B : Hp) (F : Nat → List Addr) (ρ : Ev) (σ : St) (H : Hp) (b : Bool) (Q : Bool → Hp → Prop), Ok (gx X cm) x B F ρ σ H → f ρ = some b →
    (∀ B' H', Gr B H B' H' → Ok (gx X cm) x B' F ρ σ H' → Q b H') → t σ H Q
theorem PuW.pt {f : Ev → Option Bool} (h : PuW cm X a f) : PuT cm X a f := by
  obtain ⟨t, p, q⟩ := h.ex
  exact ⟨t, p.pt, q⟩
variable {ga gb : Ev → Option Bool} {rest : List Expr}
def tAndD (f g : Ev → Option Bool) : Ev → Option Bool := fun ρ => (f ρ).bind fun k => if k = true then g ρ else some false
def tOrD (f g : Ev → Option Bool) : Ev → Option Bool := fun ρ => (f ρ).bind fun k => if k = true then some true else g ρ
def tNotD (f : Ev → Option Bool) : Ev → Option Bool := fun ρ => (f ρ).map not
theorem putw_one_and (h : PuT cm X a ga) : PuW cm X (.BoolOp .And [a] pos) ga := by
  obtain ⟨t, p, q⟩ := h
  exact ⟨t, pw_and1 p, q⟩
theorem putw_one_or (h : PuT cm X a ga) : PuW cm X (.BoolOp .Or [a] pos) ga := by
  obtain ⟨t, p, q⟩ := h
  exact ⟨t, pw_or1 p, q⟩
theorem putw_and (h : PuT cm X a ga) (k : PuW cm X (.BoolOp .And (b :: rest) pos) gb) : PuW cm X (.BoolOp .And (a :: b :: rest) pos) (tAndD ga gb) := by
  obtain ⟨t, p, q⟩ := h
  obtain ⟨t2, p2, q2⟩ := k.ex
  refine ⟨_, pw_and p p2, fun x B F ρ σ H k Q ok hf hQ => ?_⟩
  unfold tAndD at hf
  cases e : ga ρ with
  | none => rw [e] at hf; cases hf
  | some c =>
    rw [e] at hf
    refine q x B F ρ σ H c _ ok e fun B' H' g ok' => ?_
    cases c with
    | true => exact iteT (q2 x B' F ρ σ H' k _ ok' (by simpa using hf) fun B2 H2 g2 ok2 => hQ B2 H2 (g.trans g2) ok2)
    | false => simp at hf; subst hf; exact iteF (hQ B' H' g ok')
theorem putw_or (h : PuT cm X a ga) (k : PuW cm X (.BoolOp .Or (b :: rest) pos) gb) : PuW cm X (.BoolOp .Or (a :: b :: rest) pos) (tOrD ga gb) := by
  obtain ⟨t, p, q⟩ := h
  obtain ⟨t2, p2, q2⟩ := k.ex
  refine ⟨_, pw_or p p2, fun x B F ρ σ H k Q ok hf hQ => ?_⟩
  unfold tOrD at hf
  cases e : ga ρ with
  | none => rw [e] at hf; cases hf
  | some c =>
    rw [e] at hf
    refine q x B F ρ σ H c _ ok e fun B' H' g ok' => ?_
    cases c with
    | false => exact iteF (q2 x B' F ρ σ H' k _ ok' (by simpa using hf) fun B2 H2 g2 ok2 => hQ B2 H2 (g.trans g2) ok2)
    | true => simp at hf; subst hf; exact iteT (hQ B' H' g ok')
theorem put_not (h : PuT cm X a ga) : PuT cm X (.UnaryOp .Not a pos) (tNotD ga) := by
  obtain ⟨t, p, q⟩ := h
  refine ⟨_, pt_not p, fun x B F ρ σ H k Q ok hf hQ => ?_⟩
  unfold tNotD at hf
  cases e : ga ρ with
  | none => rw [e] at hf; cases hf
  | some c =>
    rw [e] at hf
    cases hf
    exact q x B F ρ σ H c _ ok e fun B' H' g ok' => hQ B' H' g ok'
/-- values True and False -/
def eAnd (f g : EF) : EF := fun ρ => (f ρ).bind fun a => (blD a.1).bind fun k => if k = true then g ρ else some (.bl false, .new)
def eOr (f g : EF) : EF := fun ρ => (f ρ).bind fun a => (blD a.1).bind fun k => if k = true then some (.bl true, .new) else g ρ
def notD : D → Option D
  | .bl b => some (.bl !b)
  | _ => none
theorem pu_one {op} (h : PuE cm X a fa) : PuE cm X (.BoolOp op [a] pos) fa := by
  obtain ⟨t, p, q⟩ := h
  exact ⟨t, pe_one p, q⟩
theorem pu_and (h : PuE cm X a fa) (k : PuE cm X (.BoolOp .And (b :: rest) pos) fb) : PuE cm X (.BoolOp .And (a :: b :: rest) pos) (eAnd fa fb) := by
  obtain ⟨t, p, q⟩ := h
  obtain ⟨t2, p2, q2⟩ := k
  refine ⟨_, pe_and p p2, fun x B F ρ σ H d m Q ok hf hQ => ?_⟩
  unfold eAnd at hf
  cases e : fa ρ with
  | none => rw [e] at hf; cases hf
  | some c =>
    rw [e] at hf
    obtain ⟨c, mc⟩ := c
    cases c <;> simp [blD] at hf
    rename_i c
    refine q x B F ρ σ H _ mc _ ok e fun v B' H' g ok' hv => ?_
    cases hv.is ok'
    refine ⟨c, rfl, ?_⟩
    cases c with
    | true => exact iteT (q2 x B' F ρ σ H' d m _ ok' (by simpa using hf) fun v B2 H2 g2 ok2 hv => hQ v B2 H2 (g.trans g2) ok2 hv)
    | false => simp at hf; obtain ⟨rfl, rfl⟩ := hf; exact iteF (hQ _ B' H' g ok' rfl)
theorem pu_or (h : PuE cm X a fa) (k : PuE cm X (.BoolOp .Or (b :: rest) pos) fb) : PuE cm X (.BoolOp .Or (a :: b :: rest) pos) (eOr fa fb) := by
  obtain ⟨t, p, q⟩ := h
  obtain ⟨t2, p2, q2⟩ := k
  refine ⟨_, pe_or p p2, fun x B F ρ σ H d m Q ok hf hQ => ?_⟩
  unfold eOr at hf
  cases e : fa ρ with
  | none => rw [e] at hf; cases hf
  | some c =>
    rw [e] at hf
    obtain ⟨c, mc⟩ := c
    cases c <;> simp [blD] at hf
    rename_i c
    refine q x B F ρ σ H _ mc _ ok e fun v B' H' g ok' hv => ?_
    cases hv.is ok'
    refine ⟨c, rfl, ?_⟩
    cases c with
    | false => exact iteF (q2 x B' F ρ σ H' d m _ ok' (by simpa using hf) fun v B2 H2 g2 ok2 hv => hQ v B2 H2 (g.trans g2) ok2 hv)
    | true => simp at hf; obtain ⟨rfl, rfl⟩ := hf; exact iteT (hQ _ B' H' g ok' rfl)
theorem pu_not (ha : PuE cm X a fa) : PuE cm X (.UnaryOp .Not a pos) (e1 notD fa) :=
  pu_op1 (r := fun v H Q => ∃ c, v = .bl c ∧ Q (.bl (!c)) H) (fun _ pa => pe_not pa) (fun H d c v Q e h hQ => by
    unfold notD at e
    split at e
    · cases e; cases h; exact ⟨_, rfl, hQ _ _ (.atom rfl)⟩
    · cases e) ha
def eIf (t : Ev → Option Bool) (f g : EF) : EF := fun ρ => (t ρ).bind fun k => if k = true then f ρ else g ρ
theorem pu_if (ht : PuT cm X c gb) (ha : PuE cm X a fa) (hb : PuE cm X b fb) : PuE cm X (.IfExp c a b pos) (eIf gb fa fb) := by
  obtain ⟨t, p, q⟩ := ht
  obtain ⟨ta, pa, qa⟩ := ha
  obtain ⟨tb, pb, qb⟩ := hb
  refine ⟨_, pe_ifExp p pa pb, fun x B F ρ σ H d m Q ok hf hQ => ?_⟩
  unfold eIf at hf
  cases e : gb ρ with
  | none => rw [e] at hf; cases hf
  | some k =>
    rw [e] at hf
    refine q x B F ρ σ H k _ ok e fun B' H' g ok' => ?_
    cases k with
    | true => exact iteT (qa x B' F ρ σ H' d m _ ok' (by simpa using hf) fun v B2 H2 g2 ok2 hv => hQ v B2 H2 (g.trans g2) ok2 hv)
    | false => exact iteF (qb x B' F ρ σ H' d m _ ok' (by simpa using hf) fun v B2 H2 g2 ok2 hv => hQ v B2 H2 (g.trans g2) ok2 hv)
end
end DL

/-! DL6: arguments, displays, slices, calls of defs and of built-ins. -/
namespace DL
open PySem L2

section
variable {cm : Nat → Addr} {X : Cx} {a b c e : Expr} {es : List Expr} {fa fb fc : EF} {pos : Pos}
abbrev AF := Ev → Option (List (D × Md))
/-! ### arguments -/
def aNil : AF := fun _ => some []
def aCons (f : EF) (g : AF) : AF := fun ρ => (f ρ).bind fun a => (g ρ).bind fun r => some (a :: r)
theorem aCons_some {f : EF} {g : AF} {ρ : Ev} {as : List (D × Md)} (h : aCons f g ρ = some as) : ∃ a r, f ρ = some a ∧ g ρ = some r ∧ as = a :: r := by
  unfold aCons at h
  cases ea : f ρ with
  | none => rw [ea] at h; cases h
  | some a =>
    cases eb : g ρ with
    | none => rw [ea, eb] at h; cases h
    | some r =>
      rw [ea, eb] at h
      cases h
      exact ⟨a, r, rfl, rfl, rfl⟩
theorem pua_nil : PuA cm X [] aNil :=
  ⟨_, pa_nil, fun x B F ρ σ H ds Q ok hf hQ => by cases hf; exact hQ [] B H (Gr.refl B H) ok .nil⟩
theorem pua_cons {f : EF} {g : AF} (ha : PuE cm X e f) (hr : PuA cm X es g) (hs : starEach (e :: es) X.env = (false, eval e X.env) :: starEach es X.env := by rfl) : PuA cm X (e :: es) (aCons f g) := by
  obtain ⟨ta, pa, qa⟩ := ha
  obtain ⟨tr, pr, qr⟩ := hr
  refine ⟨_, pa_cons pa pr hs, fun x B F ρ σ H ds Q ok hf hQ => ?_⟩
  obtain ⟨⟨d, m⟩, r, e1, e2, rfl⟩ := aCons_some hf
  refine qa x B F ρ σ H d m _ ok e1 fun v B1 H1 g1 ok1 hv => ?_
  refine qr x B1 F ρ σ H1 r _ ok1 e2 fun vs B2 H2 g2 ok2 hvs => ?_
  exact hQ (v :: vs) B2 H2 (g1.trans g2) ok2 (.cons (hv.mono g2) hvs)
theorem paired_iss {Γ : Ga} {x : Fx} {B : Hp} {F : Nat → List Addr} {ρ : Ev} {σ : St} {H : Hp} (ok : Ok Γ x B F ρ σ H) : ∀ {ds : List (D × Md)} {vs : List V}, Paired (fun (p : D × Md) v => Val Γ x p.2 B H p.1 v) ds vs → Iss Γ H (ds.map (·.1)) vs
  | _, _, .nil => rfl
  | _, _, .cons h t => ⟨_, _, rfl, h.is ok, paired_iss ok t⟩
def isNew : Md → Bool
  | .new => true
  | _ => false
def okNew : List (D × Md) → Bool
  | [] => true
  | p :: r => (flat p.1 || isNew p.2) && okNew r
theorem Val.new {Γ : Ga} {x : Fx} {B : Hp} {F : Nat → List Addr} {ρ : Ev} {σ : St} {H : Hp} (ok : Ok Γ x B F ρ σ H) {d : D} {m : Md} {v : V} (f : (flat d || isNew m) = true) (h : Val Γ x m B H d v) : Is Γ B d v := by
  by_cases q : flat d = true
  · exact (Is.ofFlat q (h.is ok)).mono fun a o e => by
      obtain ⟨e1, xs, rfl⟩ := tupOf_some e
      exact ok.tup _ _ e1
  · rw [Bool.not_eq_true] at q
    rw [q] at f
    cases m with
    | new => exact h
    | _ => simp [isNew] at f
theorem paired_issNew {Γ : Ga} {x : Fx} {B : Hp} {F : Nat → List Addr} {ρ : Ev} {σ : St} {H : Hp} (ok : Ok Γ x B F ρ σ H) : ∀ {ds : List (D × Md)} {vs : List V}, okNew ds = true → Paired (fun (p : D × Md) v => Val Γ x p.2 B H p.1 v) ds vs → Iss Γ B (ds.map (·.1)) vs
  | _, _, _, .nil => rfl
  | (d, m) :: r, _, f, .cons h t => by
    rw [okNew, Bool.and_eq_true] at f
    exact ⟨_, _, rfl, Val.new ok f.1 h, paired_issNew ok f.2 t⟩
theorem upd_upd_same {H B : Hp} (s : Same B H) {p : Addr} {o : HO} : Same (upd B p o) (upd H p o) := fun b u e => by
  by_cases q : b = p
  · subst q; rw [upd_same] at e ⊢; exact e
  · rw [upd_ne q] at e ⊢; exact s _ _ e
theorem same_upd {H : Hp} {p : Addr} {o : HO} (hp : H p = none) : Same H (upd H p o) := fun b u e => by
  rw [upd_ne (fun q => by rw [q, hp] at e; cases e)]
  exact e
/-- a new thing is laid, and known -/
theorem Ok.laid {Γ : Ga} {x : Fx} {B : Hp} {F : Nat → List Addr} {ρ : Ev} {σ : St} {H : Hp} (ok : Ok Γ x B F ρ σ H) {p : Addr} {o : HO} (hp : H p = none) : Gr B H (upd B p o) (upd H p o) ∧ Ok Γ x (upd B p o) F ρ σ (upd H p o) := by
  have hb : B p = none := Same.free ok.bh hp
  have g : Gr B H (upd B p o) (upd H p o) := ⟨same_upd hp, same_upd hb, fun a u e => by
    by_cases q : a = p
    · subst q; exact .inr (.inr hp)
    · rw [upd_ne q] at e; exact .inr (.inl e)⟩
  refine ⟨g, ok.grow g.hh g.bb (upd_upd_same ok.bh) (fun a xs e => ?_) g.new⟩
  by_cases q : a = p
  · subst q; rw [upd_same] at e ⊢; exact e
  · rw [upd_ne q] at e ⊢; exact ok.tup _ _ e
def eDisp (mk : List D → D) (f : AF) : EF := fun ρ => (f ρ).bind fun as => if okNew as = true ∧ as.length ≤ 16777216 then some (mk (as.map (·.1)), .new) else none
theorem paired_len {α β : Type} {G : α → β → Prop} : ∀ {l : List α} {m : List β}, Paired G l m → l.length = m.length
  | _, _, .nil => rfl
  | _, _, .cons _ t => by rw [List.length_cons, List.length_cons, paired_len t]
theorem pu_disp {mk : List D → D} {o : List V → HO} {f : AF} (ht : ∀ t, PA X es t → PE X e (fun σ H Q => t σ H fun xs H1 => xs.length ≤ sizeLine ∧ ∀ p, H1 p = none → Q (.ref p) (upd H1 p (o xs))))
    (hi : ∀ (B : Hp) p ds vs, Iss (gx X cm) (upd B p (o vs)) ds vs → Is (gx X cm) (upd B p (o vs)) (mk ds) (.ref p)) (ha : PuA cm X es f) : PuE cm X e (eDisp mk f) := by
  obtain ⟨t, p, q⟩ := ha
  refine ⟨_, ht t p, fun x B F ρ σ H d m Q ok hf hQ => ?_⟩
  unfold eDisp at hf
  cases ea : f ρ with
  | none => rw [ea] at hf; cases hf
  | some as =>
    rw [ea] at hf
    simp only [Option.bind_some] at hf
    split at hf
    · rename_i h
      cases hf
      refine q x B F ρ σ H as _ ok ea fun vs B' H' g ok' hvs => ?_
      refine ⟨by rw [line_eq, ← paired_len hvs]; exact h.2, fun l hl => ?_⟩
      obtain ⟨g2, ok2⟩ := ok'.laid (o := o vs) hl
      exact hQ _ _ _ (g.trans g2) ok2 (hi B' l _ vs ((paired_issNew ok' h.1 hvs).mono g2.bb))
    · cases hf
theorem pu_tup {k} {f : AF} (ha : PuA cm X es f) : PuE cm X (.Tuple es k pos) (eDisp .tup f) :=
  pu_disp (o := .tup) (fun t p => pe_tup p) (fun B p ds vs h => ⟨p, vs, rfl, upd_same, h⟩) ha
theorem pu_lst {f : AF} (ha : PuA cm X es f) : PuE cm X (.List es pos) (eDisp .lst f) :=
  pu_disp (o := .lst) (fun t p => pe_lst p) (fun B p ds vs h => ⟨p, vs, rfl, upd_same, h⟩) ha

/-! ### slices -/
abbrev OF := Ev → Option (Option Int)
def PuO (cm : Nat → Addr) (X : Cx) (e : Option Expr) (f : OF) : Prop :=
  ∃ t, PO X e t ∧ ∀ (x : Fx) (B : Hp) (F : Nat → List Addr) (ρ : Ev) (σ : St) (H : Hp) (o : Option Int) (Q : Option Int → Hp → Prop), Ok (gx X cm) x B F ρ σ H → f ρ = some o →
    (∀ B' H', Gr B H B' H' → Ok (gx X cm) x B' F ρ σ H' → Q o H') → t σ H Q
def oNone : OF := fun _ => some none
def intD : D → Option Int
  | .int i => some i
  | _ => none
def oSome (f : EF) : OF := fun ρ => (f ρ).bind fun a => (intD a.1).map some
theorem puo_none : PuO cm X none oNone := ⟨_, po_none, fun x B F ρ σ H o Q ok hf hQ => by cases hf; exact hQ B H (Gr.refl B H) ok⟩
theorem puo_some (h : PuE cm X e fa) : PuO cm X (some e) (oSome fa) := by
  obtain ⟨t, p, q⟩ := h
  refine ⟨_, po_some p, fun x B F ρ σ H o Q ok hf hQ => ?_⟩
  unfold oSome at hf
  cases ea : fa ρ with
  | none => rw [ea] at hf; cases hf
  | some a =>
    rw [ea] at hf
    obtain ⟨a, m⟩ := a
    cases a <;> simp [intD] at hf
    subst hf
    refine q x B F ρ σ H _ m _ ok ea fun v B' H' g ok' hv => ?_
    cases hv.is ok'
    exact ⟨_, rfl, hQ B' H' g ok'⟩
/-- xs[lo:hi] -/
def cutL {α : Type} (xs : List α) (lo hi : Option Int) : List α := (xs.drop (HT.sIx xs.length 0 lo)).take (HT.sIx xs.length xs.length hi - HT.sIx xs.length 0 lo)
def slD (a : D) (lo hi : Option Int) : Option D := match a with
  | .lst ds => if flats ds = true then some (.lst (cutL ds lo hi)) else none
  | .tup ds => if flats ds = true then some (.tup (cutL ds lo hi)) else none
  | .scr ns => some (.lst ((cutL ns lo hi).map .int))
  | .str z => if z.length ≤ 16777216 then some (.str (cutS z lo hi)) else none
  | _ => none
theorem Iss.cut {Γ : Ga} {H : Hp} {ds : List D} {vs : List V} (h : Iss Γ H ds vs) (lo hi : Option Int) : Iss Γ H (cutL ds lo hi) (cutV vs lo hi) := by
  unfold cutL cutV
  rw [h.length]
  exact (h.drop _).take _
theorem flats_cut {ds : List D} (h : flats ds = true) (lo hi : Option Int) : flats (cutL ds lo hi) = true := flats_take _ (flats_drop _ h)
theorem cutV_map (ns : List Int) (lo hi : Option Int) : cutV (ns.map V.int) lo hi = (cutL ns lo hi).map V.int := by
  unfold cutL cutV
  rw [List.length_map, List.map_take, List.map_drop]
def eSl (f : EF) (l h : OF) : EF := fun ρ => (f ρ).bind fun a => (l ρ).bind fun lo => (h ρ).bind fun hi => (slD a.1 lo hi).bind fun c => some (c, .new)
abbrev rSlAll (K : PySem.W.Frag) : V → Option Int → Option Int → Hp → VK → Prop := fun x lo hi H Q => rSlL K x lo hi H Q ∨ (rSlS x lo hi H Q ∨ rSlA K x lo hi H Q)
theorem ok_sl {Γ : Ga} (H : Hp) (a c : D) (lo hi : Option Int) (v : V) (Q : VK) (e : slD a lo hi = some c) (ha : Is Γ H a v) (hQ : ∀ w H', Born Γ H H' c w → Q w H') : rSlAll Γ.K v lo hi H Q := by
  unfold slD at e
  split at e
  · split at e
    · rename_i f
      cases e
      obtain ⟨p, vs, rfl, h1, h2⟩ := ha
      exact .inl ⟨p, vs, rfl, SqL.of h1, fun l hl => hQ _ _ (born_lst hl (flats_cut f lo hi) (h2.cut lo hi))⟩
    · cases e
  · split at e
    · rename_i f
      cases e
      obtain ⟨p, vs, rfl, h1, h2⟩ := ha
      refine .inr (.inr ⟨p, vs, rfl, SqT.of h1, fun w => ?_, fun _ l hl => hQ _ _ (born_tup hl (flats_cut f lo hi) (h2.cut lo hi))⟩)
      refine hQ _ _ (Born.flat (flats_cut f lo hi) ⟨p, vs, rfl, h1, ?_⟩)
      have q := h2.cut lo hi
      have e1 : cutV vs lo hi = vs := by unfold cutV; rw [w.1, w.2, List.drop_zero, Nat.sub_zero, List.take_length]
      rw [e1] at q
      exact q
    · cases e
  · cases e
    obtain ⟨p, rfl, h1⟩ := ha
    exact .inl ⟨p, _, rfl, h1, fun l hl => hQ _ _ (by rw [cutV_map]; exact born_lst hl (flats_map_int _) (Iss.scr _))⟩
  · split at e
    · rename_i z h
      cases e
      cases ha
      exact .inr (.inl ⟨z, rfl, by rw [line_eq]; exact h, hQ _ _ (.atom rfl)⟩)
    · cases e
  · cases e
theorem pu_sl {lo hi : Option Expr} {p2 : Pos} {fl fh : OF} (ha : PuE cm X a fa) (hl : PuO cm X lo fl) (hh : PuO cm X hi fh) : PuE cm X (.Subscript a (.Slice lo hi none p2) pos) (eSl fa fl fh) := by
  obtain ⟨t, p, q⟩ := ha
  obtain ⟨tl, pl, ql⟩ := hl
  obtain ⟨th, ph, qh⟩ := hh
  refine ⟨_, pe_slice (sl_list.or (sl_str.or sl_tupA)) p pl ph, fun x B F ρ σ H d m Q ok hf hQ => ?_⟩
  unfold eSl at hf
  cases e1 : fa ρ with
  | none => simp [e1] at hf
  | some a =>
    cases e2 : fl ρ with
    | none => simp [e1, e2] at hf
    | some l =>
      cases e3 : fh ρ with
      | none => simp [e1, e2, e3] at hf
      | some u =>
        cases e4 : slD a.1 l u with
        | none => simp [e1, e2, e3, e4] at hf
        | some c =>
          simp [e1, e2, e3, e4] at hf
          obtain ⟨rfl, rfl⟩ := hf
          refine q x B F ρ σ H _ _ _ ok e1 fun v B1 H1 g1 ok1 hv => ?_
          refine ql x B1 F ρ σ H1 l _ ok1 e2 fun B2 H2 g2 ok2 => ?_
          refine qh x B2 F ρ σ H2 u _ ok2 e3 fun B3 H3 g3 ok3 => ?_
          refine ok_sl (Γ := gx X cm) H3 a.1 c l u v Q e4 (((hv.mono g2).mono g3).is ok3) fun w H4 bn => ?_
          obtain ⟨B4, g4, ok4, hw⟩ := ok3.born' bn
          exact hQ w B4 H4 (g1.trans (g2.trans (g3.trans g4))) ok4 hw
def revD : D → Option D
  | .lst ds => if flats ds = true then some (.lst ds.reverse) else none
  | _ => none
theorem pu_rev {k : Nat} {p1 p2 p3 : Pos} (ha : PuE cm X a fa) : PuE cm X (.Subscript a (.Slice none none (some (.UnaryOp .USub (.Constant (.int 1) k p1) p2)) p3) pos) (e1 revD fa) :=
  pu_op1 (r := fun v H Q => ∃ a xs, v = .ref a ∧ SqL X.K H a xs ∧ ∀ p, H p = none → Q (.ref p) (upd H p (.lst xs.reverse))) (fun _ pa => pe_revL pa) (fun H d c v Q e h hQ => by
    unfold revD at e
    split at e
    · split at e
      · rename_i f
        cases e
        obtain ⟨p, vs, rfl, h1, h2⟩ := h
        exact ⟨p, vs, rfl, SqL.of h1, fun l hl => hQ _ _ (born_lst hl (flats_reverse f) h2.reverse)⟩
      · cases e
    · cases e) ha

/-! ### calls -/
/-- the promise of a def that changes nothing: f of the arguments' data -/
def spP (K : PySem.W.Frag) (cm : Nat → Addr) (w : World) (f : List D → Option D) : Sp := fun vs H Q _ => ∃ ds d, Iss ⟨K, cm, w⟩ H ds vs ∧ f ds = some d ∧ ∀ v H', Born ⟨K, cm, w⟩ H H' d v → Q v H'
/-- a def that may be called by its name -/
def CalP (P : Program) (w : World) (K : PySem.W.Frag) (mg : Str → Option Value) (base : Heap) (cm : Nat → Addr) (k : Nat) (x : Str) (f : List D → Option D) : Prop :=
  ∃ (fa : Addr) (fd : FuncData) (ps : List Str), FnOk P w K mg base CX0 k fa fd ps (spP K cm w f) ∧ mg x = some (.ref fa) ∧ PySem.W.keepIn K (.ref fa) = true ∧ Binds K fd ps []
/-- a method of the class number n -/
def MetP (P : Program) (w : World) (K : PySem.W.Frag) (mg : Str → Option Value) (base : Heap) (cm : Nat → Addr) (k : Nat) (n : Nat) (m : Str) (f : List D → Option D) : Prop :=
  ∃ (fa : Addr) (fd : FuncData) (ps : List Str), FnOk P w K mg base CX0 k fa fd ps (spP K cm w f) ∧ Cls K (cm n) ∧ Meth K (cm n) m fa ∧ Binds K fd ps []
def eCall (f : List D → Option D) (g : AF) : EF := fun ρ => (g ρ).bind fun as => (f (as.map (·.1))).bind fun d => some (d, .new)
theorem eCall_some {f : List D → Option D} {g : AF} {ρ : Ev} {d : D} {m : Md} (h : eCall f g ρ = some (d, m)) : ∃ as, g ρ = some as ∧ f (as.map (·.1)) = some d ∧ m = .new := by
  unfold eCall at h
  cases ea : g ρ with
  | none => rw [ea] at h; cases h
  | some as =>
    rw [ea] at h
    simp only [Option.bind_some] at h
    cases ed : f (as.map (·.1)) with
    | none => rw [ed] at h; cases h
    | some c =>
      rw [ed] at h
      simp at h
      exact ⟨as, rfl, by rw [ed, h.1], h.2.symm⟩
theorem pu_call {k j : Nat} {x : Str} {f : List D → Option D} {g : AF} {p : Pos} (C : CalP X.prog X.w X.K X.mg X.base cm k x f) (hr : Room j X.A) (hk : k ≤ j) (ha : PuA cm X (e :: es) g) (hg : Gl X x := by rfl)
    (hdb : (x == ("__debug__" : Str)) = false := by decide) (he : starEach (e :: es) X.env = (false, eval e X.env) :: starEach es X.env := by rfl) (hpl : (backTo pos (starEach es X.env)).any (·.1) = false := by rfl) :
    PuE cm X (.Call (.Name x p) (e :: es) [] pos) (eCall f g) := by
  obtain ⟨fa, fd, ps, F, hm, kp, hb⟩ := C
  obtain ⟨t, pa, qa⟩ := ha
  refine ⟨_, pe_call F (hr.mono hk) hg hm kp hb .nil pass0 pa hdb he hpl, fun x B F ρ σ H d m Q ok hf hQ => ?_⟩
  obtain ⟨as, e1, e2, rfl⟩ := eCall_some hf
  refine qa x B F ρ σ H as _ ok e1 fun vs B' H' g ok' hvs => ?_
  rw [List.append_nil]
  refine ⟨_, d, paired_iss ok' hvs, e2, fun v H2 bn => ?_⟩
  obtain ⟨B2, g2, ok2, hw⟩ := ok'.born' bn
  exact hQ v B2 H2 (g.trans g2) ok2 hw
/-- o.m(..), o an instance of the class number n; f of the instance and the arguments -/
def eMeth (n : Nat) (m : Str) (f : List D → Option D) (fo : EF) (g : AF) : EF := fun ρ => (fo ρ).bind fun o => match o.1 with
  | .ins c fs => if c = n ∧ getF fs m = none then (g ρ).bind fun as => (f (.ins c fs :: as.map (·.1))).bind fun d => some (d, .new) else none
  | _ => none
theorem eMeth_some {n : Nat} {m : Str} {f : List D → Option D} {fo : EF} {g : AF} {ρ : Ev} {d : D} {md : Md} (h : eMeth n m f fo g ρ = some (d, md)) :
    ∃ fs m1 as, fo ρ = some (.ins n fs, m1) ∧ getF fs m = none ∧ g ρ = some as ∧ f (.ins n fs :: as.map (·.1)) = some d ∧ md = .new := by
  unfold eMeth at h
  cases eo : fo ρ with
  | none => rw [eo] at h; cases h
  | some o =>
    rw [eo] at h
    obtain ⟨o, m1⟩ := o
    cases o with
    | ins c fs =>
      simp only [Option.bind_some] at h
      split at h
      · rename_i q
        obtain ⟨rfl, q⟩ := q
        cases ea : g ρ with
        | none => rw [ea] at h; cases h
        | some as =>
          rw [ea] at h
          simp only [Option.bind_some] at h
          cases ed : f (.ins c fs :: as.map (·.1)) with
          | none => rw [ed] at h; cases h
          | some u =>
            rw [ed] at h
            simp at h
            exact ⟨fs, m1, as, rfl, q, rfl, by rw [ed, h.1], h.2.symm⟩
      · cases h
    | _ => simp at h
theorem pu_meth {k j n : Nat} {m : Str} {f : List D → Option D} {fo : EF} {g : AF} {apos : Pos} {o : Expr} (pl : Sem Bool) (C : MetP X.prog X.w X.K X.mg X.base cm k n m f) (hr : Room j X.A) (hk : k ≤ j) (ho : PuE cm X o fo) (ha : PuA cm X (e :: es) g)
    (hst : starEach (e :: es) X.env = (false, eval e X.env) :: starEach es X.env := by rfl) (hpl : (backTo pos (starEach es X.env)).any (·.1) = false := by rfl)
    (ht : eval (.Call (.Attribute o m apos) (e :: es) [] pos) X.env = (do
      let ov ← eval o X.env
      standAt apos.atName
      let (f, first) ← holding [ov] (getMethod ov m pl)
      callWith pos f first (backTo pos (starEach (e :: es) X.env)) (backToKw pos (keywordEach [] X.env))) := by rfl) :
    PuE cm X (.Call (.Attribute o m apos) (e :: es) [] pos) (eMeth n m f fo g) := by
  obtain ⟨fa, fd, ps, F, hc, hm, hb⟩ := C
  obtain ⟨to, po, qo⟩ := ho
  obtain ⟨t, pa, qa⟩ := ha
  refine ⟨_, pe_meth po hc hm F (hr.mono hk) hb .nil pass0 pa hst hpl ht, fun x B F ρ σ H d md Q ok hf hQ => ?_⟩
  obtain ⟨fs, m1, as, e1, e2, e3, e4, rfl⟩ := eMeth_some hf
  refine qo x B F ρ σ H _ m1 _ ok e1 fun v B1 H1 g1 ok1 hv => ?_
  obtain ⟨p, dx, vs, rfl, h1, h2⟩ := hv.is ok1
  refine ⟨p, dx, vs, rfl, h1, h2.none e2, ?_⟩
  refine qa x B1 F ρ σ H1 as _ ok1 e3 fun us B2 H2 g2 ok2 hus => ?_
  rw [List.append_nil]
  refine ⟨.ins n fs :: as.map (·.1), d, ⟨_, _, rfl, (hv.mono g2).is ok2, paired_iss ok2 hus⟩, e4, fun v H3 bn => ?_⟩
  obtain ⟨B3, g3, ok3, hw⟩ := ok2.born' bn
  exact hQ v B3 H3 (g1.trans (g2.trans g3)) ok3 hw

/-- a call by values: o of the arguments' data -/
def OkCall (Γ : Ga) (r : List V → Hp → VK → Prop) (o : List D → Option D) : Prop :=
  ∀ (H : Hp) (ds : List D) (d : D) (vs : List V) (Q : VK), o ds = some d → Iss Γ H ds vs → (∀ w H', Born Γ H H' d w → Q w H') → r vs H Q
theorem pu_cb {r : List V → Hp → VK → Prop} {o : List D → Option D} {g : AF} (ht : ∀ t, PA X es t → PE X e (tCB r t)) (ho : OkCall (gx X cm) r o) (ha : PuA cm X es g) : PuE cm X e (eCall o g) := by
  obtain ⟨t, pa, qa⟩ := ha
  refine ⟨_, ht t pa, fun x B F ρ σ H d m Q ok hf hQ => ?_⟩
  obtain ⟨as, e1, e2, rfl⟩ := eCall_some hf
  refine qa x B F ρ σ H as _ ok e1 fun vs B' H' g ok' hvs => ?_
  refine ho H' _ d vs Q e2 (paired_iss ok' hvs) fun v H2 bn => ?_
  obtain ⟨B2, g2, ok2, hw⟩ := ok'.born' bn
  exact hQ v B2 H2 (g.trans g2) ok2 hw
theorem iss1 {Γ : Ga} {H : Hp} {d : D} {vs : List V} (h : Iss Γ H [d] vs) : ∃ v, vs = [v] ∧ Is Γ H d v := by
  obtain ⟨v, r, e, h1, h2⟩ := h
  rw [show r = [] from h2] at e
  exact ⟨v, e, h1⟩
theorem iss2 {Γ : Ga} {H : Hp} {d d' : D} {vs : List V} (h : Iss Γ H [d, d'] vs) : ∃ v u, vs = [v, u] ∧ Is Γ H d v ∧ Is Γ H d' u := by
  obtain ⟨v, r, e, h1, h2⟩ := h
  obtain ⟨u, e2, h3⟩ := iss1 h2
  exact ⟨v, u, by rw [e, e2], h1, h3⟩
def lenD : List D → Option D
  | [.lst ds] => some (.int (ds.length : Nat))
  | [.tup ds] => some (.int (ds.length : Nat))
  | [.scr ns] => some (.int (ns.length : Nat))
  | [.wtp xs] => some (.int (xs.length : Nat))
  | [.str z] => if z.length ≤ 16777216 then some (.int (z.length : Nat)) else none
  | _ => none
theorem ok_len {Γ : Ga} : OkCall Γ (fun xs H Q => ∃ x n, xs = [x] ∧ LenV Γ.K x H n ∧ Q (.int (n : Nat)) H) lenD := by
  intro H ds d vs Q e h hQ
  unfold lenD at e
  split at e
  · cases e
    obtain ⟨v, rfl, p, us, rfl, h1, h2⟩ := iss1 h
    exact ⟨_, _, rfl, .inl ⟨us, SqL.of h1, h2.length.symm⟩, hQ _ _ (.atom rfl)⟩
  · cases e
    obtain ⟨v, rfl, p, us, rfl, h1, h2⟩ := iss1 h
    exact ⟨_, _, rfl, .inr ⟨us, SqT.of h1, h2.length.symm⟩, hQ _ _ (.atom rfl)⟩
  · cases e
    obtain ⟨v, rfl, p, rfl, h1⟩ := iss1 h
    exact ⟨_, _, rfl, .inl ⟨_, h1, (List.length_map _).symm⟩, hQ _ _ (.atom rfl)⟩
  · cases e
    obtain ⟨v, rfl, p, rfl, h1⟩ := iss1 h
    exact ⟨_, _, rfl, .inr ⟨_, h1, (List.length_map _).symm⟩, hQ _ _ (.atom rfl)⟩
  · split at e
    · rename_i q
      cases e
      obtain ⟨v, rfl, rfl⟩ := iss1 h
      exact ⟨_, _, rfl, ⟨by rw [line_eq]; exact q, rfl⟩, hQ _ _ (.atom rfl)⟩
    · cases e
  · cases e
theorem pu_len {g : AF} {p : Pos} (hm : X.mg "len" = none) (ha : PuA cm X (e :: es) g) (hg : Gl X "len" := by rfl)
    (he : starEach (e :: es) X.env = (false, eval e X.env) :: starEach es X.env := by rfl) (hpl : (backTo pos (starEach es X.env)).any (·.1) = false := by rfl) : PuE cm X (.Call (.Name "len" p) (e :: es) [] pos) (eCall lenD g) :=
  pu_cb (fun t pa => pe_callB call_len hg hm PySem.boot_len pa (by decide) (by decide) he hpl) ok_len ha
def absD : List D → Option D
  | [.int i] => some (.int (if i < 0 then -i else i))
  | _ => none
theorem pu_abs {g : AF} {p : Pos} (hm : X.mg "abs" = none) (ha : PuA cm X (e :: es) g) (hg : Gl X "abs" := by rfl)
    (he : starEach (e :: es) X.env = (false, eval e X.env) :: starEach es X.env := by rfl) (hpl : (backTo pos (starEach es X.env)).any (·.1) = false := by rfl) : PuE cm X (.Call (.Name "abs" p) (e :: es) [] pos) (eCall absD g) :=
  pu_cb (fun t pa => pe_callB call_abs hg hm (by decide +kernel) pa (by decide) (by decide) he hpl) (fun H ds d vs Q e h hQ => by
    unfold absD at e
    split at e
    · cases e
      obtain ⟨v, rfl, rfl⟩ := iss1 h
      exact ⟨_, rfl, hQ _ _ (.atom rfl)⟩
    · cases e) ha
def maxD : List D → Option D
  | [.int i, .int j] => some (.int (if j > i then j else i))
  | _ => none
theorem pu_max {g : AF} {p : Pos} (hm : X.mg "max" = none) (ha : PuA cm X (e :: es) g) (hc : X.calm = true := by rfl) (hg : Gl X "max" := by rfl)
    (he : starEach (e :: es) X.env = (false, eval e X.env) :: starEach es X.env := by rfl) (hpl : (backTo pos (starEach es X.env)).any (·.1) = false := by rfl) : PuE cm X (.Call (.Name "max" p) (e :: es) [] pos) (eCall maxD g) :=
  pu_cb (fun t pa => pe_callB (call_max2 hc) hg hm (by decide +kernel) pa (by decide) (by decide) he hpl) (fun H ds d vs Q e h hQ => by
    unfold maxD at e
    split at e
    · cases e
      obtain ⟨v, u, rfl, rfl, rfl⟩ := iss2 h
      exact ⟨_, _, rfl, hQ _ _ (.atom rfl)⟩
    · cases e) ha
def intC : List D → Option D
  | [.int i] => some (.int i)
  | [.bl k] => some (.int (if k then 1 else 0))
  | _ => none
theorem pu_intc {g : AF} {p : Pos} (hm : X.mg "int" = none) (ha : PuA cm X (e :: es) g) (hg : Gl X "int" := by rfl)
    (he : starEach (e :: es) X.env = (false, eval e X.env) :: starEach es X.env := by rfl) (hpl : (backTo pos (starEach es X.env)).any (·.1) = false := by rfl) : PuE cm X (.Call (.Name "int" p) (e :: es) [] pos) (eCall intC g) :=
  pu_cb (fun t pa => pe_callTy call_int1 hg hm (by decide +kernel) pa (by decide) (by decide) he hpl) (fun H ds d vs Q e h hQ => by
    unfold intC at e
    split at e
    · cases e
      obtain ⟨v, rfl, rfl⟩ := iss1 h
      exact .inl ⟨_, rfl, hQ _ _ (.atom rfl)⟩
    · cases e
      obtain ⟨v, rfl, rfl⟩ := iss1 h
      exact .inr ⟨_, rfl, hQ _ _ (.atom rfl)⟩
    · cases e) ha
def lstC : List D → Option D
  | [.lst ds] => if flats ds = true then some (.lst ds) else none
  | [.tup ds] => if flats ds = true then some (.lst ds) else none
  | [.scr ns] => some (.lst (ns.map .int))
  | _ => none
theorem pu_lstc {g : AF} {p : Pos} (hm : X.mg "list" = none) (ha : PuA cm X (e :: es) g) (hg : Gl X "list" := by rfl)
    (he : starEach (e :: es) X.env = (false, eval e X.env) :: starEach es X.env := by rfl) (hpl : (backTo pos (starEach es X.env)).any (·.1) = false := by rfl) : PuE cm X (.Call (.Name "list" p) (e :: es) [] pos) (eCall lstC g) :=
  pu_cb (fun t pa => pe_callTy call_list_of hg hm (by decide +kernel) pa (by decide) (by decide) he hpl) (fun H ds d vs Q e h hQ => by
    unfold lstC at e
    split at e
    · split at e
      · rename_i f
        cases e
        obtain ⟨v, rfl, p, us, rfl, h1, h2⟩ := iss1 h
        exact ⟨p, us, rfl, .inl (SqL.of h1), fun l hl => hQ _ _ (born_lst hl f h2)⟩
      · cases e
    · split at e
      · rename_i f
        cases e
        obtain ⟨v, rfl, p, us, rfl, h1, h2⟩ := iss1 h
        exact ⟨p, us, rfl, .inr (SqT.of h1), fun l hl => hQ _ _ (born_lst hl f h2)⟩
      · cases e
    · cases e
      obtain ⟨v, rfl, p, rfl, h1⟩ := iss1 h
      exact ⟨p, _, rfl, .inl h1, fun l hl => hQ _ _ (born_lst hl (flats_map_int _) (Iss.scr _))⟩
    · cases e) ha

/-! ### isinstance -/
inductive Ty5 where
  | int | bool | str | list | tuple
def Ty5.nm : Ty5 → String
  | .int => "int" | .bool => "bool" | .str => "str" | .list => "list" | .tuple => "tuple"
def isTy (t : Ty5) : D → Option D
  | .non => some (.bl false)
  | .bl _ => some (.bl (match t with | .int => true | .bool => true | _ => false))
  | .int _ => some (.bl (match t with | .int => true | _ => false))
  | .str _ => some (.bl (match t with | .str => true | _ => false))
  | .tup _ => some (.bl (match t with | .tuple => true | _ => false))
  | .lst _ => some (.bl (match t with | .list => true | _ => false))
  | .scr _ => some (.bl (match t with | .list => true | _ => false))
  | .dic _ => some (.bl false)
  | .wtp _ => none
  | .ins _ _ => none
  | .dn _ _ => none
  | .adr _ => none
theorem isTy_ok {Γ : Ga} {H : Hp} {t : Ty5} {d c : D} {v : V} {Q : VK} (e : isTy t d = some c) (h : Is Γ H d v) (hQ : ∀ w H', Born Γ H H' c w → Q w H') : rIsi Γ.K [v, .ty t.nm] H Q := by
  have go : ∀ (ty : String) (k : Bool), TyX Γ.K H v (.type ty) → kitB ty t.nm = some k → Q (.bl k) H → rIsi Γ.K [v, .ty t.nm] H Q := fun ty k h1 h2 h3 => ⟨v, _, _, _, k, rfl, .ty _, h1, kit_ty h2, h3⟩
  cases d with
  | non => cases e; cases h; exact go "NoneType" _ (.base .non) (by cases t <;> decide +kernel) (hQ _ _ (.atom rfl))
  | bl => cases e; cases h; exact go "bool" _ (.base (.bl _)) (by cases t <;> decide +kernel) (hQ _ _ (.atom rfl))
  | int => cases e; cases h; exact go "int" _ (.base (.int _)) (by cases t <;> decide +kernel) (hQ _ _ (.atom rfl))
  | str => cases e; cases h; exact go "str" _ (.base (.str _)) (by cases t <;> decide +kernel) (hQ _ _ (.atom rfl))
  | tup => cases e; obtain ⟨p, us, rfl, h1, h2⟩ := h; exact go "tuple" _ (.base (.tup h1)) (by cases t <;> decide +kernel) (hQ _ _ (.atom rfl))
  | lst => cases e; obtain ⟨p, us, rfl, h1, h2⟩ := h; exact go "list" _ (.base (.lst h1)) (by cases t <;> decide +kernel) (hQ _ _ (.atom rfl))
  | dic => cases e; obtain ⟨p, us, rfl, h1, h2⟩ := h; exact go "dict" _ (.base (.dK h1)) (by cases t <;> decide +kernel) (hQ _ _ (.atom rfl))
  | scr =>
    cases e
    obtain ⟨p, rfl, h1⟩ := h
    refine go "list" _ ?_ (by cases t <;> decide +kernel) (hQ _ _ (.atom rfl))
    rcases h1 with (h1 | ⟨o, h1⟩) | ⟨o, its, n, h1, h2, _⟩
    · exact .base (.lst h1)
    · exact .base (.frz h1)
    · exact .kList h1 h2
  | wtp => simp [isTy] at e
  | ins => simp [isTy] at e
  | dn => simp [isTy] at e
  | adr => simp [isTy] at e
theorem pu_isi {p p2 : Pos} {x : Str} (t : Ty5) (hm : X.mg "isinstance" = none) (hx : X.mg x = none) (hv : bootBuiltins x = some (.type t.nm)) (ha : PuE cm X a fa) (hg : Gl X "isinstance" := by rfl) (hgx : Gl X x := by rfl)
    (hn : x ≠ "__name__" := by decide) (hd : (x == ("__debug__" : Str)) = false := by decide)
    (he : starEach [a, .Name x p2] X.env = (false, eval a X.env) :: starEach [.Name x p2] X.env := by rfl) (hpl : (backTo pos (starEach [.Name x p2] X.env)).any (·.1) = false := by rfl) (he2 : starEach [.Name x p2] X.env = (false, eval (.Name x p2) X.env) :: starEach [] X.env := by rfl) :
    PuE cm X (.Call (.Name "isinstance" p) [a, .Name x p2] [] pos) (e1 (isTy t) fa) :=
  pu_op1 (r := fun v H Q => rIsi X.K [v, .ty t.nm] H Q) (fun _ pa => pe_callB call_isi hg hm (by decide +kernel) (pa_cons pa (pa_cons (pe_bltn (v := .ty t.nm) hgx hx hv rfl hn hd) pa_nil he2) he) (by decide) (by decide) he hpl)
    (fun H d c v Q e h hQ => isTy_ok (Γ := gx X cm) e h hQ) ha

/-! ### texts joined -/
def strsOf : List D → Option (List Str)
  | [] => some []
  | .str x :: r => (strsOf r).map (x :: ·)
  | _ => none
theorem strsOf_is {Γ : Ga} {H : Hp} : ∀ {ds : List D} {ys : List Str} {vs : List V}, strsOf ds = some ys → Iss Γ H ds vs → vs = ys.map V.str
  | [], _, _, e, h => by cases e; exact h
  | d :: r, _, _, e, ⟨v, s, e1, h1, h2⟩ => by
    subst e1
    cases d <;> simp [strsOf] at e
    obtain ⟨ys, e2, rfl⟩ := e
    rw [List.map_cons, ← strsOf_is e2 h2, show v = _ from h1]
def joinD : D → D → Option D
  | .str a, .lst ds => (strsOf ds).bind fun ys => if (ys.map (·.length)).sum + ys.length * a.length ≤ 16777216 then some (.str (Txt.join a ys)) else none
  | _, _ => none
theorem pu_join {apos : Pos} (ha : PuE cm X a fa) (hb : PuE cm X b fb) (hs : starEach [b] X.env = [(false, eval b X.env)] := by rfl) (hbase : attributeBase a "join" X.env (eval a X.env) = eval a X.env := by rfl) (hline : (apos.endLine == pos.line) = true := by rfl) :
    PuE cm X (.Call (.Attribute a "join" apos) [b] [] pos) (e2 joinD fa fb) := by
  obtain ⟨ta, pa, qa⟩ := ha
  obtain ⟨tb, pb, qb⟩ := hb
  refine ⟨_, pe_join pa pb hs hbase hline, fun x B F ρ σ H d m Q ok hf hQ => ?_⟩
  obtain ⟨da, m1, db, m2, ea, eb, ed, rfl⟩ := e2_some hf
  unfold joinD at ed
  split at ed
  · rename_i z ds
    cases q : strsOf ds with
    | none => simp [q] at ed
    | some ys =>
      simp [q] at ed
      obtain ⟨hl, rfl⟩ := ed
      refine qa x B F ρ σ H _ m1 _ ok ea fun v B1 H1 g1 ok1 hv => ?_
      cases hv.is ok1
      refine ⟨⟨_, rfl⟩, ?_⟩
      refine qb x B1 F ρ σ H1 _ m2 _ ok1 eb fun u B2 H2 g2 ok2 hu => ?_
      obtain ⟨p, us, rfl, h1, h2⟩ := hu.is ok2
      refine ⟨z, p, ys, rfl, rfl, .inl (by rw [← strsOf_is q h2]; exact SqL.of h1), hl, hQ _ B2 H2 (g1.trans g2) ok2 rfl⟩
  · cases ed
end
end DL

/-! DL7: targets, what is walked, comprehensions. -/
namespace DL
open PySem L2

/-! ### one reading for all that is pure -/
def tPu (Γ : Ga) (f : EF) : TE := fun σ H Q => ∃ (x : Fx) (B : Hp) (F : Nat → List Addr) (ρ : Ev) (d : D) (m : Md), Ok Γ x B F ρ σ H ∧ f ρ = some (d, m) ∧ ∀ v B' H', Gr B H B' H' → Ok Γ x B' F ρ σ H' → Val Γ x m B' H' d v → Q v H'
theorem PuE.can {cm : Nat → Addr} {X : Cx} {e : Expr} {f : EF} (h : PuE cm X e f) : PE X e (tPu (gx X cm) f) := by
  obtain ⟨t, p, q⟩ := h
  refine ⟨fun pins s σ H Q I w => ?_⟩
  obtain ⟨x, B, F, ρ, d, m, ok, ef, hQ⟩ := w
  exact p.run pins s σ H Q I (q x B F ρ σ H d m Q ok ef hQ)
def tPt (Γ : Ga) (f : Ev → Option Bool) : TT := fun σ H Q => ∃ (x : Fx) (B : Hp) (F : Nat → List Addr) (ρ : Ev) (k : Bool), Ok Γ x B F ρ σ H ∧ f ρ = some k ∧ ∀ B' H', Gr B H B' H' → Ok Γ x B' F ρ σ H' → Q k H'
theorem PuT.can {cm : Nat → Addr} {X : Cx} {e : Expr} {f : Ev → Option Bool} (h : PuT cm X e f) : PT X e (tPt (gx X cm) f) := by
  obtain ⟨t, p, q⟩ := h
  refine ⟨fun pins s σ H Q I w => ?_⟩
  obtain ⟨x, B, F, ρ, k, ok, ef, hQ⟩ := w
  exact p.run pins s σ H Q I (q x B F ρ σ H k Q ok ef hQ)

/-! ### slots stored -/
def mkSl (d : D) (m : Md) : Option Sl := if flat d = true then some (.fn d) else match m with
  | .new => some (.fn d)
  | .par => some (.fa d)
  | .own => none
/-- may the slot be overwritten? -/
def freeS : Sl → Bool
  | .ow _ => false
  | _ => true
def setS (i : Nat) (d : D) (m : Md) (ρ : Ev) : Option Ev := (ρ[i]?).bind fun s => if freeS s = true then (mkSl d m).map fun t => ρ.set i t else none
def offF (F : Nat → List Addr) (i : Nat) : Nat → List Addr := fun j => if j = i then [] else F j
theorem offF_sub {F : Nat → List Addr} {i j : Nat} {a : Addr} (h : a ∈ offF F i j) : a ∈ F j ∧ j ≠ i := by
  unfold offF at h
  split at h
  · cases h
  · rename_i q; exact ⟨h, q⟩
section
variable {Γ : Ga} {x : Fx} {B : Hp} {F : Nat → List Addr} {ρ : Ev} {σ : St} {H : Hp}
/-- a slot that holds nothing of its own is set -/
theorem Ok.put (o : Ok Γ x B F ρ σ H) {i : Nat} {s : Sl} {v : Option V} (h : SlotAt Γ x B H i (some v) [] s) (hi : i < ρ.length) : Ok Γ x B (offF F i) (ρ.set i s) (σ.set i v) H where
  kp := o.kp
  bh := o.bh
  tup := o.tup
  born := o.born
  bk := o.bk
  dom := o.dom
  fk := fun j a ha => o.fk j a (offF_sub ha).1
  dj := fun j k a h1 h2 => o.dj j k a (offF_sub h1).1 (offF_sub h2).1
  nd := fun j => by unfold offF; split; exact List.nodup_nil; exact o.nd j
  out := fun j hj => by
    unfold offF
    split
    · rfl
    · exact o.out j (by simpa using hj)
  len := by rw [List.length_set, List.length_set, o.len]
  at_ := fun j t ht => by
    by_cases q : j = i
    · subst q
      rw [List.getElem?_set_self hi] at ht
      cases ht
      rw [List.getElem?_set_self (by rw [← o.len]; exact hi), show offF F j j = [] from if_pos rfl]
      exact h
    · rw [List.getElem?_set_ne (Ne.symm q)] at ht ⊢
      rw [show offF F i j = F j from if_neg q]
      exact o.at_ j t ht
theorem mkSl_at (o : Ok Γ x B F ρ σ H) {d : D} {m : Md} {v : V} {s : Sl} (h : mkSl d m = some s) (hv : Val Γ x m B H d v) (i : Nat) : SlotAt Γ x B H i (some (some v)) [] s := by
  unfold mkSl at h
  split at h
  · rename_i f
    cases h
    exact ⟨rfl, v, rfl, Val.new o (by rw [f]; rfl) hv⟩
  · split at h
    · cases h; exact ⟨rfl, v, rfl, hv⟩
    · cases h; exact ⟨rfl, v, rfl, hv⟩
    · cases h
theorem setS_some {i : Nat} {d : D} {m : Md} {ρ' : Ev} (h : setS i d m ρ = some ρ') : ∃ s t, ρ[i]? = some s ∧ freeS s = true ∧ mkSl d m = some t ∧ ρ' = ρ.set i t := by
  unfold setS at h
  cases e : ρ[i]? with
  | none => rw [e] at h; cases h
  | some s =>
    rw [e] at h
    simp only [Option.bind_some] at h
    split at h
    · rename_i f
      cases q : mkSl d m with
      | none => rw [q] at h; cases h
      | some t => rw [q] at h; cases h; exact ⟨s, t, rfl, f, rfl, rfl⟩
    · cases h
theorem Ok.setS (o : Ok Γ x B F ρ σ H) {i : Nat} {d : D} {m : Md} {v : V} {ρ' : Ev} (h : setS i d m ρ = some ρ') (hv : Val Γ x m B H d v) : Ok Γ x B (offF F i) ρ' (σ.set i (some v)) H := by
  obtain ⟨s, t, e1, _, e2, rfl⟩ := setS_some h
  exact o.put (mkSl_at o e2 hv i) (List.getElem?_eq_some_iff.mp e1).1
end

/-! ### targets -/
abbrev GF := D → Md → Ev → Option Ev
def PuG (cm : Nat → Addr) (X : Cx) (tg : Expr) (js : List Nat) (g : GF) : Prop :=
  ∃ t, PG X tg t ∧ ∀ (x : Fx) (B : Hp) (F : Nat → List Addr) (ρ ρ' : Ev) (σ : St) (H : Hp) (d : D) (m : Md) (v : V) (Q : St → Hp → Prop), Ok (gx X cm) x B F ρ σ H → Val (gx X cm) x m B H d v → g d m ρ = some ρ' →
    (∀ F' σ', Ok (gx X cm) x B F' ρ' σ' H → (∀ j, j ∉ js → σ'[j]? = σ[j]?) → σ'.length = σ.length → Q σ' H) → t v σ H Q
def PuGs (cm : Nat → Addr) (X : Cx) (ts : List Expr) (js : List Nat) (g : List D → Md → Ev → Option Ev) : Prop :=
  ∃ t, PGs X ts t ∧ ∀ (x : Fx) (B : Hp) (F : Nat → List Addr) (ρ ρ' : Ev) (σ : St) (H : Hp) (ds : List D) (m : Md) (vs : List V) (Q : St → Hp → Prop), Ok (gx X cm) x B F ρ σ H → (∀ d v, (d, v) ∈ ds.zip vs → Val (gx X cm) x (effm m d) B H d v) → vs.length = ds.length → g ds m ρ = some ρ' →
    (∀ F' σ', Ok (gx X cm) x B F' ρ' σ' H → (∀ j, j ∉ js → σ'[j]? = σ[j]?) → σ'.length = σ.length → Q σ' H) → t vs σ H Q
def gN (i : Nat) : GF := fun d m ρ => setS i d m ρ
def gsNil : List D → Md → Ev → Option Ev := fun ds _ ρ => match ds with
  | [] => some ρ
  | _ => none
def gsCons (i : Nat) (g : List D → Md → Ev → Option Ev) : List D → Md → Ev → Option Ev := fun ds m ρ => match ds with
  | d :: r => (setS i d (effm m d) ρ).bind fun ρ' => g r m ρ'
  | [] => none
def gT (n : Nat) (g : List D → Md → Ev → Option Ev) : GF := fun d m ρ => match d with
  | .tup ds => if ds.length = n then g ds m ρ else none
  | .lst ds => if ds.length = n then g ds m ρ else none
  | _ => none
section
variable {cm : Nat → Addr} {X : Cx} {pos : Pos}
theorem pug_name (i : Nat) {x : Str} (hN : X.N.Nodup) (hi : X.N[i]? = some x := by rfl) (hx : Loc X.env.scope x := by first | exact .inl rfl | exact .inr rfl)
    (hf : X.fn x = true ∨ X.env.scope.names.lookup x = some .local := by first | exact .inl rfl | exact .inr rfl) : PuG cm X (.Name x pos) [i] (gN i) := by
  refine ⟨_, pg_name hN hi hx hf, fun x B F ρ ρ' σ H d m v Q ok hv hg hQ => ?_⟩
  exact hQ _ _ (ok.setS hg hv) (fun j hj => List.getElem?_set_ne (fun e => hj (by simp [e]))) (List.length_set ..)
theorem pugs_nil : PuGs cm X [] [] gsNil := by
  refine ⟨_, pgs_nil, fun x B F ρ ρ' σ H ds m vs Q ok hv hl hg hQ => ?_⟩
  cases ds with
  | nil =>
    cases hg
    exact ⟨List.eq_nil_of_length_eq_zero hl, hQ F σ ok (fun _ _ => rfl) rfl⟩
  | cons => simp [gsNil] at hg
theorem pugs_cons (i : Nat) {x : Str} {es : List Expr} {js : List Nat} {g : List D → Md → Ev → Option Ev} (hN : X.N.Nodup) (h2 : PuGs cm X es js g) (hi : X.N[i]? = some x := by rfl) (hx : Loc X.env.scope x := by first | exact .inl rfl | exact .inr rfl)
    (hf : X.fn x = true ∨ X.env.scope.names.lookup x = some .local := by first | exact .inl rfl | exact .inr rfl)
    (hs : (assignEach (.Name x pos :: es) X.env).map (·.2) = assign (.Name x pos) X.env :: (assignEach es X.env).map (·.2) := by rfl) : PuGs cm X (.Name x pos :: es) (i :: js) (gsCons i g) := by
  obtain ⟨t, p, q⟩ := h2
  refine ⟨_, pgs_cons (pg_name hN hi hx hf) p hs, fun x B F ρ ρ' σ H ds m vs Q ok hv hl hg hQ => ?_⟩
  cases ds with
  | nil => simp [gsCons] at hg
  | cons d r =>
    cases vs with
    | nil => simp at hl
    | cons v vs =>
      simp only [gsCons] at hg
      cases e : DL.setS i d (effm m d) ρ with
      | none => rw [e] at hg; cases hg
      | some ρ1 =>
        rw [e] at hg
        refine ⟨v, vs, rfl, ?_⟩
        exact q x B _ ρ1 ρ' _ H r m vs Q (ok.setS e (hv d v (by simp))) (fun d' v' h => hv d' v' (by simp [h])) (by simpa using hl) hg fun F' σ' ok' h1 h2 => hQ F' σ' ok' (fun j hj => (h1 j fun z => hj (List.mem_cons_of_mem _ z)).trans (List.getElem?_set_ne (fun e => hj (by simp [e])))) (h2.trans (List.length_set ..))
theorem pug_tup {es : List Expr} {k n : Nat} {js : List Nat} {g : List D → Md → Ev → Option Ev} (h : PuGs cm X es js g) (hc : X.calm = true := by rfl)
    (hn : (assignEach es X.env).length = n := by rfl) (hst : (assignEach es X.env).findIdx? (·.1) = none := by rfl) : PuG cm X (.Tuple es k pos) js (gT n g) := by
  obtain ⟨t, p, q⟩ := h
  have por : PG X (.Tuple es k pos) (fun v σ H Q => gTup X.K n t v σ H Q ∨ gLst X.K n t v σ H Q) := ⟨fun pins s σ H v u Q I r h => h.elim ((pg_tup hc p hn hst).run pins s σ H v u Q I r) ((pg_lst hc p hn hst).run pins s σ H v u Q I r)⟩
  refine ⟨_, por, fun x B F ρ ρ' σ H d m v Q ok hv hg hQ => ?_⟩
  unfold gT at hg
  split at hg
  · rename_i ds
    split at hg
    · rename_i hl
      obtain ⟨a, vs, rfl, h1, h2⟩ := hv.is ok
      refine .inl ⟨a, vs, rfl, SqT.of h1, h2.length.trans hl, ?_⟩
      refine q x B F ρ ρ' σ H ds m vs Q ok (fun d' v' hm => ?_) h2.length hg hQ
      obtain ⟨j, hj, e⟩ := List.getElem_of_mem hm
      have e1 : ds[j]? = some d' ∧ vs[j]? = some v' := by
        rw [List.getElem_zip] at e
        rw [List.length_zip] at hj
        injection e with ea eb
        exact ⟨by rw [List.getElem?_eq_getElem (by omega), ea], by rw [List.getElem?_eq_getElem (by omega), eb]⟩
      refine hv.part ok fun R eR ⟨a', vs', ea, k1, k2⟩ => ?_
      cases ea
      have z := (eR _ _ k1).symm.trans h1
      cases z
      obtain ⟨w, ew, hw⟩ := k2.get e1.1
      rw [e1.2] at ew
      cases ew
      exact hw
    · cases hg
  · rename_i ds
    split at hg
    · rename_i hl
      obtain ⟨a, vs, rfl, h1, h2⟩ := hv.is ok
      refine .inr ⟨a, vs, rfl, SqL.of h1, h2.length.trans hl, ?_⟩
      refine q x B F ρ ρ' σ H ds m vs Q ok (fun d' v' hm => ?_) h2.length hg hQ
      obtain ⟨j, hj, e⟩ := List.getElem_of_mem hm
      have e1 : ds[j]? = some d' ∧ vs[j]? = some v' := by
        rw [List.getElem_zip] at e
        rw [List.length_zip] at hj
        injection e with ea eb
        exact ⟨by rw [List.getElem?_eq_getElem (by omega), ea], by rw [List.getElem?_eq_getElem (by omega), eb]⟩
      refine hv.part ok fun R eR ⟨a', vs', ea, k1, k2⟩ => ?_
      cases ea
      have z := (eR _ _ k1).symm.trans h1
      cases z
      obtain ⟨w, ew, hw⟩ := k2.get e1.1
      rw [e1.2] at ew
      cases ew
      exact hw
    · cases hg
  · cases hg
end

/-! ### what is walked -/
/-- the iterator J yields ds as long as Rg stands -/
structure Src (Γ : Ga) (Rg : Hp) (ds : List D) (J : It) : Prop where
  go : ∀ (i : Nat) (H : Hp) (d : D), Same Rg H → ds[i]? = some d → J.go i H
  yld : ∀ (i : Nat) (H : Hp) (d : D) (v : V) (H' : Hp), Same Rg H → ds[i]? = some d → J.yld i H v H' → (H' = H ∧ Is Γ Rg d v) ∨ (flat d = true ∧ Born Γ H H' d v)
  stop : ∀ (i : Nat) (H : Hp), Same Rg H → ds.length ≤ i → J.stop i H
abbrev IF := Ev → Option (List D × Md)
def rgOf (x : Fx) (m : Md) (B H : Hp) : Hp := match m with
  | .own => H
  | .par => x.Kp
  | .new => B
def PuI (cm : Nat → Addr) (X : Cx) (tg iter : Expr) (f : IF) : Prop :=
  ∃ wi, PI X tg iter wi ∧ ∀ (x : Fx) (B : Hp) (F : Nat → List Addr) (ρ : Ev) (σ : St) (H : Hp) (ds : List D) (m : Md) (R : It → Hp → Prop), Ok (gx X cm) x B F ρ σ H → f ρ = some (ds, m) →
    (∀ J B' H', Gr B H B' H' → Ok (gx X cm) x B' F ρ σ H' → Src (gx X cm) (rgOf x m B' H') ds J → R J H') → wi σ H R
section
variable {cm : Nat → Addr} {X : Cx} {pos : Pos} {e : Expr} {tg : Expr} {fe : EF}
theorem PI.or {iter : Expr} {w1 w2 : TI} (h1 : PI X tg iter w1) (h2 : PI X tg iter w2) : PI X tg iter (fun σ H R => w1 σ H R ∨ w2 σ H R) :=
  ⟨fun pins s σ H R I h => h.elim (h1.run pins s σ H R I) (h2.run pins s σ H R I)⟩
def strD (z : Str) : List D := z.cps.toList.map fun c => .str ⟨#[c]⟩
/-- the items of a list, a tuple, a text -/
def itemsD : D → Option (List D)
  | .lst ds => some ds
  | .tup ds => some ds
  | .str z => some (strD z)
  | _ => none
def iE (f : EF) : IF := fun ρ => (f ρ).bind fun a => (itemsD a.1).map fun ds => (ds, a.2)
theorem src_list {Γ : Ga} {Rg : Hp} {a : Addr} {vs : List V} {ds : List D} (h1 : Rg a = some (.lst vs)) (h2 : Iss Γ Rg ds vs) : Src Γ Rg ds (Itl Γ.K a) where
  go := fun i H d s e => by
    obtain ⟨v, e1, _⟩ := h2.get e
    exact ⟨vs, v, SqL.of (s _ _ h1), e1⟩
  yld := fun i H d v H' s e y => by
    obtain ⟨w, e1, e2⟩ := h2.get e
    have z := y.2 vs (SqL.of (s _ _ h1))
    rw [e1] at z
    cases z
    exact .inl ⟨y.1, e2⟩
  stop := fun i H s hl => ⟨vs, SqL.of (s _ _ h1), by rw [h2.length]; exact hl⟩
theorem src_tup {Γ : Ga} {Rg : Hp} {a : Addr} {vs : List V} {ds : List D} (h1 : Rg a = some (.tup vs)) (h2 : Iss Γ Rg ds vs) : Src Γ Rg ds (Itt Γ.K a) where
  go := fun i H d s e => by
    obtain ⟨v, e1, _⟩ := h2.get e
    exact ⟨vs, v, SqT.of (s _ _ h1), e1⟩
  yld := fun i H d v H' s e y => by
    obtain ⟨w, e1, e2⟩ := h2.get e
    have z := y.2 vs (SqT.of (s _ _ h1))
    rw [e1] at z
    cases z
    exact .inl ⟨y.1, e2⟩
  stop := fun i H s hl => ⟨vs, SqT.of (s _ _ h1), by rw [h2.length]; exact hl⟩
theorem src_str {Γ : Ga} {Rg : Hp} (z : Str) : Src Γ Rg (strD z) (Its z) where
  go := fun i H d s e => by
    have := (List.getElem?_eq_some_iff.mp e).1
    show i < z.cps.size
    simpa [strD] using this
  yld := fun i H d v H' s e y => by
    obtain ⟨y1, c, y2, rfl⟩ := y
    have e1 : d = .str ⟨#[c]⟩ := by
      rw [strD, List.getElem?_map, Array.getElem?_toList, y2] at e
      exact (Option.some.inj e).symm
    subst e1
    exact .inl ⟨y1, rfl⟩
  stop := fun i H s hl => by show z.cps.size ≤ i; simpa [strD] using hl
theorem rg_is {Γ : Ga} {x : Fx} {m : Md} {B H : Hp} {d : D} {v : V} (h : Val Γ x m B H d v) : Is Γ (rgOf x m B H) d v := by cases m <;> exact h
theorem pui_seq (he : PuE cm X e fe) : PuI cm X tg e (iE fe) := by
  obtain ⟨t, p, q⟩ := he
  refine ⟨_, PI.or (pi_list p) (PI.or (pi_tup p) (pi_str p)), fun x B F ρ σ H ds m R ok hf hR => ?_⟩
  unfold iE at hf
  cases ea : fe ρ with
  | none => rw [ea] at hf; cases hf
  | some a =>
    rw [ea] at hf
    obtain ⟨a, ma⟩ := a
    simp only [Option.bind_some] at hf
    cases a with
    | lst es =>
      cases hf
      refine .inl (q x B F ρ σ H _ m _ ok ea fun v B' H' g ok' hv => ?_)
      obtain ⟨a, vs, rfl, h1, h2⟩ := rg_is hv
      obtain ⟨a', vs', ea', k1, k2⟩ := hv.is ok'
      cases ea'
      exact ⟨a, rfl, ⟨vs', SqL.of k1⟩, hR _ B' H' g ok' (src_list h1 h2)⟩
    | tup es =>
      cases hf
      refine .inr (.inl (q x B F ρ σ H _ m _ ok ea fun v B' H' g ok' hv => ?_))
      obtain ⟨a, vs, rfl, h1, h2⟩ := rg_is hv
      obtain ⟨a', vs', ea', k1, k2⟩ := hv.is ok'
      cases ea'
      exact ⟨a, rfl, ⟨vs', SqT.of k1⟩, hR _ B' H' g ok' (src_tup h1 h2)⟩
    | str z =>
      cases hf
      refine .inr (.inr (q x B F ρ σ H _ m _ ok ea fun v B' H' g ok' hv => ?_))
      cases hv.is ok'
      exact ⟨z, rfl, hR _ B' H' g ok' (src_str z)⟩
    | _ => simp [itemsD] at hf
def rangeL (n : Int) : List D := (List.range n.toNat).map fun i => .int (i : Nat)
def iR (f : EF) : IF := fun ρ => (f ρ).bind fun a => (intD a.1).bind fun n => if -4611686018427387904 ≤ n ∧ n < 4611686018427387904 then some (rangeL n, .new) else none
theorem src_range {Γ : Ga} {Rg : Hp} (n : Int) : Src Γ Rg (rangeL n) (Itr 0 n.toNat) where
  go := fun i H d s e => by
    have := (List.getElem?_eq_some_iff.mp e).1
    rw [rangeL, List.length_map, List.length_range] at this
    exact this
  yld := fun i H d v H' s e y => by
    obtain ⟨rfl, rfl⟩ := y
    have hl : i < n.toNat := by
      have := (List.getElem?_eq_some_iff.mp e).1
      simpa [rangeL] using this
    have e1 : d = .int (i : Nat) := by
      rw [rangeL, List.getElem?_map, List.getElem?_range hl] at e
      exact (Option.some.inj e).symm
    subst e1
    exact .inl ⟨rfl, by show V.int (0 + (i : Nat)) = V.int (i : Nat); rw [Int.zero_add]⟩
  stop := fun i H s hl => by rw [rangeL, List.length_map, List.length_range] at hl; exact hl
theorem pui_range {p : Pos} (hm : X.mg "range" = none) (he : PuE cm X e fe) (hg : Gl X "range" := by rfl) (hs : starEach [e] X.env = [(false, eval e X.env)] := by rfl) (hs2 : starEach [e] X.env = (false, eval e X.env) :: starEach [] X.env := by rfl) :
    PuI cm X tg (.Call (.Name "range" p) [e] [] pos) (iR fe) := by
  obtain ⟨t, pe, q⟩ := he
  refine ⟨_, pi_range1 hg hm (pa_cons pe pa_nil hs2) hs, fun x B F ρ σ H ds m R ok hf hR => ?_⟩
  unfold iR at hf
  cases ea : fe ρ with
  | none => rw [ea] at hf; cases hf
  | some a =>
    rw [ea] at hf
    obtain ⟨a, ma⟩ := a
    cases a <;> simp [intD] at hf
    rename_i n
    obtain ⟨⟨h1, h2⟩, rfl, rfl⟩ := hf
    refine q x B F ρ σ H _ ma _ ok ea fun v B' H' g ok' hv => ?_
    cases hv.is ok'
    exact ⟨n, rfl, by omega, by omega, hR _ B' H' g ok' (src_range n)⟩
def enumL : Nat → List D → List D
  | _, [] => []
  | i, d :: r => .tup [.int (i : Nat), d] :: enumL (i + 1) r
theorem enumL_get : ∀ {ds : List D} {k i : Nat}, (enumL k ds)[i]? = (ds[i]?).map fun d => .tup [.int ((k + i : Nat) : Int), d]
  | [], k, i => by simp [enumL]
  | d :: r, k, 0 => by simp [enumL]
  | d :: r, k, i + 1 => by
    rw [enumL, List.getElem?_cons_succ, enumL_get, List.getElem?_cons_succ, show k + 1 + i = k + (i + 1) by omega]
theorem enumL_length : ∀ {ds : List D} {k : Nat}, (enumL k ds).length = ds.length
  | [], _ => rfl
  | d :: r, k => by rw [enumL, List.length_cons, enumL_length, List.length_cons]
def iEn (f : EF) : IF := fun ρ => (f ρ).bind fun a => match a.1 with
  | .lst ds => if flats ds = true then some (enumL 0 ds, a.2) else none
  | _ => none
theorem src_enum {Γ : Ga} {Rg : Hp} {a : Addr} {vs : List V} {ds : List D} (h1 : Rg a = some (.lst vs)) (h2 : Iss Γ Rg ds vs) (f : flats ds = true) : Src Γ Rg (enumL 0 ds) (Ite Γ.K a) where
  go := fun i H d s e => by
    rw [enumL_get] at e
    cases q : ds[i]? with
    | none => rw [q] at e; cases e
    | some d0 =>
      obtain ⟨v, e1, _⟩ := h2.get q
      exact ⟨vs, v, SqL.of (s _ _ h1), e1⟩
  yld := fun i H d v H' s e y => by
    rw [enumL_get] at e
    cases q : ds[i]? with
    | none => rw [q] at e; cases e
    | some d0 =>
      rw [q] at e
      cases e
      obtain ⟨w, e1, e2⟩ := h2.get q
      obtain ⟨T, z, rfl, hT, rfl, hz⟩ := y
      have z1 := hz vs (SqL.of (s _ _ h1))
      rw [e1] at z1
      cases z1
      have fd := flats_mem f d0 (List.mem_of_getElem? q)
      have ff : flats [.int ((0 + i : Nat) : Int), d0] = true := by simp only [flats, flat, fd]; rfl
      exact .inr ⟨ff, born_tup hT ff ⟨_, _, rfl, by rw [Nat.zero_add]; rfl, w, [], rfl, e2.mono s, rfl⟩⟩
  stop := fun i H s hl => ⟨vs, SqL.of (s _ _ h1), by rw [h2.length]; rw [enumL_length] at hl; exact hl⟩
theorem pui_enum {p tpos : Pos} {elts : List Expr} {kk : Nat} (hm : X.mg "enumerate" = none) (he : PuE cm X e fe) (hg : Gl X "enumerate" := by rfl) (hs : starEach [e] X.env = [(false, eval e X.env)] := by rfl) (hs2 : starEach [e] X.env = (false, eval e X.env) :: starEach [] X.env := by rfl) :
    PuI cm X (.Tuple elts kk tpos) (.Call (.Name "enumerate" p) [e] [] pos) (iEn fe) := by
  obtain ⟨t, pe, q⟩ := he
  refine ⟨_, pi_enum hg hm (pa_cons pe pa_nil hs2) hs, fun x B F ρ σ H ds m R ok hf hR => ?_⟩
  unfold iEn at hf
  cases ea : fe ρ with
  | none => rw [ea] at hf; cases hf
  | some a =>
    rw [ea] at hf
    obtain ⟨a, ma⟩ := a
    cases a with
    | lst es =>
      simp only [Option.bind_some] at hf
      split at hf
      · rename_i f
        cases hf
        refine q x B F ρ σ H _ m _ ok ea fun v B' H' g ok' hv => ?_
        obtain ⟨a, vs, rfl, h1, h2⟩ := rg_is hv
        obtain ⟨a', vs', ea', k1, k2⟩ := hv.is ok'
        cases ea'
        exact ⟨a, vs', rfl, SqL.of k1, hR _ B' H' g ok' (src_enum h1 h2 f)⟩
      · cases hf
    | _ => simp at hf
def zipL : List D → List D → List D
  | a :: r, b :: s => .tup [a, b] :: zipL r s
  | _, _ => []
theorem zipL_get : ∀ {as bs : List D} {i : Nat} {d : D}, (zipL as bs)[i]? = some d → ∃ a b, as[i]? = some a ∧ bs[i]? = some b ∧ d = .tup [a, b]
  | [], _, _, _, e => by simp [zipL] at e
  | _ :: _, [], _, _, e => by simp [zipL] at e
  | a :: r, b :: s, 0, d, e => by simp [zipL] at e; exact ⟨a, b, rfl, rfl, e.symm⟩
  | a :: r, b :: s, i + 1, d, e => by
    rw [zipL, List.getElem?_cons_succ] at e
    simpa using zipL_get (as := r) (bs := s) (i := i) e
theorem zipL_length : ∀ {as bs : List D}, (zipL as bs).length = min as.length bs.length
  | [], _ => by simp [zipL]
  | _ :: _, [] => by simp [zipL]
  | a :: r, b :: s => by rw [zipL, List.length_cons, zipL_length, List.length_cons, List.length_cons]; omega
/-- the weaker of two -/
def mmin : Md → Md → Option Md
  | .new, .new => some .new
  | .par, .par => some .par
  | .own, .own => some .own
  | _, _ => none
def iZ (f g : EF) : IF := fun ρ => (f ρ).bind fun a => (g ρ).bind fun b => match a.1, b.1 with
  | .lst ds, .lst es => if flats ds = true ∧ flats es = true then (mmin a.2 b.2).map fun m => (zipL ds es, m) else none
  | _, _ => none
theorem src_zip {Γ : Ga} {Rg : Hp} {a b : Addr} {vs us : List V} {ds es : List D} (h1 : Rg a = some (.lst vs)) (h2 : Iss Γ Rg ds vs) (k1 : Rg b = some (.lst us)) (k2 : Iss Γ Rg es us) (f : flats ds = true) (f2 : flats es = true) : Src Γ Rg (zipL ds es) (Itz Γ.K a b) where
  go := fun i H d s e => by
    obtain ⟨x, y, e1, e2, _⟩ := zipL_get e
    obtain ⟨v, e3, _⟩ := h2.get e1
    obtain ⟨u, e4, _⟩ := k2.get e2
    exact ⟨vs, us, v, u, SqL.of (s _ _ h1), SqL.of (s _ _ k1), e3, e4⟩
  yld := fun i H d v H' s e y => by
    obtain ⟨p, q, e1, e2, rfl⟩ := zipL_get e
    obtain ⟨w, e3, w1⟩ := h2.get e1
    obtain ⟨u, e4, u1⟩ := k2.get e2
    obtain ⟨T, z, z', rfl, hT, rfl, hz, hz'⟩ := y
    have q1 := hz vs (SqL.of (s _ _ h1))
    rw [e3] at q1
    cases q1
    have q2 := hz' us (SqL.of (s _ _ k1))
    rw [e4] at q2
    cases q2
    have ff : flats [p, q] = true := by simp only [flats, flats_mem f p (List.mem_of_getElem? e1), flats_mem f2 q (List.mem_of_getElem? e2)]; rfl
    exact .inr ⟨ff, born_tup hT ff ⟨_, _, rfl, w1.mono s, _, [], rfl, u1.mono s, rfl⟩⟩
  stop := fun i H s hl => ⟨vs, us, SqL.of (s _ _ h1), SqL.of (s _ _ k1), by rw [h2.length, k2.length]; rw [zipL_length] at hl; omega⟩
theorem rg_gr {x : Fx} {m : Md} {B H B' H' : Hp} (g : Gr B H B' H') : Same (rgOf x m B H) (rgOf x m B' H') := by
  cases m with
  | own => exact g.hh
  | par => exact Same.refl _
  | new => exact g.bb
theorem pui_zip {e2 : Expr} {fe2 : EF} {p tpos : Pos} {elts : List Expr} {kk : Nat} (hm : X.mg "zip" = none) (he : PuE cm X e fe) (he2 : PuE cm X e2 fe2) (hg : Gl X "zip" := by rfl)
    (hs : starEach [e, e2] X.env = (false, eval e X.env) :: starEach [e2] X.env := by rfl) (hpl : (backTo pos (starEach [e2] X.env)).any (·.1) = false := by rfl) (hs2 : starEach [e2] X.env = (false, eval e2 X.env) :: starEach [] X.env := by rfl) :
    PuI cm X (.Tuple elts kk tpos) (.Call (.Name "zip" p) [e, e2] [] pos) (iZ fe fe2) := by
  obtain ⟨t, pe, q⟩ := he
  obtain ⟨t2, pe2, q2⟩ := he2
  refine ⟨_, pi_zip hg hm (pa_cons pe (pa_cons pe2 pa_nil hs2) hs) hs hpl, fun x B F ρ σ H ds m R ok hf hR => ?_⟩
  unfold iZ at hf
  cases ea : fe ρ with
  | none => rw [ea] at hf; cases hf
  | some a =>
    cases eb : fe2 ρ with
    | none => rw [ea, eb] at hf; cases hf
    | some b =>
      rw [ea, eb] at hf
      obtain ⟨a, ma⟩ := a
      obtain ⟨b, mb⟩ := b
      simp only [Option.bind_some] at hf
      split at hf
      · rename_i ds es
        split at hf
        · rename_i f
          have em : mmin ma mb = some m ∧ ma = m ∧ mb = m := by
            cases ma <;> cases mb <;> simp [mmin] at hf ⊢ <;> exact hf.2
          obtain ⟨e0, rfl, rfl⟩ := em
          rw [e0] at hf
          cases hf
          refine q x B F ρ σ H _ _ _ ok ea fun v B1 H1 g1 ok1 hv => ?_
          refine q2 x B1 F ρ σ H1 _ _ _ ok1 eb fun u B2 H2 g2 ok2 hu => ?_
          obtain ⟨a, vs, rfl, h1, h2⟩ := rg_is hv
          obtain ⟨b, us, rfl, k1, k2⟩ := rg_is hu
          obtain ⟨a', vs', ea', j1, j2⟩ := (hv.mono g2).is ok2
          cases ea'
          obtain ⟨b', us', eb', l1, l2⟩ := hu.is ok2
          cases eb'
          exact ⟨a, b, vs', us', rfl, SqL.of j1, SqL.of l1, hR _ B2 H2 (g1.trans g2) ok2 (src_zip (rg_gr g2 _ _ h1) (h2.mono (rg_gr g2)) k1 k2 f.1 f.2)⟩
        · cases hf
      · cases hf
end
end DL

/-! DL8: list comprehensions. -/
namespace DL
open PySem L2

def wipeE (ρ : Ev) : List Nat → Ev
  | [] => ρ
  | v :: vs => (wipeE ρ vs).set v .emp
theorem wipeE_length (ρ : Ev) : ∀ vs : List Nat, (wipeE ρ vs).length = ρ.length
  | [] => rfl
  | v :: vs => by rw [wipeE, List.length_set, wipeE_length ρ vs]
section
variable {Γ : Ga} {x : Fx} {B : Hp} {F : Nat → List Addr} {ρ : Ev} {σ : St} {H : Hp}
theorem Ok.wipe (o : Ok Γ x B F ρ σ H) : ∀ vs : List Nat, ∃ F', Ok Γ x B F' (wipeE ρ vs) (L2.wipe σ vs) H
  | [] => ⟨F, o⟩
  | v :: vs => by
    obtain ⟨F', o'⟩ := Ok.wipe o vs
    rw [wipeE, L2.wipe]
    by_cases h : v < (wipeE ρ vs).length
    · exact ⟨_, o'.put (s := .emp) (v := none) rfl h⟩
    · rw [List.set_eq_of_length_le (by omega), List.set_eq_of_length_le (by rw [← o'.len]; omega)]
      exact ⟨F', o'⟩
theorem wipe_in {σ : St} {i : Nat} {v : Option V} : ∀ {vs : List Nat}, i ∈ vs → (L2.wipe σ vs)[i]? = some v → v = none
  | w :: vs, h, e => by
    rw [L2.wipe] at e
    by_cases q : w = i
    · subst q
      rw [List.getElem?_set] at e
      simp at e
      exact e.2.symm
    · rw [List.getElem?_set_ne q] at e
      exact wipe_in ((List.mem_cons.mp h).resolve_left fun z => q z.symm) e
theorem wipe_eq {σ τ : St} {vs : List Nat} (hl : σ.length = τ.length) (h : ∀ j, j ∉ vs → σ[j]? = τ[j]?) : L2.wipe σ vs = L2.wipe τ vs := by
  apply List.ext_getElem?
  intro j
  by_cases q : j ∈ vs
  · have l1 : (L2.wipe σ vs).length = (L2.wipe τ vs).length := by rw [L2.wipe_length, L2.wipe_length, hl]
    cases e1 : (L2.wipe σ vs)[j]? with
    | none =>
      have := List.getElem?_eq_none_iff.mp e1
      exact (List.getElem?_eq_none_iff.mpr (by omega)).symm
    | some u =>
      have lt := (List.getElem?_eq_some_iff.mp e1).1
      cases e2 : (L2.wipe τ vs)[j]? with
      | none =>
        have := List.getElem?_eq_none_iff.mp e2
        omega
      | some w => rw [wipe_in q e1, wipe_in q e2]
  · rw [L2.wipe_out q, L2.wipe_out q, h j q]
theorem wipe_wipe {σ : St} {vs : List Nat} : L2.wipe (L2.wipe σ vs) vs = L2.wipe σ vs := wipe_eq (L2.wipe_length σ vs) fun j hj => L2.wipe_out hj

theorem Val.eff {m : Md} {d : D} {v : V} (o : Ok Γ x B F ρ σ H) (h : Val Γ x m B H d v) : Val Γ x (effm m d) B H d v := h.part o fun R _ z => z
/-- a thing that no one knows of is written -/
theorem Ok.hid (o : Ok Γ x B F ρ σ H) {p : Addr} {vs us : List V} (hb : B p = none) (hk : x.Kp p = none) (hf : ∀ i, p ∉ F i) (hp : H p = some (.lst vs)) : Ok Γ x B F ρ σ (upd H p (.lst us)) where
  kp := fun a u e => by rw [upd_ne (fun q => by rw [q, hk] at e; cases e)]; exact o.kp a u e
  bh := fun a u e => by rw [upd_ne (fun q => by rw [q, hb] at e; cases e)]; exact o.bh a u e
  tup := fun a xs e => by
    by_cases q : a = p
    · subst q; rw [upd_same] at e; cases e
    · rw [upd_ne q] at e; exact o.tup a xs e
  born := o.born
  bk := o.bk
  dom := fun a e => by
    by_cases q : a = p
    · subst q; rw [upd_same] at e; cases e
    · rw [upd_ne q] at e; exact o.dom a e
  fk := o.fk
  dj := o.dj
  nd := o.nd
  out := o.out
  len := o.len
  at_ := fun i s h => by
    have q := o.at_ i s h
    have ht : TupK H (upd H p (.lst us)) := TupK.upd (by intro xs; rw [hp]; intro z; cases z)
    have hkk : ∀ a ∈ F i, (upd H p (.lst us)) a = H a := fun a ha => upd_ne fun z => hf i (z ▸ ha)
    cases s with
    | ow => obtain ⟨v, q1, q2, q3⟩ := q; exact ⟨v, q1, q2.keep ht hkk, q3⟩
    | on => obtain ⟨v, q1, q2, q3⟩ := q; exact ⟨v, q1, q2.keep ht hkk, q3⟩
    | ol => obtain ⟨b, vs, q1, q2, q3, q4, q5⟩ := q; exact ⟨b, vs, q1, q2, (hkk b (by rw [q2]; simp)).trans q3, q4, q5⟩
    | _ => exact q
/-- an item has come -/
theorem Src.item {Rg : Hp} {ds : List D} {J : It} {m : Md} {B0 H0 : Hp} (S : Src Γ (rgOf x m B0 H0) ds J) (o : Ok Γ x B F ρ σ H) (g : Gr B0 H0 B H) {i : Nat} {d : D} {v : V} {H' : Hp} (e : ds[i]? = some d) (y : J.yld i H v H') :
    ∃ B', Gr B H B' H' ∧ Ok Γ x B' F ρ σ H' ∧ Val Γ x (effm m d) B' H' d v := by
  have s : Same (rgOf x m B0 H0) H := by
    cases m with
    | own => exact g.hh
    | par => exact o.kp
    | new => exact g.bb.trans o.bh
  rcases S.yld i H d v H' s e y with ⟨rfl, h⟩ | ⟨f, bn⟩
  · refine ⟨B, Gr.refl B _, o, Val.eff o ?_⟩
    cases m with
    | own => exact Is.mono g.hh h
    | par => exact h
    | new => exact Is.mono g.bb h
  · obtain ⟨B', g', o', h⟩ := o.born' bn
    refine ⟨B', g', o', ?_⟩
    unfold effm
    rw [if_pos f]
    exact h
theorem Src.same {ds : List D} {J : It} {m : Md} {B0 H0 : Hp} (o : Ok Γ x B F ρ σ H) (g : Gr B0 H0 B H) : Same (rgOf x m B0 H0) H := by
  cases m with
  | own => exact g.hh
  | par => exact o.kp
  | new => exact g.bb.trans o.bh
end
theorem Ok.to {Γ : Ga} {x : Fx} {B B' : Hp} {F F2 : Nat → List Addr} {ρ ρ2 : Ev} {σ σ2 : St} {H H' : Hp} (o : Ok Γ x B F ρ σ H) (g : Gr B H B' H') (o2 : Ok Γ x B' F2 ρ2 σ2 H') : Ok Γ x B' F ρ σ H' := o.grow g.hh g.bb o2.bh o2.tup g.new
theorem hid_none {B H B' H' : Hp} {p : Addr} {vs : List V} (bh : Same B' H') (g : Gr B H B' H') (hb : B p = none) (hp : H p = some (.lst vs)) : B' p = none := by
  cases z : B' p with
  | none => rfl
  | some u =>
    rcases g.new p u z with ⟨xs, rfl⟩ | h | h
    · have e := bh _ _ z
      rw [g.hh _ _ hp] at e
      cases e
    · rw [hb] at h; cases h
    · rw [hp] at h; cases h
def tGu (Γ : Ga) (js : List Nat) (g : GF) : TG := fun v σ H Q => ∃ (x : Fx) (B : Hp) (F : Nat → List Addr) (ρ ρ' : Ev) (d : D) (m : Md), Ok Γ x B F ρ σ H ∧ Val Γ x m B H d v ∧ g d m ρ = some ρ' ∧
  ∀ F' σ', Ok Γ x B F' ρ' σ' H → (∀ j, j ∉ js → σ'[j]? = σ[j]?) → σ'.length = σ.length → Q σ' H
theorem PuG.can {cm : Nat → Addr} {X : Cx} {tg : Expr} {js : List Nat} {g : GF} (h : PuG cm X tg js g) : PG X tg (tGu (gx X cm) js g) := by
  obtain ⟨t, p, q⟩ := h
  refine ⟨fun pins s σ H v u Q I r w => ?_⟩
  obtain ⟨x, B, F, ρ, ρ', d, m, ok, hv, hg, hQ⟩ := w
  exact p.run pins s σ H v u Q I r (q x B F ρ ρ' σ H d m v Q ok hv hg hQ)

/-- the tests of a clause -/
def PuTs (cm : Nat → Addr) (X : Cx) (ifs : List Expr) (f : Ev → Option Bool) : Prop := PTs X ifs (tPt (gx X cm) f)
theorem puts_nil {cm : Nat → Addr} {X : Cx} : PuTs cm X [] (fun _ => some true) :=
  ⟨fun pins s σ H Q I w => by
    obtain ⟨x, B, F, ρ, k, ok, ek, hQ⟩ := w
    cases ek
    exact pts_nil.run pins s σ H Q I (hQ B H (Gr.refl B H) ok)⟩
theorem puts_one {cm : Nat → Addr} {X : Cx} {c : Expr} {f : Ev → Option Bool} (h : PuT cm X c f) : PuTs cm X [c] f := pts_one h.can

def lcGo (g : GF) (t : Ev → Option Bool) (e : EF) (m : Md) (ρ : Ev) : List D → Option (List D)
  | [] => some []
  | d :: r => (g d (effm m d) ρ).bind fun ρ1 => (t ρ1).bind fun k => if k = true then (e ρ1).bind fun y => if (flat y.1 || isNew y.2) = true then (lcGo g t e m ρ r).map (y.1 :: ·) else none else lcGo g t e m ρ r
def eLc (f : IF) (vs : List Nat) (g : GF) (t : Ev → Option Bool) (e : EF) : EF := fun ρ => (f ρ).bind fun s => if s.1.length ≤ 16777216 then (lcGo g t e s.2 (wipeE ρ vs) s.1).map fun ys => (.lst ys, .new) else none
theorem lcGo_cons {g : GF} {t : Ev → Option Bool} {e : EF} {m : Md} {ρ : Ev} {d : D} {r : List D} {ys : List D} (h : lcGo g t e m ρ (d :: r) = some ys) :
    ∃ ρ1 k, g d (effm m d) ρ = some ρ1 ∧ t ρ1 = some k ∧ ((k = true ∧ ∃ y m1 zs, e ρ1 = some (y, m1) ∧ (flat y || isNew m1) = true ∧ lcGo g t e m ρ r = some zs ∧ ys = y :: zs) ∨ (k = false ∧ lcGo g t e m ρ r = some ys)) := by
  rw [lcGo] at h
  cases e1 : g d (effm m d) ρ with
  | none => rw [e1] at h; cases h
  | some ρ1 =>
    rw [e1] at h
    simp only [Option.bind_some] at h
    cases e2 : t ρ1 with
    | none => rw [e2] at h; cases h
    | some k =>
      rw [e2] at h
      simp only [Option.bind_some] at h
      refine ⟨ρ1, k, rfl, e2, ?_⟩
      cases k with
      | false => exact .inr ⟨rfl, by simpa using h⟩
      | true =>
        refine .inl ⟨rfl, ?_⟩
        rw [if_pos rfl] at h
        cases e3 : e ρ1 with
        | none => rw [e3] at h; cases h
        | some y =>
          rw [e3] at h
          simp only [Option.bind_some] at h
          split at h
          · rename_i f
            cases e4 : lcGo g t e m ρ r with
            | none => rw [e4] at h; cases h
            | some zs => rw [e4] at h; cases h; exact ⟨y.1, y.2, zs, rfl, f, rfl, rfl⟩
          · cases h

section
variable {cm : Nat → Addr} {X : Cx} {pos : Pos} {elt tg iter : Expr} {ifs : List Expr} {scope : Scope} {own : List (Str × Nat)} {js : List Nat} {f : IF} {g : GF} {t : Ev → Option Bool} {e : EF}
theorem lc_hid {wi : TI} (q : ∀ (x : Fx) (B : Hp) (F : Nat → List Addr) (ρ : Ev) (σ : St) (H : Hp) (ds : List D) (m : Md) (R : It → Hp → Prop), Ok (gx X cm) x B F ρ σ H → f ρ = some (ds, m) →
      (∀ J B' H', Gr B H B' H' → Ok (gx X cm) x B' F ρ σ H' → Src (gx X cm) (rgOf x m B' H') ds J → R J H') → wi σ H R) (hjs : ∀ j ∈ js, j ∈ own.map (·.2))
    (x : Fx) (B : Hp) (F : Nat → List Addr) (ρ : Ev) (σ : St) (H : Hp) (d : D) (m0 : Md) (Q : VK) (ok : Ok (gx X cm) x B F ρ σ H) (hf : eLc f (own.map (·.2)) g t e ρ = some (d, m0))
    (hQ : ∀ p B' H' ys vs, Gr B H B' H' → Ok (gx X cm) x B' F ρ σ H' → d = .lst ys → m0 = .new → H p = none → B' p = none → H' p = some (.lst vs) → Iss (gx X cm) B' ys vs → Q (.ref p) H') : tLc wi (tGu (gx X cm) js g) (tPt (gx X cm) t) (tPu (gx X cm) e) (own.map (·.2)) σ H Q := by
  unfold eLc at hf
  cases ea : f ρ with
  | none => rw [ea] at hf; cases hf
  | some s =>
    rw [ea] at hf
    obtain ⟨ds, m⟩ := s
    simp only [Option.bind_some] at hf
    split at hf
    · rename_i hlen
      cases eys : lcGo g t e m (wipeE ρ (own.map (·.2))) ds with
      | none => rw [eys] at hf; cases hf
      | some ys =>
        rw [eys] at hf
        cases hf
        refine q x B F ρ σ H ds m _ ok ea fun J B1 H1 g1 ok1 S => ?_
        intro Dd hD
        have kD : x.Kp Dd = none := Same.free ok1.kp hD
        have fD : ∀ i, Dd ∉ F i := fun i hi => by
          obtain ⟨u, hu, _⟩ := ok1.box hi
          rw [hD] at hu
          cases hu
        have bD : B1 Dd = none := Same.free ok1.bh hD
        refine ⟨fun i mm H => mm = ds.length - i ∧ i ≤ ds.length ∧ ∃ B accV accD rest, H Dd = some (.lst accV) ∧ Iss (gx X cm) B accD accV ∧ accV.length ≤ i ∧ B Dd = none ∧ Ok (gx X cm) x B F ρ σ H ∧ Gr B1 H1 B H ∧
            lcGo g t e m (wipeE ρ (own.map (·.2))) (ds.drop i) = some rest ∧ accD ++ rest = ys, ?_, ?_⟩
        · have sm : Same H1 (upd H1 Dd (.lst [])) := same_upd hD
          have gg : Gr B1 H1 B1 (upd H1 Dd (.lst [])) := ⟨sm, Same.refl _, fun a u h => .inr (.inl h)⟩
          have ok2 : Ok (gx X cm) x B1 F ρ σ (upd H1 Dd (.lst [])) := ok1.grow sm (Same.refl _) (ok1.bh.trans sm) (fun a xs h => by
            by_cases z : a = Dd
            · subst z; rw [upd_same] at h; cases h
            · rw [upd_ne z] at h; exact ok1.tup a xs h) fun a u h => .inr (.inl h)
          exact ⟨ds.length, by simp, Nat.zero_le _, B1, [], [], ys, upd_same, rfl, Nat.le_refl _, bD, ok2, gg, by simpa using eys, rfl⟩
        · rintro i mm H2 ⟨rfl, hi, B2, accV, accD, rest, hacc, iacc, lacc, b2D, ok2, g2, erest, eacc⟩
          by_cases hlt : i < ds.length
          · have ed : ds[i]? = some ds[i] := List.getElem?_eq_getElem hlt
            rw [List.drop_eq_getElem_cons hlt] at erest
            obtain ⟨ρ1, k, h1, h2, h3⟩ := lcGo_cons erest
            refine .inr ⟨S.go i H2 _ (Src.same (ds := ds) (J := J) ok2 g2) ed, fun H' => (i + 1 ≤ ds.length ∧ ∃ B accV accD rest, H' Dd = some (.lst accV) ∧ Iss (gx X cm) B accD accV ∧ accV.length ≤ i + 1 ∧ B Dd = none ∧ Ok (gx X cm) x B F ρ σ H' ∧ Gr B1 H1 B H' ∧
              lcGo g t e m (wipeE ρ (own.map (·.2))) (ds.drop (i + 1)) = some rest ∧ accD ++ rest = ys), fun H' h => ⟨ds.length - (i + 1), by omega, rfl, h⟩, fun v H3 y => ?_⟩
            obtain ⟨B3, g3, ok3, hv⟩ := S.item (Rg := H) ok2 g2 ed y
            obtain ⟨F', okb⟩ := ok3.wipe (own.map (·.2))
            refine ⟨x, B3, F', _, ρ1, _, _, okb, hv, h1, fun F4 σ4 ok4 hs hl => ⟨?_, ?_⟩⟩
            · exact (wipe_eq (τ := L2.wipe σ (own.map (·.2))) hl fun j hj => hs j fun z => hj (hjs j z)).trans wipe_wipe
            · refine ⟨x, B3, F4, ρ1, k, ok4, h2, fun B5 H5 g5 ok5 => ?_⟩
              have g25 : Gr B2 H2 B5 H5 := g3.trans g5
              rcases h3 with ⟨rfl, y1, m1, zs, h4, h5, h6, rfl⟩ | ⟨rfl, h6⟩
              · refine iteT ⟨x, B5, F4, ρ1, y1, m1, ok5, h4, fun w B6 H6 g6 ok6 hw => ?_⟩
                have g26 : Gr B2 H2 B6 H6 := g25.trans g6
                have o6 : Ok (gx X cm) x B6 F ρ σ H6 := ok2.to g26 ok6
                have b6 : B6 Dd = none := hid_none ok6.bh g26 b2D hacc
                refine ⟨accV, g26.hh _ _ hacc, by rw [line_eq]; omega, hlt, B6, accV ++ [w], accD ++ [y1], zs, upd_same, (iacc.mono g26.bb).snoc (Val.new ok6 h5 hw), by rw [List.length_append, List.length_singleton]; omega, b6, o6.hid b6 kD fD (g26.hh _ _ hacc), ?_, h6, by rw [← eacc]; simp⟩
                have gg := g2.trans g26
                exact ⟨fun a u h => by rw [upd_ne (fun z => by rw [z, hD] at h; cases h)]; exact gg.hh a u h, gg.bb, gg.new⟩
              · exact iteF ⟨hlt, B5, accV, accD, rest, g25.hh _ _ hacc, iacc.mono g25.bb, by omega, hid_none ok5.bh g25 b2D hacc, ok2.to g25 ok5, g2.trans g25, h6, eacc⟩
          · have ei : i = ds.length := by omega
            subst ei
            rw [List.drop_length] at erest
            cases erest
            rw [List.append_nil] at eacc
            subst eacc
            refine .inl ⟨S.stop _ H2 (Src.same (ds := ds) (J := J) ok2 g2) (Nat.le_refl _), ?_⟩
            exact hQ Dd B2 H2 _ accV (g1.trans g2) ok2 rfl rfl (g1.hh.free hD) b2D hacc iacc
    · cases hf
theorem lc_reads {wi : TI} (q : ∀ (x : Fx) (B : Hp) (F : Nat → List Addr) (ρ : Ev) (σ : St) (H : Hp) (ds : List D) (m : Md) (R : It → Hp → Prop), Ok (gx X cm) x B F ρ σ H → f ρ = some (ds, m) →
      (∀ J B' H', Gr B H B' H' → Ok (gx X cm) x B' F ρ σ H' → Src (gx X cm) (rgOf x m B' H') ds J → R J H') → wi σ H R) (hjs : ∀ j ∈ js, j ∈ own.map (·.2))
    (x : Fx) (B : Hp) (F : Nat → List Addr) (ρ : Ev) (σ : St) (H : Hp) (d : D) (m0 : Md) (Q : VK) (ok : Ok (gx X cm) x B F ρ σ H) (hf : eLc f (own.map (·.2)) g t e ρ = some (d, m0))
    (hQ : ∀ v B' H', Gr B H B' H' → Ok (gx X cm) x B' F ρ σ H' → Val (gx X cm) x m0 B' H' d v → Q v H') : tLc wi (tGu (gx X cm) js g) (tPt (gx X cm) t) (tPu (gx X cm) e) (own.map (·.2)) σ H Q := by
  refine lc_hid q hjs x B F ρ σ H d m0 Q ok hf fun Dd B2 H2 ys accV g2 ok2 ed em hD b2D hacc iacc => ?_
  subst ed em
  have nb : Same B2 (upd B2 Dd (.lst accV)) := same_upd b2D
  have bh2 : Same (upd B2 Dd (.lst accV)) H2 := fun a u h => by
    by_cases z : a = Dd
    · subst z; rw [upd_same] at h; cases h; exact hacc
    · rw [upd_ne z] at h; exact ok2.bh a u h
  have nw : ∀ a u, (upd B2 Dd (.lst accV)) a = some u → (∃ xs, u = .tup xs) ∨ B a = some u ∨ H a = none := fun a u h => by
    by_cases z : a = Dd
    · subst z; exact .inr (.inr hD)
    · rw [upd_ne z] at h; exact g2.new a u h
  refine hQ (.ref Dd) (upd B2 Dd (.lst accV)) H2 ⟨g2.hh, g2.bb.trans nb, nw⟩ ?_ ⟨Dd, accV, rfl, upd_same, iacc.mono nb⟩
  exact ok.grow g2.hh (g2.bb.trans nb) bh2 (fun a xs h => nb _ _ (ok2.tup a xs h)) nw
theorem pu_lc (hN : X.N.Nodup) (hi : PuI cm X tg iter f) (ok : BlkOk X.N X.env.scope scope own) (hg : ∀ (s : Shared) (H : Hp) (C : Addr) (cl : List (Str × Addr)) (fp : List Addr), PuG cm (X.blk s H scope (compEnvC scope cl C X.env) fp) tg js g)
    (ht : ∀ (s : Shared) (H : Hp) (C : Addr) (cl : List (Str × Addr)) (fp : List Addr), PuTs cm (X.blk s H scope (compEnvC scope cl C X.env) fp) ifs t)
    (he : ∀ (s : Shared) (H : Hp) (C : Addr) (cl : List (Str × Addr)) (fp : List Addr), PuE cm (X.blk s H scope (compEnvC scope cl C X.env) fp) elt e) (hjs : ∀ j ∈ js, j ∈ own.map (·.2) := by decide) (hc : X.calm = true := by rfl) (hs : ∀ x, foldedSetIterable iter X.env x = pure x := by intro _; rfl) :
    PuE cm X (.ListComp elt [⟨tg, iter, ifs, 0⟩] scope pos) (eLc f (own.map (·.2)) g t e) := by
  obtain ⟨wi, p, q⟩ := hi
  exact ⟨_, pe_lc hc hN p ok (fun s H C cl fp => (hg s H C cl fp).can) (fun s H C cl fp => (show PTs (X.blk s H scope (compEnvC scope cl C X.env) fp) ifs (tPt (gx X cm) t) from ht s H C cl fp)) (fun s H C cl fp => (he s H C cl fp).can) hs, lc_reads q hjs⟩
end
end DL

/-! DL9: statements as functions of the slots; defs that change nothing. -/
namespace DL
open PySem L2

inductive Fl where
  | nx (ρ : Ev) | rt (d : D) (ρ : Ev) | bk (ρ : Ev) | ct (ρ : Ev)
abbrev SF := Ev → Option Fl
def Post (Γ : Ga) (x : Fx) (B0 : Hp) (r : Fl) (E : Ends) : Prop := match r with
  | .nx ρ => ∀ B F σ H, Same B0 B → Ok Γ x B F ρ σ H → E.nx σ H
  | .bk ρ => ∀ B F σ H, Same B0 B → Ok Γ x B F ρ σ H → E.bk σ H
  | .ct ρ => ∀ B F σ H, Same B0 B → Ok Γ x B F ρ σ H → E.ct σ H
  | .rt d ρ => ∀ v B F σ H, Same B0 B → Ok Γ x B F ρ σ H → Is Γ B d v → E.rt v H
theorem Post.mono {Γ : Ga} {x : Fx} {B0 B1 : Hp} {r : Fl} {E : Ends} (s : Same B0 B1) (h : Post Γ x B0 r E) : Post Γ x B1 r E := by
  cases r with
  | nx => exact fun B F σ H s' o => h B F σ H (s.trans s') o
  | bk => exact fun B F σ H s' o => h B F σ H (s.trans s') o
  | ct => exact fun B F σ H s' o => h B F σ H (s.trans s') o
  | rt => exact fun v B F σ H s' o i => h v B F σ H (s.trans s') o i
def PuS (cm : Nat → Addr) (X : Cx) (st : Stmt) (g : SF) : Prop :=
  ∃ t, PS X st t ∧ ∀ (x : Fx) (B : Hp) (F : Nat → List Addr) (ρ : Ev) (σ : St) (H : Hp) (r : Fl) (E : Ends), Ok (gx X cm) x B F ρ σ H → g ρ = some r → Post (gx X cm) x B r E → t E σ H
def PuB (cm : Nat → Addr) (X : Cx) (st : List Stmt) (g : SF) : Prop :=
  ∃ t, PSs X st t ∧ ∀ (x : Fx) (B : Hp) (F : Nat → List Addr) (ρ : Ev) (σ : St) (H : Hp) (r : Fl) (E : Ends), Ok (gx X cm) x B F ρ σ H → g ρ = some r → Post (gx X cm) x B r E → t E σ H
section
variable {cm : Nat → Addr} {X : Cx} {pos : Pos} {st : Stmt} {sts : List Stmt} {e : Expr} {f : EF} {g h : SF}
def bNil : SF := fun ρ => some (.nx ρ)
def bSeq (g h : SF) : SF := fun ρ => (g ρ).bind fun r => match r with
  | .nx ρ' => h ρ'
  | r => some r
theorem pub_nil : PuB cm X [] bNil := ⟨_, pss_nil, fun x B F ρ σ H r E ok hf hE => by cases hf; exact hE B F σ H (Same.refl B) ok⟩
theorem pub_one (hs : PuS cm X st g) : PuB cm X [st] g := by
  obtain ⟨t, p, q⟩ := hs
  exact ⟨t, pss_one p, q⟩
theorem pub_cons (hs : PuS cm X st g) (hb : PuB cm X sts h) : PuB cm X (st :: sts) (bSeq g h) := by
  obtain ⟨t, p, q⟩ := hs
  obtain ⟨u, p2, q2⟩ := hb
  refine ⟨_, pss_cons p p2, fun x B F ρ σ H r E ok hf hE => ?_⟩
  unfold bSeq at hf
  cases e1 : g ρ with
  | none => rw [e1] at hf; cases hf
  | some r1 =>
    rw [e1] at hf
    refine q x B F ρ σ H r1 _ ok e1 ?_
    cases r1 with
    | nx ρ1 => exact fun B' F' σ' H' s ok' => q2 x B' F' ρ1 σ' H' r E ok' hf (hE.mono s)
    | bk => cases hf; exact hE
    | ct => cases hf; exact hE
    | rt => cases hf; exact hE
def sPass : SF := fun ρ => some (.nx ρ)
def sBreak : SF := fun ρ => some (.bk ρ)
def sCont : SF := fun ρ => some (.ct ρ)
def sNever : SF := fun _ => none
theorem pus_pass : PuS cm X (.Pass pos) sPass := ⟨_, ps_pass, fun x B F ρ σ H r E ok hf hE => by cases hf; exact hE B F σ H (Same.refl B) ok⟩
theorem pus_break : PuS cm X (.Break pos) sBreak := ⟨_, ps_break, fun x B F ρ σ H r E ok hf hE => by cases hf; exact hE B F σ H (Same.refl B) ok⟩
theorem pus_cont : PuS cm X (.Continue pos) sCont := ⟨_, ps_continue, fun x B F ρ σ H r E ok hf hE => by cases hf; exact hE B F σ H (Same.refl B) ok⟩
theorem pus_never : PuS cm X st sNever := ⟨_, ps_never, fun x B F ρ σ H r E ok hf hE => by cases hf⟩
def sDrop (f : EF) : SF := fun ρ => (f ρ).map fun _ => .nx ρ
theorem pus_expr (he : PuE cm X e f) (hs : swapsWith e none pos.line X.env = pure false := by rfl) : PuS cm X (.Expr e pos) (sDrop f) := by
  obtain ⟨t, p, q⟩ := he
  refine ⟨_, ps_expr p hs, fun x B F ρ σ H r E ok hf hE => ?_⟩
  unfold sDrop at hf
  cases e1 : f ρ with
  | none => rw [e1] at hf; cases hf
  | some a =>
    rw [e1] at hf
    cases hf
    exact q x B F ρ σ H a.1 a.2 _ ok e1 fun v B' H' gr ok' _ => hE B' F σ H' gr.bb ok'
def sSet (i : Nat) (f : EF) : SF := fun ρ => (f ρ).bind fun a => (setS i a.1 a.2 ρ).map .nx
theorem set_reads {te : TE} {i : Nat} (q : ∀ (x : Fx) (B : Hp) (F : Nat → List Addr) (ρ : Ev) (σ : St) (H : Hp) (d : D) (m : Md) (Q : VK), Ok (gx X cm) x B F ρ σ H → f ρ = some (d, m) →
      (∀ v B' H', Gr B H B' H' → Ok (gx X cm) x B' F ρ σ H' → Val (gx X cm) x m B' H' d v → Q v H') → te σ H Q)
    (x : Fx) (B : Hp) (F : Nat → List Addr) (ρ : Ev) (σ : St) (H : Hp) (r : Fl) (E : Ends) (ok : Ok (gx X cm) x B F ρ σ H) (hf : sSet i f ρ = some r) (hE : Post (gx X cm) x B r E) : tAsg te (gName i) E σ H := by
  unfold sSet at hf
  cases e1 : f ρ with
  | none => rw [e1] at hf; cases hf
  | some a =>
    rw [e1] at hf
    simp only [Option.bind_some] at hf
    cases e2 : setS i a.1 a.2 ρ with
    | none => rw [e2] at hf; cases hf
    | some ρ' =>
      rw [e2] at hf
      cases hf
      exact q x B F ρ σ H a.1 a.2 _ ok e1 fun v B' H' gr ok' hv => hE B' _ _ H' gr.bb (ok'.setS e2 hv)
theorem pus_set (i : Nat) {x : Str} {pos' : Pos} (hN : X.N.Nodup) (he : PuE cm X e f) (hi : X.N[i]? = some x := by rfl) (hx : Loc X.env.scope x := by first | exact .inl rfl | exact .inr rfl)
    (hs : swapsWith e (some (.Name x pos')) pos.line X.env = pure false := by rfl) (hf : X.fn x = true ∨ X.env.scope.names.lookup x = some .local := by first | exact .inl rfl | exact .inr rfl) : PuS cm X (.Assign [.Name x pos'] e pos) (sSet i f) := by
  obtain ⟨t, p, q⟩ := he
  exact ⟨_, ps_set hN hi hx p hs hf, set_reads q⟩
/-- name = [..] on one line -/
theorem pus_setLc (i : Nat) {y : Str} {py : Pos} {elt tg iter : Expr} {ifs : List Expr} {scope : Scope} {own : List (Str × Nat)} {js : List Nat} {spos : Pos} {fi : IF} {g : GF} {t : Ev → Option Bool} {e : EF} (hN : X.N.Nodup) (hi : PuI cm X tg iter fi) (ok : BlkOk X.N X.env.scope scope own)
    (hg : ∀ (s : Shared) (H : Hp) (C : Addr) (cl : List (Str × Addr)) (fp : List Addr), PuG cm (X.blk s H scope (compEnvC scope cl C X.env) fp) tg js g)
    (ht : ∀ (s : Shared) (H : Hp) (C : Addr) (cl : List (Str × Addr)) (fp : List Addr), PuTs cm (X.blk s H scope (compEnvC scope cl C X.env) fp) ifs t)
    (he : ∀ (s : Shared) (H : Hp) (C : Addr) (cl : List (Str × Addr)) (fp : List Addr), PuE cm (X.blk s H scope (compEnvC scope cl C X.env) fp) elt e)
    (hy : X.N[i]? = some y := by rfl) (hyl : X.env.scope.names.lookup y = some .local := by rfl) (hsw : swapsWith (.ListComp elt [⟨tg, iter, ifs, 0⟩] scope pos) (some (.Name y py)) spos.line X.env = pure true := by exact sw_true rfl rfl rfl (by decide +kernel))
    (hjs : ∀ j ∈ js, j ∈ own.map (·.2) := by decide) (hc : X.calm = true := by rfl) (hs : ∀ x, foldedSetIterable iter X.env x = pure x := by intro _; rfl) :
    PuS cm X (.Assign [.Name y py] (.ListComp elt [⟨tg, iter, ifs, 0⟩] scope pos) spos) (sSet i (eLc fi (own.map (·.2)) g t e)) := by
  obtain ⟨wi, p, q⟩ := hi
  exact ⟨_, ps_setLc hc hN hy hyl hsw p ok (fun s H C cl fp => (hg s H C cl fp).can) (fun s H C cl fp => (show PTs (X.blk s H scope (compEnvC scope cl C X.env) fp) ifs (tPt (gx X cm) t) from ht s H C cl fp)) (fun s H C cl fp => (he s H C cl fp).can) hs, set_reads (lc_reads q hjs)⟩
/-- a, b = e -/
def sUnp (f : EF) (g : GF) : SF := fun ρ => (f ρ).bind fun a => (g a.1 a.2 ρ).map .nx
theorem pus_unp {tg : Expr} {js : List Nat} {gg : GF} (he : PuE cm X e f) (hg : PuG cm X tg js gg) (hs : swapsWithSole [tg] e pos.line X.env = pure false := by rfl) (hw : swappedStores [tg] e X.env = pure none := by rfl) (h1 : (assignEach [tg] X.env).map (·.2) = [assign tg X.env] := by rfl) : PuS cm X (.Assign [tg] e pos) (sUnp f gg) := by
  obtain ⟨t, p, q⟩ := he
  obtain ⟨tg', p2, q2⟩ := hg
  refine ⟨_, ps_asg p p2 hs hw h1, fun x B F ρ σ H r E ok hf hE => ?_⟩
  unfold sUnp at hf
  cases e1 : f ρ with
  | none => rw [e1] at hf; cases hf
  | some a =>
    rw [e1] at hf
    simp only [Option.bind_some] at hf
    cases e2 : gg a.1 a.2 ρ with
    | none => rw [e2] at hf; cases hf
    | some ρ' =>
      rw [e2] at hf
      cases hf
      exact q x B F ρ σ H a.1 a.2 _ ok e1 fun v B' H' gr ok' hv => q2 x B' F ρ ρ' σ H' a.1 a.2 v _ ok' hv e2 fun F' σ' ok2 _ _ => hE B' F' σ' H' gr.bb ok2
/-- name += e, ints -/
def sAug (i : Nat) (o : D → D → Option D) (f : EF) : SF := fun ρ => (eV i ρ).bind fun a => (f ρ).bind fun b => (o a.1 b.1).bind fun c => (setS i c .new ρ).map .nx
theorem pus_augI (i : Nat) {x : Str} {pos' : Pos} {op : Operator} {fn : Int → Int → Int} {o : D → D → Option D} (hp : PIp X op (ipI fn)) (ho : ∀ a b c, o a b = some c → ∃ i j, a = .int i ∧ b = .int j ∧ c = .int (fn i j)) (hN : X.N.Nodup) (he : PuE cm X e f) (hi : X.N[i]? = some x := by rfl) (hx : Loc X.env.scope x := by first | exact .inl rfl | exact .inr rfl)
    (hf : X.fn x = true ∨ X.env.scope.names.lookup x = some .local := by first | exact .inl rfl | exact .inr rfl) : PuS cm X (.AugAssign (.Name x pos') op e pos) (sAug i o f) := by
  obtain ⟨t, p, q⟩ := he
  refine ⟨_, ps_aug hN hi hx p hp hf, fun x B F ρ σ H r E ok hg hE => ?_⟩
  unfold sAug at hg
  cases e1 : eV i ρ with
  | none => rw [e1] at hg; cases hg
  | some a =>
    rw [e1] at hg
    simp only [Option.bind_some] at hg
    cases e2 : f ρ with
    | none => rw [e2] at hg; cases hg
    | some b =>
      rw [e2] at hg
      simp only [Option.bind_some] at hg
      cases e3 : o a.1 b.1 with
      | none => rw [e3] at hg; cases hg
      | some c =>
        rw [e3] at hg
        simp only [Option.bind_some] at hg
        cases e4 : setS i c .new ρ with
        | none => rw [e4] at hg; cases hg
        | some ρ' =>
          rw [e4] at hg
          cases hg
          obtain ⟨n, k, ea, eb, rfl⟩ := ho _ _ _ e3
          obtain ⟨a, ma⟩ := a
          obtain ⟨b, mb⟩ := b
          cases ea
          cases eb
          have key : σ[i]? = some (some (.int n)) := by
            unfold eV at e1
            split at e1
            all_goals first
              | (rename_i z; cases e1; obtain ⟨_, v, h1, h2⟩ := ok.at_ i _ z; cases h2; exact h1)
              | (rename_i z; cases e1; obtain ⟨_, v, h1, h2, _⟩ := ok.at_ i _ z; cases h2; exact h1)
              | (rename_i z; cases e1; obtain ⟨v, h1, h2, _⟩ := ok.at_ i _ z; cases h2.1; exact h1)
              | cases e1
          refine ⟨_, key, q x B F ρ σ H _ _ _ ok e2 fun v B' H' gr ok' hv => ?_⟩
          cases hv.is ok'
          exact ⟨n, k, rfl, rfl, hE B' _ _ H' gr.bb (ok'.setS e4 rfl)⟩
def augAdd (a b : D) : Option D := match a, b with
  | .int i, .int j => some (.int (i + j))
  | _, _ => none
theorem pus_augadd (i : Nat) {x : Str} {pos' : Pos} (hN : X.N.Nodup) (he : PuE cm X e f) (hi : X.N[i]? = some x := by rfl) (hx : Loc X.env.scope x := by first | exact .inl rfl | exact .inr rfl)
    (hf : X.fn x = true ∨ X.env.scope.names.lookup x = some .local := by first | exact .inl rfl | exact .inr rfl) : PuS cm X (.AugAssign (.Name x pos') .Add e pos) (sAug i augAdd f) :=
  pus_augI i (fn := fun i j => i + j) ip_add (fun a b c h => by unfold augAdd at h; split at h <;> cases h; exact ⟨_, _, rfl, rfl, rfl⟩) hN he hi hx hf
def sRet (f : EF) : SF := fun ρ => (f ρ).bind fun a => if (flat a.1 || isNew a.2) = true then some (.rt a.1 ρ) else none
theorem pus_ret (he : PuE cm X e f) : PuS cm X (.Return (some e) pos) (sRet f) := by
  obtain ⟨t, p, q⟩ := he
  refine ⟨_, ps_ret p, fun x B F ρ σ H r E ok hf hE => ?_⟩
  unfold sRet at hf
  cases e1 : f ρ with
  | none => rw [e1] at hf; cases hf
  | some a =>
    rw [e1] at hf
    simp only [Option.bind_some] at hf
    split at hf
    · rename_i hn
      cases hf
      exact q x B F ρ σ H a.1 a.2 _ ok e1 fun v B' H' gr ok' hv => hE v B' F σ H' gr.bb ok' (Val.new ok' hn hv)
    · cases hf
def sRetN : SF := fun ρ => some (.rt .non ρ)
theorem pus_retN : PuS cm X (.Return none pos) sRetN := ⟨_, ps_retN, fun x B F ρ σ H r E ok hf hE => by cases hf; exact hE _ B F σ H (Same.refl B) ok rfl⟩
def sIf (c : Ev → Option Bool) (g h : SF) : SF := fun ρ => (c ρ).bind fun k => if k = true then g ρ else h ρ
theorem pus_if {c : Expr} {fc : Ev → Option Bool} {a b : List Stmt} (hc : PuT cm X c fc) (ha : PuB cm X a g) (hb : PuB cm X b h) : PuS cm X (.If c a b pos) (sIf fc g h) := by
  obtain ⟨t, p, q⟩ := hc
  obtain ⟨ta, pa, qa⟩ := ha
  obtain ⟨tb, pb, qb⟩ := hb
  refine ⟨_, ps_if p pa pb, fun x B F ρ σ H r E ok hf hE => ?_⟩
  unfold sIf at hf
  cases e1 : fc ρ with
  | none => rw [e1] at hf; cases hf
  | some k =>
    rw [e1] at hf
    refine q x B F ρ σ H k _ ok e1 fun B' H' gr ok' => ?_
    cases k with
    | true => exact iteT (qa x B' F ρ σ H' r E ok' (by simpa using hf) (hE.mono gr.bb))
    | false => exact iteF (qb x B' F ρ σ H' r E ok' (by simpa using hf) (hE.mono gr.bb))

/-! ### for -/
def notOwn : Md → Bool
  | .own => false
  | _ => true
def forGo (g : GF) (b : SF) (m : Md) : List D → Ev → Option Fl
  | [], ρ => some (.nx ρ)
  | d :: r, ρ => (g d (effm m d) ρ).bind fun ρ1 => (b ρ1).bind fun s => match s with
    | .nx ρ2 => forGo g b m r ρ2
    | .ct ρ2 => forGo g b m r ρ2
    | .bk ρ2 => some (.nx ρ2)
    | .rt d ρ2 => some (.rt d ρ2)
def sFor (f : IF) (g : GF) (b : SF) : SF := fun ρ => (f ρ).bind fun s => if notOwn s.2 = true then forGo g b s.2 s.1 ρ else none
theorem Src.item2 {Γ : Ga} {x : Fx} {ds : List D} {J : It} {m : Md} {B0 H0 B H : Hp} {F : Nat → List Addr} {ρ : Ev} {σ : St} (S : Src Γ (rgOf x m B0 H0) ds J) (hm : notOwn m = true) (o : Ok Γ x B F ρ σ H) (bb : Same B0 B) {i : Nat} {d : D} (e : ds[i]? = some d) :
    J.go i H ∧ ∀ v H', J.yld i H v H' → ∃ B', Gr B H B' H' ∧ Ok Γ x B' F ρ σ H' ∧ Val Γ x (effm m d) B' H' d v := by
  have s : Same (rgOf x m B0 H0) H := by
    cases m with
    | own => simp [notOwn] at hm
    | par => exact o.kp
    | new => exact bb.trans o.bh
  refine ⟨S.go i H d s e, fun v H' y => ?_⟩
  rcases S.yld i H d v H' s e y with ⟨rfl, h⟩ | ⟨f, bn⟩
  · refine ⟨B, Gr.refl B _, o, Val.eff o ?_⟩
    cases m with
    | own => simp [notOwn] at hm
    | par => exact h
    | new => exact Is.mono bb h
  · obtain ⟨B', g', o', h⟩ := o.born' bn
    refine ⟨B', g', o', ?_⟩
    unfold effm
    rw [if_pos f]
    exact h
theorem pus_for {tg iter : Expr} {body : List Stmt} {js : List Nat} {fi : IF} {gg : GF} (hi : PuI cm X tg iter fi) (hg : PuG cm X tg js gg) (hb : PuB cm X body g) (hp : PassesOwn (model X.prog X.w) X.A X.env X.xe := by exact PassesOwn.never) (hc : X.calm = true := by rfl) (hs : ∀ x, foldedSetIterable iter X.env x = pure x := by intro _; rfl) : PuS cm X (.For tg iter body [] pos) (sFor fi gg g) := by
  obtain ⟨wi, p, q⟩ := hi
  obtain ⟨tg', p2, q2⟩ := hg
  obtain ⟨tb, p3, q3⟩ := hb
  refine ⟨_, ps_for hp hc p p2 p3 hs, fun x B F ρ σ H r E ok hf hE => ?_⟩
  unfold sFor at hf
  cases e1 : fi ρ with
  | none => rw [e1] at hf; cases hf
  | some s =>
    rw [e1] at hf
    obtain ⟨ds, m⟩ := s
    simp only [Option.bind_some] at hf
    split at hf
    · rename_i hm
      refine q x B F ρ σ H ds m _ ok e1 fun J B1 H1 g1 ok1 S => ?_
      refine ⟨fun i mm σ H => mm = ds.length - i ∧ i ≤ ds.length ∧ ∃ B F ρ, Ok (gx X cm) x B F ρ σ H ∧ Same B1 B ∧ forGo gg g m (ds.drop i) ρ = some r, ⟨ds.length, by simp, Nat.zero_le _, B1, F, ρ, ok1, Same.refl B1, by simpa using hf⟩, ?_⟩
      rintro i mm σ2 H2 ⟨rfl, hi, B2, F2, ρ2, ok2, bb, er⟩
      by_cases hlt : i < ds.length
      · have ed : ds[i]? = some ds[i] := List.getElem?_eq_getElem hlt
        rw [List.drop_eq_getElem_cons hlt, forGo] at er
        cases h1 : gg ds[i] (effm m ds[i]) ρ2 with
        | none => rw [h1] at er; cases er
        | some ρ3 =>
          rw [h1] at er
          simp only [Option.bind_some] at er
          cases h2 : g ρ3 with
          | none => rw [h2] at er; cases er
          | some r3 =>
            rw [h2] at er
            simp only [Option.bind_some] at er
            obtain ⟨hgo, hy⟩ := S.item2 (H0 := H1) hm ok2 bb ed
            refine .inr ⟨hgo, fun σ H => i + 1 ≤ ds.length ∧ ∃ B F ρ, Ok (gx X cm) x B F ρ σ H ∧ Same B1 B ∧ forGo gg g m (ds.drop (i + 1)) ρ = some r, fun σ' H' h => ⟨_, by omega, rfl, h⟩, fun v H3 y => ?_⟩
            obtain ⟨B3, g3, ok3, hv⟩ := hy v H3 y
            refine q2 x B3 F2 ρ2 ρ3 σ2 H3 _ _ v _ ok3 hv h1 fun F4 σ4 ok4 _ _ => ?_
            refine q3 x B3 F4 ρ3 σ4 H3 r3 _ ok4 h2 ?_
            have b13 : Same B1 B3 := bb.trans g3.bb
            cases r3 with
            | nx ρ4 => exact fun B' F' σ' H' s ok' => ⟨hlt, B', F', ρ4, ok', b13.trans s, er⟩
            | ct ρ4 => exact fun B' F' σ' H' s ok' => ⟨hlt, B', F', ρ4, ok', b13.trans s, er⟩
            | bk ρ4 => cases er; exact fun B' F' σ' H' s ok' => hE B' F' σ' H' (g1.bb.trans (b13.trans s)) ok'
            | rt d ρ4 => cases er; exact fun v B' F' σ' H' s ok' hi => hE v B' F' σ' H' (g1.bb.trans (b13.trans s)) ok' hi
      · have ei : i = ds.length := by omega
        subst ei
        rw [List.drop_length] at er
        cases er
        have s : Same (rgOf x m B1 H1) H2 := by
          cases m with
          | own => simp [notOwn] at hm
          | par => exact ok2.kp
          | new => exact bb.trans ok2.bh
        exact .inl ⟨S.stop _ H2 s (Nat.le_refl _), hE B2 F2 σ2 H2 (g1.bb.trans bb) ok2⟩
    · cases hf

/-! ### while -/
def whGo (c : Ev → Option Bool) (b : SF) : Nat → Ev → Option Fl
  | 0, _ => none
  | n + 1, ρ => (c ρ).bind fun k => if k = true then (b ρ).bind fun s => match s with
    | .nx ρ2 => whGo c b n ρ2
    | .ct ρ2 => whGo c b n ρ2
    | .bk ρ2 => some (.nx ρ2)
    | .rt d ρ2 => some (.rt d ρ2) else some (.nx ρ)
theorem whGo_step {c : Ev → Option Bool} {b : SF} : ∀ {n : Nat} {ρ : Ev} {r : Fl}, whGo c b n ρ = some r → whGo c b (n + 1) ρ = some r
  | 0, _, _, h => by cases h
  | n + 1, ρ, r, h => by
    rw [whGo] at h ⊢
    cases e1 : c ρ with
    | none => rw [e1] at h; cases h
    | some k =>
      rw [e1] at h
      simp only [Option.bind_some] at h ⊢
      split at h
      · rename_i hk
        rw [if_pos hk]
        cases e2 : b ρ with
        | none => rw [e2] at h; cases h
        | some s =>
          rw [e2] at h
          simp only [Option.bind_some] at h ⊢
          cases s with
          | nx ρ2 => exact whGo_step h
          | ct ρ2 => exact whGo_step h
          | bk => exact h
          | rt => exact h
      · rename_i hk
        rw [if_neg hk]
        exact h
theorem whGo_le {c : Ev → Option Bool} {b : SF} {n m : Nat} {ρ : Ev} {r : Fl} (h : whGo c b n ρ = some r) (l : n ≤ m) : whGo c b m ρ = some r := by
  induction l with
  | refl => exact h
  | step _ ih => exact whGo_step ih
open Classical in
noncomputable def sWhile (c : Ev → Option Bool) (b : SF) : SF := fun ρ => if h : ∃ n r, whGo c b n ρ = some r then some h.choose_spec.choose else none
theorem sWhile_of {c : Ev → Option Bool} {b : SF} {n : Nat} {ρ : Ev} {r : Fl} (h : whGo c b n ρ = some r) : sWhile c b ρ = some r := by
  have q : ∃ n r, whGo c b n ρ = some r := ⟨n, r, h⟩
  unfold sWhile
  rw [dif_pos q]
  have h2 := q.choose_spec.choose_spec
  have a := whGo_le h (Nat.le_max_left n q.choose)
  have a2 := whGo_le h2 (Nat.le_max_right n q.choose)
  rw [a] at a2
  exact a2.symm
theorem sWhile_some {c : Ev → Option Bool} {b : SF} {ρ : Ev} {r : Fl} (h : sWhile c b ρ = some r) : ∃ n, whGo c b n ρ = some r := by
  unfold sWhile at h
  split at h
  · rename_i q
    have h2 := q.choose_spec.choose_spec
    cases h
    exact ⟨_, h2⟩
  · cases h
theorem pus_while {c : Expr} {body : List Stmt} {fc : Ev → Option Bool} (hc : PuT cm X c fc) (hb : PuB cm X body g) (hp : PassesOwn (model X.prog X.w) X.A X.env X.xe := by exact PassesOwn.never) : PuS cm X (.While c body [] pos) (sWhile fc g) := by
  obtain ⟨t, p, q⟩ := hc
  obtain ⟨tb, p3, q3⟩ := hb
  refine ⟨_, ps_while hp p p3, fun x B F ρ σ H r E ok hf hE => ?_⟩
  obtain ⟨n, hn⟩ := sWhile_some hf
  refine ⟨fun m σ H => ∃ B' F ρ, Ok (gx X cm) x B' F ρ σ H ∧ Same B B' ∧ whGo fc g m ρ = some r, ⟨n, B, F, ρ, ok, Same.refl B, hn⟩, ?_⟩
  rintro m σ2 H2 ⟨B2, F2, ρ2, ok2, bb, er⟩
  cases m with
  | zero => cases er
  | succ m =>
    rw [whGo] at er
    cases e1 : fc ρ2 with
    | none => rw [e1] at er; cases er
    | some k =>
      rw [e1] at er
      simp only [Option.bind_some] at er
      refine q x B2 F2 ρ2 σ2 H2 k _ ok2 e1 fun B3 H3 g3 ok3 => ?_
      cases k with
      | false =>
        simp at er
        subst er
        exact iteF (hE B3 F2 σ2 H3 (bb.trans g3.bb) ok3)
      | true =>
        rw [if_pos rfl] at er
        cases e2 : g ρ2 with
        | none => rw [e2] at er; cases er
        | some s =>
          rw [e2] at er
          simp only [Option.bind_some] at er
          refine iteT ⟨fun σ H => ∃ B' F ρ, Ok (gx X cm) x B' F ρ σ H ∧ Same B B' ∧ whGo fc g m ρ = some r, fun σ' H' h => ⟨m, Nat.lt_succ_self _, h⟩, ?_⟩
          refine q3 x B3 F2 ρ2 σ2 H3 s _ ok3 e2 ?_
          have b13 : Same B B3 := bb.trans g3.bb
          cases s with
          | nx ρ4 => exact fun B' F' σ' H' s ok' => ⟨B', F', ρ4, ok', b13.trans s, er⟩
          | ct ρ4 => exact fun B' F' σ' H' s ok' => ⟨B', F', ρ4, ok', b13.trans s, er⟩
          | bk ρ4 => cases er; exact fun B' F' σ' H' s ok' => hE B' F' σ' H' (b13.trans s) ok'
          | rt d ρ4 => cases er; exact fun v B' F' σ' H' s ok' hi => hE v B' F' σ' H' (b13.trans s) ok' hi
end

/-! ### a def that changes nothing -/
/-- the slots at the entry -/
def ent (n : Nat) (ds : List D) : Ev := ds.map .fz ++ List.replicate (n - ds.length) .emp
/-- what the body b says of the arguments; n: the number of slots, k: of arguments -/
def fnP (n k : Nat) (b : SF) (ds : List D) : Option D := if ds.length = k then (b (ent n ds)).bind fun r => match r with
  | .rt d _ => some d
  | .nx _ => some .non
  | _ => none else none
theorem ok_start {K : PySem.W.Frag} {cm : Nat → Addr} {w : World} {H : Hp} {ds : List D} {vs : List V} {N : List Str} (h : Iss ⟨K, cm, w⟩ H ds vs) (hl : ds.length ≤ N.length) :
    Ok ⟨K, cm, w⟩ ⟨H, H, fun _ => False, L2.start N vs⟩ (tupOf H) (fun _ => []) (ent N.length ds) (L2.start N vs) H where
  kp := Same.refl H
  bh := tupOf_same
  tup := fun a xs e => tupOf_tup e
  born := fun a o e => .inl (tupOf_some e).2
  bk := fun a o e => .inl (tupOf_some e).2
  dom := fun a e => e
  fk := fun i a ha => nomatch ha
  dj := fun i j a ha => nomatch ha
  nd := fun i => List.nodup_nil
  out := fun i _ => rfl
  len := by unfold ent L2.start; simp [h.length]
  at_ := fun i s e => by
    unfold ent at e
    by_cases q : i < ds.length
    · rw [List.getElem?_append_left (by simpa using q), List.getElem?_map] at e
      have e1 : ds[i]? = some ds[i] := List.getElem?_eq_getElem q
      rw [e1] at e
      cases e
      obtain ⟨v, ev, hv⟩ := h.get e1
      have e0 : (L2.start N vs)[i]? = some (some v) := by
        unfold L2.start
        rw [List.getElem?_append_left (by simpa [h.length] using q), List.getElem?_map, ev]; rfl
      exact ⟨rfl, v, e0, hv, e0⟩
    · rw [List.getElem?_append_right (by simpa using q)] at e
      have := List.mem_of_getElem? e
      rw [List.eq_of_mem_replicate this]
      rfl
theorem fn_pure {P : Program} {w : World} {K : PySem.W.Frag} {mg : Str → Option Value} {base : Heap} {cm : Nat → Addr} {x qual : Str} {st : Stmt} {f : Addr} {fd : FuncData} {N ps : List Str} {k : Nat} {b : SF} (F : Fun K x qual st f fd) (S : FnScope N ps (defScope st)) (hN : ps.length ≤ N.length)
    (hb : ∀ (cdv : Value) (A : Around) (outer : List Env) (s : Shared) (H : Hp) (E : XK), Room k (A.deeper (PyProof.Rows.envOfC qual (defScope st) s.heap.objs.size f cdv)) → PuB cm (cxOf CX0 P w K mg base N qual (defScope st) f cdv A outer s H E).nox (defBody st) b) :
    FnOk P w K mg base CX0 (k + 1) f fd ps (spP K cm w (fnP N.length ps.length b)) := by
  refine F.ok S (fun vs H Q E h => ?_) (fun cdv A outer s H vs Q E hr h => ?_)
  · obtain ⟨ds, d, h1, h2, _⟩ := h
    unfold fnP at h2
    split at h2
    · rename_i e
      rw [h1.length, e]
    · cases h2
  · obtain ⟨ds, d, h1, h2, h3⟩ := h
    unfold fnP at h2
    split at h2
    · rename_i e
      obtain ⟨t, p, q⟩ := hb cdv A outer s H E hr
      cases e1 : b (ent N.length ds) with
      | none => rw [e1] at h2; cases h2
      | some r =>
        rw [e1] at h2
        simp only [Option.bind_some] at h2
        refine ⟨t, p, q _ _ _ _ _ _ r _ (ok_start (N := N) h1 (by omega)) e1 ?_⟩
        have born : ∀ {v : V} {B : Hp} {F : Nat → List Addr} {ρ : Ev} {σ : St} {H' : Hp} {d : D}, Ok ⟨K, cm, w⟩ ⟨H, H, fun _ => False, L2.start N vs⟩ B F ρ σ H' → Is ⟨K, cm, w⟩ B d v → Born ⟨K, cm, w⟩ H H' d v := fun ok hi => ⟨ok.kp, _, ok.bh, ok.born, hi⟩
        cases r with
        | nx ρ => cases h2; exact fun B F σ H' s ok => h3 _ _ (born ok (v := .non) rfl)
        | rt c ρ => cases h2; exact fun v B F σ H' s ok hi => h3 _ _ (born ok hi)
        | bk => cases h2
        | ct => cases h2
    · cases h2
end DL

/-! DL10: things of one's own: made, found by their way, changed. -/
namespace DL
open PySem L2

def ownD (ρ : Ev) (i : Nat) : Option D := match ρ[i]? with
  | some (.ow d) => some d
  | some (.on d) => some d
  | _ => none
def setOwn (ρ : Ev) (i : Nat) (d : D) : Ev := match ρ[i]? with
  | some (.ow _) => ρ.set i (.ow d)
  | some (.on _) => ρ.set i (.on d)
  | _ => ρ
def onF (F : Nat → List Addr) (i : Nat) (l : List Addr) : Nat → List Addr := fun j => if j = i then l else F j
/-- addresses that no one knows of -/
def Loose (x : Fx) (B : Hp) (F : Nat → List Addr) (a : Addr) : Prop := B a = none ∧ x.Kp a = none ∧ x.H0 a = none ∧ ∀ j, a ∉ F j
section
variable {Γ : Ga} {x : Fx} {B : Hp} {F : Nat → List Addr} {ρ : Ev} {σ : St} {H H' : Hp}
theorem Ok.own (o : Ok Γ x B F ρ σ H) {i : Nat} {d : D} (h : ownD ρ i = some d) : ∃ v, σ[i]? = some (some v) ∧ Own Γ H d v (F i) := by
  unfold ownD at h
  split at h
  · rename_i e; cases h; obtain ⟨v, h1, h2, _⟩ := o.at_ i _ e; exact ⟨v, h1, h2⟩
  · rename_i e; cases h; obtain ⟨v, h1, h2, _⟩ := o.at_ i _ e; exact ⟨v, h1, h2⟩
  · cases h
theorem Ok.write (o : Ok Γ x B F ρ σ H) {i : Nat} {d d' : D} {v : V} {fp : List Addr} (h : ownD ρ i = some d) (hv : σ[i]? = some (some v)) (hk : ∀ a u, a ∉ F i → H a = some u → H' a = some u) (hd : ∀ a, H' a = none → H a = none)
    (ht : ∀ a xs, H' a = some (.tup xs) → H a = some (.tup xs)) (ho : Own Γ H' d' v fp) (hn : fp.Nodup) (hf : ∀ a ∈ fp, a ∈ F i ∨ Loose x B F a) : Ok Γ x B (onF F i fp) (setOwn ρ i d') σ H' := by
  have tk : TupK H H' := fun a xs e => hk a _ (fun z => by obtain ⟨u, hu, bx⟩ := o.box z; rw [e] at hu; cases hu; exact bx) e
  have hlt : i < ρ.length := by
    unfold ownD at h
    split at h
    · rename_i e; exact (List.getElem?_eq_some_iff.mp e).1
    · rename_i e; exact (List.getElem?_eq_some_iff.mp e).1
    · cases h
  have hlen : (setOwn ρ i d').length = ρ.length := by
    unfold setOwn
    split <;> simp
  have other : ∀ j, j ≠ i → (setOwn ρ i d')[j]? = ρ[j]? := fun j hj => by
    unfold setOwn
    split
    · exact List.getElem?_set_ne (Ne.symm hj)
    · exact List.getElem?_set_ne (Ne.symm hj)
    · rfl
  have mem : ∀ j a, a ∈ onF F i fp j → a ∈ F j ∨ (j = i ∧ Loose x B F a) := fun j a ha => by
    unfold onF at ha
    split at ha
    · rename_i q
      subst q
      rcases hf a ha with z | z
      · exact .inl z
      · exact .inr ⟨rfl, z⟩
    · exact .inl ha
  refine ⟨fun a u e => hk a u (fun z => by rw [(o.fk i a z).1] at e; cases e) (o.kp a u e), fun a u e => hk a u (fun z => by rw [(o.fk i a z).2.1] at e; cases e) (o.bh a u e), fun a xs e => o.tup a xs (ht a xs e), o.born, o.bk, fun a e => o.dom a (hd a e), fun j a ha => ?_, fun j k a h1 h2 => ?_, fun j => ?_, fun j hj => ?_, by rw [hlen, o.len], fun j s hs => ?_⟩
  · rcases mem j a ha with z | ⟨_, z1, z2, z3, _⟩
    · exact o.fk j a z
    · exact ⟨z2, z1, .inr z3⟩
  · rcases mem j a h1 with z1 | ⟨rfl, z1⟩
    · rcases mem k a h2 with z2 | ⟨rfl, z2⟩
      · exact o.dj j k a z1 z2
      · exact absurd z1 (z2.2.2.2 j)
    · rcases mem k a h2 with z2 | ⟨rfl, z2⟩
      · exact absurd z2 (z1.2.2.2 k)
      · rfl
  · unfold onF
    split
    · exact hn
    · exact o.nd j
  · unfold onF
    split
    · rename_i q; subst q; omega
    · exact o.out j (by omega)
  · by_cases q : j = i
    · subst q
      rw [show onF F j fp j = fp from if_pos rfl]
      unfold ownD at h
      unfold setOwn at hs
      split at h
      · rename_i e
        rw [e] at hs
        simp only at hs
        rw [List.getElem?_set_self hlt] at hs
        cases hs
        obtain ⟨v', h1, h2, h3⟩ := o.at_ j _ e
        rw [hv] at h1
        cases h1
        exact ⟨v, hv, ho, h3⟩
      · rename_i e
        rw [e] at hs
        simp only at hs
        rw [List.getElem?_set_self hlt] at hs
        cases hs
        obtain ⟨v', h1, h2, h3⟩ := o.at_ j _ e
        rw [hv] at h1
        cases h1
        refine ⟨v, hv, ho, fun a ha => ?_⟩
        rcases hf a ha with z | z
        · exact h3 a z
        · exact z.2.2.1
      · cases h
    · rw [other j q] at hs
      rw [show onF F i fp j = F j from if_neg q]
      have r := o.at_ j s hs
      have hkk : ∀ a ∈ F j, H' a = H a := fun a ha => by
        obtain ⟨u, hu, _⟩ := o.box ha
        rw [hu, hk a u (fun z => q (o.dj j i a ha z)) hu]
      cases s with
      | ow => obtain ⟨v', q1, q2, q3⟩ := r; exact ⟨v', q1, q2.keep tk hkk, q3⟩
      | on => obtain ⟨v', q1, q2, q3⟩ := r; exact ⟨v', q1, q2.keep tk hkk, q3⟩
      | ol => obtain ⟨b, vs, q1, q2, q3, q4, q5⟩ := r; exact ⟨b, vs, q1, q2, (hkk b (by rw [q2]; simp)).trans q3, q4, q5⟩
      | _ => exact r
/-- a new thing of one's own at a slot -/
theorem Ok.putOn (o : Ok Γ x B F ρ σ H) {i : Nat} {d : D} {v : V} {fp : List Addr} (hi : i < ρ.length) (ho : Own Γ H d v fp) (hn : fp.Nodup) (hf : ∀ a ∈ fp, Loose x B F a) : Ok Γ x B (onF F i fp) (ρ.set i (.on d)) (σ.set i (some v)) H where
  kp := o.kp
  bh := o.bh
  tup := o.tup
  born := o.born
  bk := o.bk
  dom := o.dom
  fk := fun j a ha => by
    unfold onF at ha
    split at ha
    · obtain ⟨h1, h2, h3, _⟩ := hf a ha; exact ⟨h2, h1, .inr h3⟩
    · exact o.fk j a ha
  dj := fun j k a h1 h2 => by
    unfold onF at h1 h2
    split at h1
    · split at h2
      · rename_i q1 q2; rw [q1, q2]
      · exact absurd h2 ((hf a h1).2.2.2 k)
    · split at h2
      · exact absurd h1 ((hf a h2).2.2.2 j)
      · exact o.dj j k a h1 h2
  nd := fun j => by
    unfold onF
    split
    · exact hn
    · exact o.nd j
  out := fun j hj => by
    rw [List.length_set] at hj
    unfold onF
    split
    · omega
    · exact o.out j hj
  len := by rw [List.length_set, List.length_set, o.len]
  at_ := fun j s hs => by
    by_cases q : j = i
    · subst q
      rw [List.getElem?_set_self hi] at hs
      cases hs
      rw [List.getElem?_set_self (by rw [← o.len]; exact hi), show onF F j fp j = fp from if_pos rfl]
      exact ⟨v, rfl, ho, fun a ha => (hf a ha).2.2.1⟩
    · rw [List.getElem?_set_ne (Ne.symm q)] at hs ⊢
      rw [show onF F i fp j = F j from if_neg q]
      exact o.at_ j s hs
theorem Ok.loose {B0 H0 : Hp} (o : Ok Γ x B F ρ σ H) (o0 : Ok Γ x B0 F ρ σ H0) {a : Addr} (h0 : H0 a = none) (hb : B a = none) : Loose x B F a :=
  ⟨hb, Same.free o0.kp h0, o0.dom a h0, fun j hj => by obtain ⟨u, hu, _⟩ := o0.box hj; rw [h0] at hu; cases hu⟩
end

/-! ### a thing made anew (or flat) -/
abbrev NF := Ev → Option D
def PuN (cm : Nat → Addr) (X : Cx) (e : Expr) (f : NF) : Prop :=
  ∃ t, PE X e t ∧ ∀ (x : Fx) (B : Hp) (F : Nat → List Addr) (ρ : Ev) (σ : St) (H : Hp) (d : D) (Q : VK), Ok (gx X cm) x B F ρ σ H → f ρ = some d →
    (∀ v B' H' fp, Gr B H B' H' → Ok (gx X cm) x B' F ρ σ H' → Own (gx X cm) H' d v fp → fp.Nodup → (∀ a ∈ fp, H a = none ∧ B' a = none) → Q v H') → t σ H Q
section
variable {cm : Nat → Addr} {X : Cx} {pos : Pos} {e : Expr} {f : EF}
def nFlat (f : EF) : NF := fun ρ => (f ρ).bind fun a => if flat a.1 = true then some a.1 else none
theorem pn_flat (h : PuE cm X e f) : PuN cm X e (nFlat f) := by
  obtain ⟨t, p, q⟩ := h
  refine ⟨t, p, fun x B F ρ σ H d Q ok hf hQ => ?_⟩
  unfold nFlat at hf
  cases e1 : f ρ with
  | none => rw [e1] at hf; cases hf
  | some a =>
    rw [e1] at hf
    simp only [Option.bind_some] at hf
    split at hf
    · rename_i hfl
      cases hf
      exact q x B F ρ σ H a.1 a.2 Q ok e1 fun v B' H' g ok' hv => hQ v B' H' [] g ok' (Own.ofFlat hfl (hv.is ok')) List.nodup_nil (fun _ h => nomatch h)
    · cases hf
/-- several, one after another -/
def PuNs (cm : Nat → Addr) (X : Cx) (es : List Expr) (f : Ev → Option (List D)) : Prop :=
  ∃ t, PA X es t ∧ ∀ (x : Fx) (B : Hp) (F : Nat → List Addr) (ρ : Ev) (σ : St) (H : Hp) (ds : List D) (Q : List V → Hp → Prop), Ok (gx X cm) x B F ρ σ H → f ρ = some ds →
    (∀ vs B' H' fp, Gr B H B' H' → Ok (gx X cm) x B' F ρ σ H' → Owns (gx X cm) H' ds vs fp → fp.Nodup → (∀ a ∈ fp, H a = none ∧ B' a = none) → Q vs H') → t σ H Q
def nNil : Ev → Option (List D) := fun _ => some []
def nCons (f : NF) (g : Ev → Option (List D)) : Ev → Option (List D) := fun ρ => (f ρ).bind fun a => (g ρ).bind fun r => some (a :: r)
theorem pns_nil : PuNs cm X [] nNil := ⟨_, pa_nil, fun x B F ρ σ H ds Q ok hf hQ => by cases hf; exact hQ [] B H [] (Gr.refl B H) ok ⟨rfl, rfl⟩ List.nodup_nil (fun _ h => nomatch h)⟩
/-- a tree stays over what only grows -/
theorem own_gr {Γ : Ga} {B H B' H' : Hp} {d : D} {v : V} {fp : List Addr} (g : Gr B H B' H') (h : Own Γ H d v fp) : Own Γ H' d v fp := h.keep (TupK.of g.hh) fun a ha => by
  obtain ⟨u, hu, _⟩ := h.box a ha
  rw [hu, g.hh a u hu]
theorem box_gr {B H B' H' : Hp} {a : Addr} {u : HO} (bh : Same B' H') (g : Gr B H B' H') (hb : B a = none) (hu : H a = some u) (bx : Box u) : B' a = none := by
  cases z : B' a with
  | none => rfl
  | some w =>
    have e := bh a w z
    rw [g.hh a u hu] at e
    cases e
    rcases g.new a u z with ⟨xs, rfl⟩ | h | h
    · exact bx.elim
    · rw [hb] at h; cases h
    · rw [hu] at h; cases h
theorem pns_cons {es : List Expr} {f : NF} {g : Ev → Option (List D)} (ha : PuN cm X e f) (hr : PuNs cm X es g) (hs : starEach (e :: es) X.env = (false, eval e X.env) :: starEach es X.env := by rfl) : PuNs cm X (e :: es) (nCons f g) := by
  obtain ⟨t, p, q⟩ := ha
  obtain ⟨u, p2, q2⟩ := hr
  refine ⟨_, pa_cons p p2 hs, fun x B F ρ σ H ds Q ok hf hQ => ?_⟩
  unfold nCons at hf
  cases e1 : f ρ with
  | none => rw [e1] at hf; cases hf
  | some a =>
    rw [e1] at hf
    simp only [Option.bind_some] at hf
    cases e2 : g ρ with
    | none => rw [e2] at hf; cases hf
    | some r =>
      rw [e2] at hf
      cases hf
      refine q x B F ρ σ H a _ ok e1 fun v B1 H1 f1 g1 ok1 o1 n1 l1 => ?_
      refine q2 x B1 F ρ σ H1 r _ ok1 e2 fun vs B2 H2 f2 g2 ok2 o2 n2 l2 => ?_
      refine hQ (v :: vs) B2 H2 (f1 ++ f2) (g1.trans g2) ok2 ⟨v, vs, f1, f2, rfl, own_gr g2 o1, o2, rfl⟩ (List.nodup_append.mpr ⟨n1, n2, ?_⟩) fun b hb => ?_
      · rintro b hb c hc rfl
        obtain ⟨u, hu, _⟩ := o1.box b hb
        rw [(l2 b hc).1] at hu
        cases hu
      · rcases List.mem_append.mp hb with hb | hb
        · obtain ⟨u, hu, bx⟩ := o1.box b hb
          exact ⟨(l1 b hb).1, box_gr ok2.bh g2 (l1 b hb).2 hu bx⟩
        · exact ⟨g1.hh.free (l2 b hb).1, (l2 b hb).2⟩
/-- a new object is laid, unknown -/
theorem Ok.laidH {Γ : Ga} {x : Fx} {B : Hp} {F : Nat → List Addr} {ρ : Ev} {σ : St} {H : Hp} (ok : Ok Γ x B F ρ σ H) {p : Addr} {o : HO} (hp : H p = none) (ho : ∀ xs, o ≠ .tup xs) : Gr B H B (upd H p o) ∧ Ok Γ x B F ρ σ (upd H p o) := by
  have g : Gr B H B (upd H p o) := ⟨same_upd hp, Same.refl B, fun a u e => .inr (.inl e)⟩
  refine ⟨g, ok.grow g.hh g.bb (ok.bh.trans g.hh) (fun a xs e => ?_) g.new⟩
  by_cases q : a = p
  · subst q; rw [upd_same] at e; cases e; exact absurd rfl (ho xs)
  · rw [upd_ne q] at e; exact ok.tup a xs e
def nLst (g : Ev → Option (List D)) : NF := fun ρ => (g ρ).bind fun ds => if ds.length ≤ 16777216 then some (.lst ds) else none
theorem Owns.length {Γ : Ga} {H : Hp} : ∀ {ds : List D} {vs : List V} {fp : List Addr}, Owns Γ H ds vs fp → vs.length = ds.length
  | [], _, _, h => by rw [h.1]; rfl
  | _ :: _, _, _, ⟨v, r, f1, f2, e, _, h2, _⟩ => by subst e; rw [List.length_cons, List.length_cons, Owns.length h2]
theorem pn_lst {es : List Expr} {g : Ev → Option (List D)} (ha : PuNs cm X es g) : PuN cm X (.List es pos) (nLst g) := by
  obtain ⟨t, p, q⟩ := ha
  refine ⟨_, pe_lst p, fun x B F ρ σ H d Q ok hf hQ => ?_⟩
  unfold nLst at hf
  cases e1 : g ρ with
  | none => rw [e1] at hf; cases hf
  | some ds =>
    rw [e1] at hf
    simp only [Option.bind_some] at hf
    split at hf
    · rename_i hl
      cases hf
      refine q x B F ρ σ H ds _ ok e1 fun vs B1 H1 fp g1 ok1 o1 n1 l1 => ⟨by rw [line_eq, o1.length]; exact hl, fun l hlz => ?_⟩
      obtain ⟨g2, ok2⟩ := ok1.laidH (o := .lst vs) hlz (fun xs z => nomatch z)
      have keep : ∀ a ∈ fp, (upd H1 l (.lst vs)) a = H1 a := fun a ha => by
        obtain ⟨u, hu, _⟩ := o1.box a ha
        exact upd_ne fun z => by rw [z, hlz] at hu; cases hu
      refine hQ (.ref l) B1 _ (l :: fp) (g1.trans g2) ok2 ⟨l, vs, fp, rfl, upd_same, o1.keep (TupK.of g2.hh) keep, rfl⟩ (List.nodup_cons.mpr ⟨fun z => ?_, n1⟩) fun a ha => ?_
      · obtain ⟨u, hu, _⟩ := o1.box l z
        rw [hlz] at hu
        cases hu
      · rcases List.mem_cons.mp ha with rfl | ha
        · exact ⟨g1.hh.free hlz, Same.free ok1.bh hlz⟩
        · exact l1 a ha
    · cases hf
def nDic0 : NF := fun _ => some (.dic [])
theorem pn_dic0 : PuN cm X (.Dict [] [] pos) nDic0 := by
  refine ⟨_, pe_dnewK, fun x B F ρ σ H d Q ok hf hQ => ?_⟩
  cases hf
  intro l hlz
  obtain ⟨g2, ok2⟩ := ok.laidH (o := .dK []) hlz (fun xs z => nomatch z)
  refine hQ (.ref l) B _ [l] g2 ok2 ⟨l, [], [], rfl, upd_same, ⟨rfl, rfl⟩, rfl⟩ (by simp) fun a ha => ?_
  rcases List.mem_cons.mp ha with rfl | ha
  · exact ⟨hlz, Same.free ok.bh hlz⟩
  · cases ha
/-- [.. for ..] of flat things -/
def nLc (f : EF) : NF := fun ρ => (f ρ).bind fun a => match a.1 with
  | .lst ds => if flats ds = true then some (.lst ds) else none
  | _ => none
theorem lc_own {own : List (Str × Nat)} {js : List Nat} {wi : TI} {fi : IF} {g : GF} {t : Ev → Option Bool} {e : EF} (q : ∀ (x : Fx) (B : Hp) (F : Nat → List Addr) (ρ : Ev) (σ : St) (H : Hp) (ds : List D) (m : Md) (R : It → Hp → Prop), Ok (gx X cm) x B F ρ σ H → fi ρ = some (ds, m) →
      (∀ J B' H', Gr B H B' H' → Ok (gx X cm) x B' F ρ σ H' → Src (gx X cm) (rgOf x m B' H') ds J → R J H') → wi σ H R) (hjs : ∀ j ∈ js, j ∈ own.map (·.2))
    (x : Fx) (B : Hp) (F : Nat → List Addr) (ρ : Ev) (σ : St) (H : Hp) (d : D) (Q : VK) (ok : Ok (gx X cm) x B F ρ σ H) (hf : nLc (eLc fi (own.map (·.2)) g t e) ρ = some d)
    (hQ : ∀ v B' H' fp, Gr B H B' H' → Ok (gx X cm) x B' F ρ σ H' → Own (gx X cm) H' d v fp → fp.Nodup → (∀ a ∈ fp, H a = none ∧ B' a = none) → Q v H') : tLc wi (tGu (gx X cm) js g) (tPt (gx X cm) t) (tPu (gx X cm) e) (own.map (·.2)) σ H Q := by
  unfold nLc at hf
  cases e1 : eLc fi (own.map (·.2)) g t e ρ with
  | none => rw [e1] at hf; cases hf
  | some a =>
    rw [e1] at hf
    obtain ⟨a, ma⟩ := a
    simp only [Option.bind_some] at hf
    split at hf
    · rename_i ds
      split at hf
      · rename_i hfl
        cases hf
        refine lc_hid q hjs x B F ρ σ H _ ma Q ok e1 fun Dd B2 H2 ys accV g2 ok2 ed em hD b2D hacc iacc => ?_
        cases ed
        refine hQ (.ref Dd) B2 H2 [Dd] g2 ok2 ⟨Dd, accV, [], rfl, hacc, Owns.ofFlat hfl (iacc.mono ok2.bh), rfl⟩ (by simp) fun a ha => ?_
        rcases List.mem_cons.mp ha with rfl | ha
        · exact ⟨hD, b2D⟩
        · cases ha
      · cases hf
    · cases hf
theorem pn_lc {tg iter elt : Expr} {ifs : List Expr} {scope : Scope} {own : List (Str × Nat)} {js : List Nat} {fi : IF} {g : GF} {t : Ev → Option Bool} {e : EF} (hN : X.N.Nodup) (hi : PuI cm X tg iter fi) (ok : BlkOk X.N X.env.scope scope own)
    (hg : ∀ (s : Shared) (H : Hp) (C : Addr) (cl : List (Str × Addr)) (fp : List Addr), PuG cm (X.blk s H scope (compEnvC scope cl C X.env) fp) tg js g)
    (ht : ∀ (s : Shared) (H : Hp) (C : Addr) (cl : List (Str × Addr)) (fp : List Addr), PuTs cm (X.blk s H scope (compEnvC scope cl C X.env) fp) ifs t)
    (he : ∀ (s : Shared) (H : Hp) (C : Addr) (cl : List (Str × Addr)) (fp : List Addr), PuE cm (X.blk s H scope (compEnvC scope cl C X.env) fp) elt e) (hjs : ∀ j ∈ js, j ∈ own.map (·.2) := by decide) (hc : X.calm = true := by rfl) (hs : ∀ x, foldedSetIterable iter X.env x = pure x := by intro _; rfl) :
    PuN cm X (.ListComp elt [⟨tg, iter, ifs, 0⟩] scope pos) (nLc (eLc fi (own.map (·.2)) g t e)) := by
  obtain ⟨wi, p, q⟩ := hi
  exact ⟨_, pe_lc hc hN p ok (fun s H C cl fp => (hg s H C cl fp).can) (fun s H C cl fp => (show PTs (X.blk s H scope (compEnvC scope cl C X.env) fp) ifs (tPt (gx X cm) t) from ht s H C cl fp)) (fun s H C cl fp => (he s H C cl fp).can) hs, lc_own q hjs⟩

/-! ### name = a thing of one's own -/
def sSetN (i : Nat) (f : NF) : SF := fun ρ => (f ρ).bind fun d => (ρ[i]?).bind fun s => if freeS s = true then some (.nx (ρ.set i (.on d))) else none
theorem setN_reads {te : TE} {i : Nat} {f : NF} (q : ∀ (x : Fx) (B : Hp) (F : Nat → List Addr) (ρ : Ev) (σ : St) (H : Hp) (d : D) (Q : VK), Ok (gx X cm) x B F ρ σ H → f ρ = some d →
    (∀ v B' H' fp, Gr B H B' H' → Ok (gx X cm) x B' F ρ σ H' → Own (gx X cm) H' d v fp → fp.Nodup → (∀ a ∈ fp, H a = none ∧ B' a = none) → Q v H') → te σ H Q)
    (x : Fx) (B : Hp) (F : Nat → List Addr) (ρ : Ev) (σ : St) (H : Hp) (r : Fl) (E : Ends) (ok : Ok (gx X cm) x B F ρ σ H) (hf : sSetN i f ρ = some r) (hE : Post (gx X cm) x B r E) : tAsg te (gName i) E σ H := by
  unfold sSetN at hf
  cases e1 : f ρ with
  | none => rw [e1] at hf; cases hf
  | some d =>
    rw [e1] at hf
    simp only [Option.bind_some] at hf
    cases e2 : ρ[i]? with
    | none => rw [e2] at hf; cases hf
    | some s =>
      rw [e2] at hf
      simp only [Option.bind_some] at hf
      split at hf
      · cases hf
        refine q x B F ρ σ H d _ ok e1 fun v B' H' fp g ok' o n l => ?_
        exact hE B' _ _ H' g.bb (ok'.putOn (List.getElem?_eq_some_iff.mp e2).1 o n fun a ha => ok'.loose ok (l a ha).1 (l a ha).2)
      · cases hf
theorem pus_setN (i : Nat) {x : Str} {pos' : Pos} {f : NF} (hN : X.N.Nodup) (he : PuN cm X e f) (hi : X.N[i]? = some x := by rfl) (hx : Loc X.env.scope x := by first | exact .inl rfl | exact .inr rfl)
    (hs : swapsWith e (some (.Name x pos')) pos.line X.env = pure false := by rfl) (hf : X.fn x = true ∨ X.env.scope.names.lookup x = some .local := by first | exact .inl rfl | exact .inr rfl) : PuS cm X (.Assign [.Name x pos'] e pos) (sSetN i f) := by
  obtain ⟨t, p, q⟩ := he
  exact ⟨_, ps_set hN hi hx p hs hf, setN_reads q⟩
theorem pus_setNLc (i : Nat) {y : Str} {py : Pos} {elt tg iter : Expr} {ifs : List Expr} {scope : Scope} {own : List (Str × Nat)} {js : List Nat} {spos : Pos} {fi : IF} {g : GF} {t : Ev → Option Bool} {e : EF} (hN : X.N.Nodup) (hi : PuI cm X tg iter fi) (ok : BlkOk X.N X.env.scope scope own)
    (hg : ∀ (s : Shared) (H : Hp) (C : Addr) (cl : List (Str × Addr)) (fp : List Addr), PuG cm (X.blk s H scope (compEnvC scope cl C X.env) fp) tg js g)
    (ht : ∀ (s : Shared) (H : Hp) (C : Addr) (cl : List (Str × Addr)) (fp : List Addr), PuTs cm (X.blk s H scope (compEnvC scope cl C X.env) fp) ifs t)
    (he : ∀ (s : Shared) (H : Hp) (C : Addr) (cl : List (Str × Addr)) (fp : List Addr), PuE cm (X.blk s H scope (compEnvC scope cl C X.env) fp) elt e)
    (hy : X.N[i]? = some y := by rfl) (hyl : X.env.scope.names.lookup y = some .local := by rfl) (hsw : swapsWith (.ListComp elt [⟨tg, iter, ifs, 0⟩] scope pos) (some (.Name y py)) spos.line X.env = pure true := by exact sw_true rfl rfl rfl (by decide +kernel))
    (hjs : ∀ j ∈ js, j ∈ own.map (·.2) := by decide) (hc : X.calm = true := by rfl) (hs : ∀ x, foldedSetIterable iter X.env x = pure x := by intro _; rfl) :
    PuS cm X (.Assign [.Name y py] (.ListComp elt [⟨tg, iter, ifs, 0⟩] scope pos) spos) (sSetN i (nLc (eLc fi (own.map (·.2)) g t e))) := by
  obtain ⟨wi, p, q⟩ := hi
  exact ⟨_, ps_setLc hc hN hy hyl hsw p ok (fun s H C cl fp => (hg s H C cl fp).can) (fun s H C cl fp => (show PTs (X.blk s H scope (compEnvC scope cl C X.env) fp) ifs (tPt (gx X cm) t) from ht s H C cl fp)) (fun s H C cl fp => (he s H C cl fp).can) hs, setN_reads (lc_own q hjs)⟩

/-! ### known from now on -/
/-- the slot's own thing is from now on only read -/
def froz (ρ : Ev) (i : Nat) : Option Ev := match ρ[i]? with
  | some (.on d) => some (ρ.set i (.fn d))
  | some _ => some ρ
  | none => none
theorem Ok.freeze {Γ : Ga} {x : Fx} {B : Hp} {F : Nat → List Addr} {ρ : Ev} {σ : St} {H : Hp} (o : Ok Γ x B F ρ σ H) {i : Nat} {d : D} (h : ρ[i]? = some (.on d)) : ∃ B', Same B B' ∧ Ok Γ x B' (offF F i) (ρ.set i (.fn d)) σ H := by
  obtain ⟨v, hv, ho, h0⟩ := o.at_ i _ h
  let R : Hp := fun a => if a ∈ F i then H a else none
  have hR : Same R H := fun a u e => by
    show H a = some u
    have e' : (if a ∈ F i then H a else none) = some u := e
    split at e'
    · exact e'
    · cases e'
  have t : Same (tupOf H) H := tupOf_same
  have sB : Same B (jn (tupOf H) B R) := fun a u z => jn_at t o.bh hR (.inr (.inl z))
  have hlt := (List.getElem?_eq_some_iff.mp h).1
  refine ⟨jn (tupOf H) B R, sB, ?_⟩
  refine ⟨o.kp, fun a u z => ?_, fun a xs e => jn_at t o.bh hR (.inl (tupOf_tup e)), fun a u z => ?_, fun a u z => ?_, o.dom, fun j a ha => ?_, fun j k a h1 h2 => o.dj j k a (offF_sub h1).1 (offF_sub h2).1, fun j => by unfold offF; split; exact List.nodup_nil; exact o.nd j, fun j hj => ?_, by rw [List.length_set, o.len], fun j s hs => ?_⟩
  · rcases jn_cases z with z | z | z
    · exact t a u z
    · exact o.bh a u z
    · exact hR a u z
  · rcases jn_cases z with z | z | z
    · exact .inl (tupOf_some z).2
    · exact o.born a u z
    · have e' : (if a ∈ F i then H a else none) = some u := z
      split at e'
      · rename_i q; exact .inr (h0 a q)
      · cases e'
  · rcases jn_cases z with z | z | z
    · exact .inl (tupOf_some z).2
    · exact o.bk a u z
    · have e' : (if a ∈ F i then H a else none) = some u := z
      split at e'
      · rename_i q; exact .inr (o.fk i a q).1
      · cases e'
  · obtain ⟨ha, hj⟩ := offF_sub ha
    obtain ⟨h1, h2, h3⟩ := o.fk j a ha
    refine ⟨h1, ?_, h3⟩
    cases z : jn (tupOf H) B R a with
    | none => rfl
    | some u =>
      obtain ⟨w, hw, bx⟩ := o.box ha
      rcases jn_cases z with z | z | z
      · obtain ⟨q1, xs, rfl⟩ := tupOf_some z
        rw [hw] at q1
        cases q1
        exact bx.elim
      · rw [h2] at z; cases z
      · have e' : (if a ∈ F i then H a else none) = some u := z
        split at e'
        · rename_i q; exact absurd (o.dj j i a ha q) hj
        · cases e'
  · rw [List.length_set] at hj
    unfold offF
    split
    · rfl
    · exact o.out j hj
  · by_cases q : j = i
    · subst q
      rw [List.getElem?_set_self hlt] at hs
      cases hs
      rw [show offF F j j = [] from if_pos rfl]
      refine ⟨rfl, v, hv, ho.isIn (fun a u z => jn_at t o.bh hR (.inl z)) fun a ha => ?_⟩
      obtain ⟨u, hu, _⟩ := o.box ha
      rw [hu]
      refine jn_at t o.bh hR (.inr (.inr ?_))
      show (if a ∈ F j then H a else none) = some u
      rw [if_pos ha, hu]
    · rw [List.getElem?_set_ne (Ne.symm q)] at hs
      rw [show offF F i j = F j from if_neg q]
      have r := o.at_ j s hs
      cases s with
      | fn => obtain ⟨q1, v', q2, q3⟩ := r; exact ⟨q1, v', q2, q3.mono sB⟩
      | ol => obtain ⟨b, vs, q1, q2, q3, q4, q5⟩ := r; exact ⟨b, vs, q1, q2, q3, q4.mono sB, q5⟩
      | _ => exact r
def bFroz (i : Nat) (g : SF) : SF := fun ρ => (froz ρ i).bind g
theorem pub_froz (i : Nat) {sts : List Stmt} {g : SF} (h : PuB cm X sts g) : PuB cm X sts (bFroz i g) := by
  obtain ⟨t, p, q⟩ := h
  refine ⟨t, p, fun x B F ρ σ H r E ok hf hE => ?_⟩
  unfold bFroz froz at hf
  split at hf
  · rename_i d e
    obtain ⟨B', s, ok'⟩ := ok.freeze e
    exact q x B' _ _ σ H r E ok' hf (hE.mono s)
  · exact q x B F ρ σ H r E ok hf hE
  · cases hf
end

/-! ### the way to a part of one's own -/
/-- at slot i, by the steps p, stands d -/
def wayD (ρ : Ev) (i : Nat) (p : List Stp) : Option D := (ownD ρ i).bind fun d => dgets d p
abbrev WF := Ev → Option (List Stp)
def PuL (cm : Nat → Addr) (X : Cx) (e : Expr) (i : Nat) (f : WF) : Prop :=
  ∃ t, PE X e t ∧ ∀ (x : Fx) (B : Hp) (F : Nat → List Addr) (ρ : Ev) (σ : St) (H : Hp) (p : List Stp) (d : D) (Q : VK), Ok (gx X cm) x B F ρ σ H → f ρ = some p → wayD ρ i p = some d →
    (∀ v v0 B' H', Gr B H B' H' → Ok (gx X cm) x B' F ρ σ H' → σ[i]? = some (some v0) → vgets H' v0 p = some v → Q v H') → t σ H Q
theorem dgets_app : ∀ {p q : List Stp} {d : D}, dgets d (p ++ q) = (dgets d p).bind fun e => dgets e q
  | [], _, _ => rfl
  | s :: p, q, d => by
    rw [List.cons_append, dgets, dgets]
    cases dget d s with
    | none => rfl
    | some e => exact dgets_app
theorem vgets_app {H : Hp} : ∀ {p q : List Stp} {v : V}, vgets H v (p ++ q) = (vgets H v p).bind fun e => vgets H e q
  | [], _, _ => rfl
  | s :: p, q, v => by
    rw [List.cons_append, vgets, vgets]
    cases vget H v s with
    | none => rfl
    | some e => exact vgets_app
section
variable {cm : Nat → Addr} {X : Cx} {pos : Pos} {e : Expr} {f : EF}
theorem wayD_some {ρ : Ev} {i : Nat} {p : List Stp} {d : D} (h : wayD ρ i p = some d) : ∃ d0, ownD ρ i = some d0 ∧ dgets d0 p = some d := by
  unfold wayD at h
  cases e : ownD ρ i with
  | none => rw [e] at h; cases h
  | some d0 => rw [e] at h; exact ⟨d0, rfl, h⟩
/-- the part, and how it is exchanged -/
theorem Ok.part {Γ : Ga} {x : Fx} {B : Hp} {F : Nat → List Addr} {ρ : Ev} {σ : St} {H : Hp} (o : Ok Γ x B F ρ σ H) {i : Nat} {p : List Stp} {d : D} {v v0 : V} (h : wayD ρ i p = some d) (hv : σ[i]? = some (some v0)) (hg : vgets H v0 p = some v) :
    ∃ d0 l fq r, ownD ρ i = some d0 ∧ F i = l ++ fq ++ r ∧ Own Γ H d v fq ∧ ∀ (H' : Hp) (y : D) (fx : List Addr), (∀ a ∈ l ++ r, H' a = H a) → TupK H H' → Own Γ H' y v fx → Own Γ H' (dreps d0 p y) v0 (l ++ fx ++ r) := by
  obtain ⟨d0, e0, e1⟩ := wayD_some h
  obtain ⟨w, hw, ho⟩ := o.own e0
  rw [hv] at hw
  cases hw
  obtain ⟨v', e2, ⟨l, fq, r, ef, hp, hk⟩⟩ := ho.parts e1
  rw [hg] at e2
  cases e2
  exact ⟨d0, l, fq, r, e0, ef, hp, hk⟩
def wN : WF := fun _ => some []
theorem pul_name (i : Nat) {x : Str} (hN : X.N[i]? = some x := by rfl) (hv : Vis X.env.scope x := by first | exact Or.inl rfl | exact Or.inr (Or.inl rfl) | exact Or.inr (Or.inr rfl))
    (hd : (x == ("__debug__" : Str)) = false := by decide) (hcd : (x == ("__classdict__" : Str)) = false := by decide) : PuL cm X (.Name x pos) i wN := by
  refine ⟨_, pe_var hN hv hd hcd, fun z B F ρ σ H p d Q ok hf hw hQ => ?_⟩
  cases hf
  obtain ⟨d0, e0, _⟩ := wayD_some hw
  obtain ⟨v, ev, _⟩ := ok.own e0
  exact ⟨v, ev, hQ v v B H (Gr.refl B H) ok ev rfl⟩
def wFld (n : Nat) (f : Str) (i : Nat) (w : WF) : WF := fun ρ => (w ρ).bind fun p => (wayD ρ i p).bind fun d => match d with
  | .ins c _ => if c = n then some (p ++ [.fd f]) else none
  | _ => none
theorem pul_fld (n : Nat) {f : Str} {i : Nat} {w : WF} (hc : Cls X.K (cm n)) (hn : NoAttr X.K (cm n) f) (ha : PuL cm X e i w) (hb : attributeBase e f X.env (eval e X.env) = eval e X.env := by rfl) : PuL cm X (.Attribute e f pos) i (wFld n f i w) := by
  obtain ⟨t, p, q⟩ := ha
  refine ⟨_, pe_fld p hb, fun z B F ρ σ H p d Q ok hf hw hQ => ?_⟩
  unfold wFld at hf
  cases e1 : w ρ with
  | none => rw [e1] at hf; cases hf
  | some p0 =>
    rw [e1] at hf
    simp only [Option.bind_some] at hf
    cases e2 : wayD ρ i p0 with
    | none => rw [e2] at hf; cases hf
    | some d1 =>
      rw [e2] at hf
      simp only [Option.bind_some] at hf
      split at hf
      · rename_i c fs
        split at hf
        · rename_i hcn
          subst hcn
          cases hf
          refine q z B F ρ σ H p0 _ _ ok e1 e2 fun v v0 B' H' g ok' hv hg => ?_
          obtain ⟨d0, l, fq, r, e0, ef, ho, _⟩ := ok'.part e2 hv hg
          obtain ⟨a, dx, vs, fq', rfl, h1, h2, rfl⟩ := ho
          have e3 : getF fs f = some d := by
            obtain ⟨d0', e0', e1'⟩ := wayD_some hw
            obtain ⟨d0'', e0'', e1''⟩ := wayD_some e2
            rw [e0'] at e0''
            cases e0''
            rw [dgets_app, e1''] at e1'
            simpa [dgets, dget] using e1'
          obtain ⟨v', e4, _⟩ := h2.part e3
          exact ⟨a, cm c, dx, vs, v', rfl, h1, hc, hn, e4, hQ v' v0 B' H' g ok' hv (by rw [vgets_app, hg]; simp only [Option.bind_some, vgets, vget, h1, e4])⟩
        · cases hf
      · cases hf
/-- the step that an index is -/
def stpOf (d k : D) : Option Stp := match d with
  | .dic _ => (keyOf k).map .ky
  | .lst ds => (intD k).bind fun j => (ixN ds.length j).map .ix
  | _ => none
def wIx (i : Nat) (w : WF) (f : EF) : WF := fun ρ => (w ρ).bind fun p => (wayD ρ i p).bind fun d => (f ρ).bind fun k => (stpOf d k.1).map fun s => p ++ [s]
theorem pul_ix {i : Nat} {w : WF} {k : Expr} (hu : X.A.units + 1 < cLine) (ha : PuL cm X e i w) (hk : PuE cm X k f) (hs : PlainIx k := by intro _ _; rfl) : PuL cm X (.Subscript e k pos) i (wIx i w f) := by
  obtain ⟨t, p, q⟩ := ha
  obtain ⟨t2, p2, q2⟩ := hk
  refine ⟨_, pe_ix (ix_seq.or (ix_dict hu)) p p2 hs, fun z B F ρ σ H p d Q ok hf hw hQ => ?_⟩
  unfold wIx at hf
  cases e1 : w ρ with
  | none => rw [e1] at hf; cases hf
  | some p0 =>
    rw [e1] at hf
    simp only [Option.bind_some] at hf
    cases e2 : wayD ρ i p0 with
    | none => rw [e2] at hf; cases hf
    | some d1 =>
      rw [e2] at hf
      simp only [Option.bind_some] at hf
      cases e3 : f ρ with
      | none => rw [e3] at hf; cases hf
      | some kk =>
        rw [e3] at hf
        simp only [Option.bind_some] at hf
        cases e4 : stpOf d1 kk.1 with
        | none => rw [e4] at hf; cases hf
        | some s =>
          rw [e4] at hf
          cases hf
          refine q z B F ρ σ H p0 _ _ ok e1 e2 fun v v0 B1 H1 g1 ok1 hv hg1 => ?_
          refine q2 z B1 F ρ σ H1 kk.1 kk.2 _ ok1 e3 fun u B2 H2 g2 ok2 hu2 => ?_
          have e5 : dget d1 s = some d := by
            obtain ⟨d0', e0', e1'⟩ := wayD_some hw
            obtain ⟨d0'', e0'', e1''⟩ := wayD_some e2
            rw [e0'] at e0''
            cases e0''
            rw [dgets_app, e1''] at e1'
            cases eq : dget d1 s with
            | none => rw [Option.bind_some, dgets, eq] at e1'; cases e1'
            | some y => rw [Option.bind_some, dgets, eq] at e1'; exact e1'
          obtain ⟨d0, l, fq, r, e0, ef, ho, _⟩ := ok1.part e2 hv hg1
          have ho2 := own_gr g2 ho
          -- the way is the same in the later heap
          obtain ⟨d0', e0', e1'⟩ := wayD_some e2
          obtain ⟨w1, hw1, how1⟩ := ok1.own e0'
          rw [hv] at hw1
          cases hw1
          obtain ⟨w2, hw2, how2⟩ := ok2.own e0'
          rw [hv] at hw2
          cases hw2
          have hg2 : vgets H2 v0 p0 = some v := by
            obtain ⟨va, ea, ⟨la, fa, ra, efa, hoa, _⟩⟩ := how2.parts e1'
            have : va = v := by
              have same : ∀ (p : List Stp) (a b c : V), vgets H1 a p = some b → vgets H2 a p = some c → c = b := by
                intro p
                induction p with
                | nil => intro a b c h1 h2; cases h1; cases h2; rfl
                | cons s p ih =>
                  intro a b c h1 h2
                  rw [vgets] at h1 h2
                  cases x1 : vget H1 a s with
                  | none => rw [x1] at h1; cases h1
                  | some y1 =>
                    rw [x1] at h1
                    have x2 : vget H2 a s = some y1 := by
                      cases a with
                      | ref a =>
                        cases s with
                        | ix i =>
                          simp only [vget] at x1 ⊢
                          cases hh : H1 a with
                          | none => rw [hh] at x1; cases x1
                          | some o => rw [hh] at x1; rw [g2.hh a o hh]; exact x1
                        | ky i =>
                          simp only [vget] at x1 ⊢
                          cases hh : H1 a with
                          | none => rw [hh] at x1; cases x1
                          | some o => rw [hh] at x1; rw [g2.hh a o hh]; exact x1
                        | fd i =>
                          simp only [vget] at x1 ⊢
                          cases hh : H1 a with
                          | none => rw [hh] at x1; cases x1
                          | some o => rw [hh] at x1; rw [g2.hh a o hh]; exact x1
                      | _ => cases s <;> simp [vget] at x1
                    rw [x2] at h2
                    exact ih y1 b c h1 h2
              exact same p0 v0 v va hg1 ea
            rw [ea, this]
          obtain ⟨v', e6, _⟩ := ho2.part1 e5
          have fin : Q v' H2 := hQ v' v0 B2 H2 (g1.trans g2) ok2 hv (by rw [vgets_app, hg2]; simp only [Option.bind_some, vgets, e6])
          have huis := hu2.is ok2
          cases d1 with
          | lst ds =>
            obtain ⟨a, vs, fq', rfl, h1, h2, rfl⟩ := ho2
            simp only [stpOf] at e4
            cases ek : intD kk.1 with
            | none => rw [ek] at e4; cases e4
            | some j =>
              rw [ek] at e4
              simp only [Option.bind_some] at e4
              cases ei : ixN ds.length j with
              | none => rw [ei] at e4; cases e4
              | some n =>
                rw [ei] at e4
                cases e4
                have eu : u = .int j := by
                  cases hkk : kk.1 <;> rw [hkk] at ek huis <;> simp [intD] at ek
                  subst ek
                  exact huis
                subst eu
                refine .inl (.inl ⟨a, vs, j, v', rfl, rfl, SqL.of h1, ?_, fin⟩)
                simp only [vget, h1] at e6
                unfold atI
                rw [h2.length, ei]
                exact e6
          | dic kvs =>
            obtain ⟨a, vs, fq', rfl, h1, h2, rfl⟩ := ho2
            simp only [stpOf] at e4
            cases ek : keyOf kk.1 with
            | none => rw [ek] at e4; cases e4
            | some j =>
              rw [ek] at e4
              cases e4
              cases keyOf_is ek huis
              simp only [vget, h1] at e6
              exact .inr ⟨a, v', rfl, by rw [← e6]; exact DGet.k h1, fin⟩
          | _ => simp [stpOf] at e4
end
end DL

/-! DL11: changes of one's own things. -/
namespace DL
open PySem L2

section
variable {Γ : Ga} {x : Fx} {B : Hp} {F : Nat → List Addr} {ρ : Ev} {σ : St} {H : Hp}
theorem ownD_get {ρ : Ev} {i : Nat} {d : D} (h : ownD ρ i = some d) : i < ρ.length := by
  unfold ownD at h
  split at h
  · rename_i e; exact (List.getElem?_eq_some_iff.mp e).1
  · rename_i e; exact (List.getElem?_eq_some_iff.mp e).1
  · cases h
/-- the object at a, the head of a part, is written; what it holds besides may be loose -/
theorem Ok.writePart (o : Ok Γ x B F ρ σ H) {i : Nat} {p : List Stp} {d y : D} {a : Addr} {v0 : V} {u : HO} {fx : List Addr} (hw : wayD ρ i p = some d) (hv : σ[i]? = some (some v0)) (hg : vgets H v0 p = some (.ref a))
    (hu : Box u) (hy : ∀ fq, Own Γ H d (.ref a) (a :: fq) → (a :: fq ++ fx).Nodup → ∃ fz, Own Γ (upd H a u) y (.ref a) fz ∧ fz.Nodup ∧ ∀ b ∈ fz, b ∈ a :: fq ∨ b ∈ fx) (hfx : fx.Nodup) (hl : ∀ b ∈ fx, Loose x B F b) (hbox : ∃ w, H a = some w ∧ Box w) (hda : ∀ fq, Own Γ H d (.ref a) fq → ∃ fr, fq = a :: fr) :
    ∀ d0, ownD ρ i = some d0 → ∃ F', Ok Γ x B F' (setOwn ρ i (dreps d0 p y)) σ (upd H a u) := by
  intro d0' h0'
  obtain ⟨d0, l, fq, r, e0, ef, ho, hk⟩ := o.part hw hv hg
  rw [h0'] at e0
  cases e0
  obtain ⟨fr, rfl⟩ := hda fq ho
  have nd := o.nd i
  rw [ef] at nd
  have hna : ∀ b ∈ l ++ r, b ≠ a := by
    rintro b hb rfl
    rw [List.nodup_append, List.nodup_append] at nd
    rcases List.mem_append.mp hb with hb | hb
    · exact nd.1.2.2 b hb b (by simp) rfl
    · exact nd.2.2 b (by simp) b hb rfl
  have hnd : (a :: fr).Nodup := by
    rw [List.nodup_append, List.nodup_append] at nd
    exact nd.1.2.1
  have memF : ∀ b ∈ a :: fr, b ∈ F i := fun b hb => by rw [ef]; simp only [List.mem_append]; exact .inl (.inr hb)
  obtain ⟨fz, hz, hzn, hzm⟩ := hy fr ho (by
    show ((a :: fr) ++ fx).Nodup
    refine List.nodup_append.mpr ⟨hnd, hfx, ?_⟩
    rintro b hb c hc rfl
    exact (hl b hc).2.2.2 i (memF b hb))
  have tk : TupK H (upd H a u) := TupK.upd (by
    obtain ⟨w, hw, bw⟩ := hbox
    intro xs e
    rw [hw] at e
    cases e
    exact bw.elim)
  have hnew := hk (upd H a u) y fz (fun b hb => upd_ne (hna b hb)) tk hz
  refine ⟨_, o.write h0' hv (fun b w hb hw => ?_) (fun b hb => ?_) (fun b xs hb => ?_) hnew ?_ fun b hb => ?_⟩
  · rw [upd_ne]
    · exact hw
    · rintro rfl
      exact hb (memF b (by simp))
  · by_cases q : b = a
    · subst q; rw [upd_same] at hb; cases hb
    · rw [upd_ne q] at hb; exact hb
  · by_cases q : b = a
    · subst q
      rw [upd_same] at hb
      cases hb
      exact hu.elim
    · rw [upd_ne q] at hb; exact hb
  · rw [List.nodup_append, List.nodup_append] at nd ⊢
    refine ⟨⟨nd.1.1, hzn, ?_⟩, nd.2.1, ?_⟩
    · rintro b hb c hc rfl
      rcases hzm b hc with z | z
      · exact nd.1.2.2 b hb b z rfl
      · exact (hl b z).2.2.2 i (by rw [ef]; simp [hb])
    · rintro b hb c hc rfl
      rcases List.mem_append.mp hb with hb | hb
      · exact nd.2.2 b (by simp [hb]) b hc rfl
      · rcases hzm b hb with z | z
        · exact nd.2.2 b (List.mem_append_right _ z) b hc rfl
        · exact (hl b z).2.2.2 i (by rw [ef]; simp [hc])
  · rcases List.mem_append.mp hb with hb | hb
    · rcases List.mem_append.mp hb with hb | hb
      · exact .inl (by rw [ef]; simp [hb])
      · rcases hzm b hb with z | z
        · exact .inl (memF b z)
        · exact .inr (hl b z)
    · exact .inl (by rw [ef]; simp [hb])
/-- behind what only grows the way is the same -/
theorem vgets_gr {B H B' H' : Hp} (g : Gr B H B' H') : ∀ {p : List Stp} {a b : V}, vgets H a p = some b → vgets H' a p = some b
  | [], _, _, h => h
  | s :: p, a, b, h => by
    rw [vgets] at h ⊢
    cases x1 : vget H a s with
    | none => rw [x1] at h; cases h
    | some y1 =>
      rw [x1] at h
      have x2 : vget H' a s = some y1 := by
        cases a with
        | ref a =>
          cases s with
          | ix i =>
            simp only [vget] at x1 ⊢
            cases hh : H a with
            | none => rw [hh] at x1; cases x1
            | some o => rw [hh] at x1; rw [g.hh a o hh]; exact x1
          | ky i =>
            simp only [vget] at x1 ⊢
            cases hh : H a with
            | none => rw [hh] at x1; cases x1
            | some o => rw [hh] at x1; rw [g.hh a o hh]; exact x1
          | fd i =>
            simp only [vget] at x1 ⊢
            cases hh : H a with
            | none => rw [hh] at x1; cases x1
            | some o => rw [hh] at x1; rw [g.hh a o hh]; exact x1
        | _ => cases s <;> simp [vget] at x1
      rw [x2]
      exact vgets_gr g h
theorem Owns.snoc {Γ : Ga} {H : Hp} : ∀ {ds : List D} {vs : List V} {fp fx : List Addr} {d : D} {v : V}, Owns Γ H ds vs fp → Own Γ H d v fx → Owns Γ H (ds ++ [d]) (vs ++ [v]) (fp ++ fx)
  | [], _, _, fx, d, v, h, k => by
    obtain ⟨rfl, rfl⟩ := h
    exact ⟨v, [], fx, [], rfl, k, ⟨rfl, rfl⟩, by simp⟩
  | _ :: _, _, _, fx, d, v, ⟨u, r, f1, f2, e, h1, h2, ef⟩, k => by
    subst e ef
    exact ⟨u, r ++ [v], f1, f2 ++ fx, rfl, h1, Owns.snoc h2 k, by simp⟩
theorem Owns.app {Γ : Ga} {H : Hp} : ∀ {ds es : List D} {vs us : List V} {fp fx : List Addr}, Owns Γ H ds vs fp → Owns Γ H es us fx → Owns Γ H (ds ++ es) (vs ++ us) (fp ++ fx)
  | [], _, _, _, _, fx, h, k => by
    obtain ⟨rfl, rfl⟩ := h
    exact k
  | _ :: _, _, _, _, _, fx, ⟨u, r, f1, f2, e, h1, h2, ef⟩, k => by
    subst e ef
    exact ⟨u, r ++ _, f1, f2 ++ fx, rfl, h1, Owns.app h2 k, by simp⟩
end

section
variable {cm : Nat → Addr} {X : Cx} {pos : Pos} {e e2 : Expr} {f : EF} {nf : NF} {i : Nat} {w : WF}
/-! ### P.append(e) -/
def putW (ρ : Ev) (i : Nat) (p : List Stp) (y : D) : Option Ev := (ownD ρ i).map fun d0 => setOwn ρ i (dreps d0 p y)
def sApp (i : Nat) (w : WF) (f : NF) : SF := fun ρ => (w ρ).bind fun p => (wayD ρ i p).bind fun d => (f ρ).bind fun y => match d with
  | .lst ds => if ds.length < 16777216 then (putW ρ i p (.lst (ds ++ [y]))).map .nx else none
  | _ => none
theorem own_lst {Γ : Ga} {H : Hp} {ds : List D} {v : V} {fp : List Addr} (h : Own Γ H (.lst ds) v fp) : ∃ a vs fq, v = .ref a ∧ H a = some (.lst vs) ∧ Owns Γ H ds vs fq ∧ fp = a :: fq := h
theorem pus_app {apos : Pos} {pos2 : Pos} (hP : PuL cm X e i w) (hv : PuN cm X e2 nf) (hs : swapsWith (.Call (.Attribute e "append" apos) [e2] [] pos) none pos2.line X.env = pure false := by rfl)
    (hbase : attributeBase e "append" X.env (eval e X.env) = eval e X.env := by rfl)
    (hfew : ((backTo pos (starEach [e2] X.env)).all (fun x => !x.1) && (backToKw pos (keywordEach [] X.env)).all (fun x => x.1.isSome)
      && decide ([e2].length + ([] : List Keyword).length + (if ([] : List Keyword).isEmpty then 0 else 1) < 30)) = true := by rfl)
    (hline : (apos.endLine == pos.line) = true := by rfl) (hst : starEach [e2] X.env = (false, eval e2 X.env) :: starEach [] X.env := by rfl) (hplain : (backTo pos (starEach [] X.env)).any (·.1) = false := by rfl) :
    PuS cm X (.Expr (.Call (.Attribute e "append" apos) [e2] [] pos) pos2) (sApp i w nf) := by
  obtain ⟨t, p, q⟩ := hP
  obtain ⟨t2, p2, q2⟩ := hv
  refine ⟨_, ps_expr (pe_bm PySem.F.plainAttrs_list PySem.F.slot_list_append PySem.F.type_list_append mt_append p (pa_cons p2 pa_nil hst) hbase hfew hline hst hplain) hs, fun x B F ρ σ H r E ok hf hE => ?_⟩
  unfold sApp at hf
  cases e1 : w ρ with
  | none => rw [e1] at hf; cases hf
  | some pth =>
    rw [e1] at hf
    simp only [Option.bind_some] at hf
    cases ew : wayD ρ i pth with
    | none => rw [ew] at hf; cases hf
    | some d =>
      rw [ew] at hf
      simp only [Option.bind_some] at hf
      cases en : nf ρ with
      | none => rw [en] at hf; cases hf
      | some y =>
        rw [en] at hf
        simp only [Option.bind_some] at hf
        split at hf
        · rename_i ds
          split at hf
          · rename_i hlen
            obtain ⟨d0, ho0, _⟩ := wayD_some ew
            rw [putW, ho0] at hf
            cases hf
            refine q x B F ρ σ H pth _ _ ok e1 ew fun v v0 B1 H1 g1 ok1 hv0 hg1 => ?_
            obtain ⟨_, l, fq, rr, _, _, ho, _⟩ := ok1.part ew hv0 hg1
            obtain ⟨a, vs, fr, rfl, h1, h2, rfl⟩ := own_lst ho
            refine ⟨.inl ⟨rfl, _, SqL.of h1⟩, ?_⟩
            refine q2 x B1 F ρ σ H1 y _ ok1 en fun u B2 H2 fx g2 ok2 ou nu lu => ?_
            have h1' := g2.hh _ _ h1
            have hlv : vs.length = ds.length := h2.length
            refine ⟨a, vs, u, rfl, rfl, h1', by rw [line_eq]; omega, ?_⟩
            obtain ⟨F', ok3⟩ := ok2.writePart (y := .lst (ds ++ [y])) (u := .lst (vs ++ [u])) (fx := fx) ew hv0 (vgets_gr g2 hg1) trivial (fun fq2 hq nq => by
                obtain ⟨a', vs', fr', ea, k1, k2, ef⟩ := own_lst hq
                cases ea
                rw [h1'] at k1
                cases k1
                cases ef
                have hkeep : ∀ b, b ≠ a → (upd H2 a (.lst (vs ++ [u]))) b = H2 b := fun b hb => upd_ne hb
                have tk : TupK H2 (upd H2 a (.lst (vs ++ [u]))) := TupK.upd (by intro xs z; rw [h1'] at z; cases z)
                rw [List.cons_append, List.nodup_cons] at nq
                refine ⟨a :: (fq2 ++ fx), ⟨a, vs ++ [u], fq2 ++ fx, rfl, upd_same, (k2.keep tk fun b hb => hkeep b fun z => nq.1 (by rw [← z]; simp [hb])).snoc (ou.keep tk fun b hb => hkeep b fun z => nq.1 (by rw [← z]; simp [hb])), rfl⟩, List.nodup_cons.mpr nq, fun b hb => ?_⟩
                rcases List.mem_cons.mp hb with rfl | hb
                · exact .inl (by simp)
                · rcases List.mem_append.mp hb with hb | hb
                  · exact .inl (by simp [hb])
                  · exact .inr hb) nu (fun b hb => ok2.loose ok1 (lu b hb).1 (lu b hb).2) ⟨_, h1', trivial⟩ (fun fq hq => by
                obtain ⟨a', vs', fr', ea, _, _, ef⟩ := own_lst hq
                cases ea
                exact ⟨fr', ef⟩) d0 ho0
            exact hE B2 F' σ _ (g1.bb.trans g2.bb) ok3
          · cases hf
        · cases hf
/-! ### P.extend(e) -/
def sExt (i : Nat) (w : WF) (f : EF) : SF := fun ρ => (w ρ).bind fun p => (wayD ρ i p).bind fun d => (f ρ).bind fun y => match d, y.1 with
  | .lst ds, .lst es => if flats es = true ∧ ds.length + es.length ≤ 16777216 then (putW ρ i p (.lst (ds ++ es))).map .nx else none
  | _, _ => none
theorem pus_ext {apos : Pos} {pos2 : Pos} (hP : PuL cm X e i w) (hv : PuE cm X e2 f) (hs : swapsWith (.Call (.Attribute e "extend" apos) [e2] [] pos) none pos2.line X.env = pure false := by rfl)
    (hbase : attributeBase e "extend" X.env (eval e X.env) = eval e X.env := by rfl)
    (hfew : ((backTo pos (starEach [e2] X.env)).all (fun x => !x.1) && (backToKw pos (keywordEach [] X.env)).all (fun x => x.1.isSome)
      && decide ([e2].length + ([] : List Keyword).length + (if ([] : List Keyword).isEmpty then 0 else 1) < 30)) = true := by rfl)
    (hline : (apos.endLine == pos.line) = true := by rfl) (hst : starEach [e2] X.env = (false, eval e2 X.env) :: starEach [] X.env := by rfl) (hplain : (backTo pos (starEach [] X.env)).any (·.1) = false := by rfl) :
    PuS cm X (.Expr (.Call (.Attribute e "extend" apos) [e2] [] pos) pos2) (sExt i w f) := by
  obtain ⟨t, p, q⟩ := hP
  obtain ⟨t2, p2, q2⟩ := hv
  refine ⟨_, ps_expr (pe_bm PySem.F.plainAttrs_list PySem.F.slot_list_extend PySem.F.type_list_extend mt_extend p (pa_cons p2 pa_nil hst) hbase hfew hline hst hplain) hs, fun x B F ρ σ H r E ok hf hE => ?_⟩
  unfold sExt at hf
  cases e1 : w ρ with
  | none => rw [e1] at hf; cases hf
  | some pth =>
    rw [e1] at hf
    simp only [Option.bind_some] at hf
    cases ew : wayD ρ i pth with
    | none => rw [ew] at hf; cases hf
    | some d =>
      rw [ew] at hf
      simp only [Option.bind_some] at hf
      cases en : f ρ with
      | none => rw [en] at hf; cases hf
      | some y =>
        rw [en] at hf
        obtain ⟨y, my⟩ := y
        simp only [Option.bind_some] at hf
        split at hf
        · rename_i ds es
          split at hf
          · rename_i hlen
            obtain ⟨d0, ho0, _⟩ := wayD_some ew
            rw [putW, ho0] at hf
            cases hf
            refine q x B F ρ σ H pth _ _ ok e1 ew fun v v0 B1 H1 g1 ok1 hv0 hg1 => ?_
            obtain ⟨_, l, fq, rr, _, _, ho, _⟩ := ok1.part ew hv0 hg1
            obtain ⟨a, vs, fr, rfl, h1, h2, rfl⟩ := own_lst ho
            refine ⟨.inl ⟨rfl, _, SqL.of h1⟩, ?_⟩
            refine q2 x B1 F ρ σ H1 _ _ _ ok1 en fun u B2 H2 g2 ok2 hu => ?_
            obtain ⟨b, us, rfl, k1, k2⟩ := hu.is ok2
            have h1' := g2.hh _ _ h1
            have hlv : vs.length = ds.length := h2.length
            refine ⟨a, b, vs, us, rfl, rfl, h1', k1, by rw [line_eq, k2.length]; omega, ?_⟩
            obtain ⟨F', ok3⟩ := ok2.writePart (y := .lst (ds ++ es)) (u := .lst (vs ++ us)) (fx := []) ew hv0 (vgets_gr g2 hg1) trivial (fun fq2 hq nq => by
                obtain ⟨a', vs', fr', ea, k1', k2', ef⟩ := own_lst hq
                cases ea
                rw [h1'] at k1'
                cases k1'
                cases ef
                have hkeep : ∀ b, b ≠ a → (upd H2 a (.lst (vs ++ us))) b = H2 b := fun b hb => upd_ne hb
                have tk : TupK H2 (upd H2 a (.lst (vs ++ us))) := TupK.upd (by intro xs z; rw [h1'] at z; cases z)
                rw [List.append_nil] at nq
                have nq' := List.nodup_cons.mp nq
                have oe : Owns (gx X cm) (upd H2 a (.lst (vs ++ us))) es us [] := (Owns.ofFlat hlen.1 k2).keep tk (fun _ h => nomatch h)
                refine ⟨a :: fq2, ⟨a, vs ++ us, fq2 ++ [], rfl, upd_same, (k2'.keep tk fun b hb => hkeep b fun z => nq'.1 (by rw [← z]; exact hb)).app oe, by simp⟩, nq, fun b hb => .inl hb⟩) List.nodup_nil (fun _ h => nomatch h) ⟨_, h1', trivial⟩ (fun fq hq => by
                obtain ⟨a', vs', fr', ea, _, _, ef⟩ := own_lst hq
                cases ea
                exact ⟨fr', ef⟩) d0 ho0
            exact hE B2 F' σ _ (g1.bb.trans g2.bb) ok3
          · cases hf
        · cases hf

/-! ### P[k] = e -/
def putG {β : Type} (kvs : List (Key × β)) (k : Key) (x : β) : List (Key × β) :=
  if (kvs.any fun kv => decide (kv.1 = k)) = true then kvs.map (fun kv => if kv.1 = k then (kv.1, x) else kv) else kvs ++ [(k, x)]
def cntK {β : Type} (kvs : List (Key × β)) (k : Key) : Nat := (kvs.filter fun kv => decide (kv.1 = k)).length
theorem OwnK.keys {Γ : Ga} {H : Hp} : ∀ {ds : List (Key × D)} {vs : List (Key × V)} {fp : List Addr}, OwnK Γ H ds vs fp → vs.map (·.1) = ds.map (·.1)
  | [], _, _, h => by rw [h.1]; rfl
  | (k, d) :: r, _, _, ⟨v, s, f1, f2, e, _, h2, _⟩ => by subst e; rw [List.map_cons, List.map_cons, OwnK.keys h2]
theorem any_keys {β γ : Type} {a : List (Key × β)} {b : List (Key × γ)} (h : a.map (·.1) = b.map (·.1)) (k : Key) : (a.any fun kv => decide (kv.1 = k)) = (b.any fun kv => decide (kv.1 = k)) := by
  have e1 : (a.any fun kv => decide (kv.1 = k)) = (a.map (·.1)).any fun j => decide (j = k) := by rw [List.any_map]; rfl
  have e2 : (b.any fun kv => decide (kv.1 = k)) = (b.map (·.1)).any fun j => decide (j = k) := by rw [List.any_map]; rfl
  rw [e1, e2, h]
theorem OwnK.snoc {Γ : Ga} {H : Hp} : ∀ {ds : List (Key × D)} {vs : List (Key × V)} {fp fx : List Addr} {k : Key} {d : D} {v : V}, OwnK Γ H ds vs fp → Own Γ H d v fx → OwnK Γ H (ds ++ [(k, d)]) (vs ++ [(k, v)]) (fp ++ fx)
  | [], _, _, fx, k, d, v, h, o => by
    obtain ⟨rfl, rfl⟩ := h
    exact ⟨v, [], fx, [], rfl, o, ⟨rfl, rfl⟩, by simp⟩
  | (k0, d0) :: _, _, _, fx, k, d, v, ⟨u, r, f1, f2, e, h1, h2, ef⟩, o => by
    subst e ef
    exact ⟨u, r ++ [(k, v)], f1, f2 ++ fx, rfl, h1, OwnK.snoc h2 o, by simp⟩
theorem cnt_none {β : Type} {k : Key} : ∀ {kvs : List (Key × β)}, cntK kvs k = 0 → ∀ x : β, kvs.map (fun kv => if kv.1 = k then (kv.1, x) else kv) = kvs
  | [], _, _ => rfl
  | (k0, d) :: r, h, x => by
    by_cases q : k0 = k
    · simp [cntK, q] at h
    · have h2 : cntK r k = 0 := by simpa [cntK, q] using h
      rw [List.map_cons, if_neg (show ¬ (k0, d).1 = k from q), cnt_none h2]
theorem OwnK.repl {Γ : Ga} {H : Hp} {k : Key} {x : D} {v : V} {fx : List Addr} (hx : Own Γ H x v fx) : ∀ {ds : List (Key × D)} {vs : List (Key × V)} {fp : List Addr}, OwnK Γ H ds vs fp → (fx = [] ∨ cntK ds k ≤ 1) → (fp ++ fx).Nodup →
    ∃ fz, OwnK Γ H (ds.map fun kv => if kv.1 = k then (kv.1, x) else kv) (vs.map fun kv => if kv.1 = k then (kv.1, v) else kv) fz ∧ fz.Nodup ∧ ∀ b ∈ fz, b ∈ fp ∨ b ∈ fx
  | [], _, _, h, _, _ => by
    obtain ⟨rfl, rfl⟩ := h
    exact ⟨[], ⟨rfl, rfl⟩, List.nodup_nil, fun _ h => nomatch h⟩
  | (k0, d) :: r, _, _, ⟨u, s, f1, f2, e, h1, h2, ef⟩, hc, hn => by
    subst e ef
    have hn2 : (f2 ++ fx).Nodup := by
      rw [List.append_assoc] at hn
      exact (List.nodup_append.mp hn).2.1
    by_cases q : k0 = k
    · rw [List.map_cons, List.map_cons, if_pos (show (k0, d).1 = k from q), if_pos (show (k0, u).1 = k from q)]
      rcases hc with rfl | hc
      · obtain ⟨fz, o, n, m⟩ := OwnK.repl hx h2 (.inl rfl) hn2
        exact ⟨[] ++ fz, ⟨v, _, [], fz, rfl, hx, o, rfl⟩, by simpa using n, fun b hb => (m b (by simpa using hb)).imp (fun z => by simp [z]) id⟩
      · have c0 : cntK r k = 0 := by simpa [cntK, q] using hc
        have cs : cntK s k = 0 := by
          have ek := h2.keys
          have e1 : cntK s k = ((s.map (·.1)).filter fun j => decide (j = k)).length := by unfold cntK; rw [List.filter_map, List.length_map]; rfl
          have e2 : cntK r k = ((r.map (·.1)).filter fun j => decide (j = k)).length := by unfold cntK; rw [List.filter_map, List.length_map]; rfl
          rw [e1, ek, ← e2, c0]
        rw [cnt_none c0, cnt_none cs]
        refine ⟨fx ++ f2, ⟨v, s, fx, f2, rfl, hx, h2, rfl⟩, ?_, fun b hb => ?_⟩
        · rw [List.nodup_append] at hn2 ⊢
          exact ⟨hn2.2.1, hn2.1, fun a ha b hb e => hn2.2.2 b hb a ha e.symm⟩
        · rcases List.mem_append.mp hb with hb | hb
          · exact .inr hb
          · exact .inl (by simp [hb])
    · rw [List.map_cons, List.map_cons, if_neg (show ¬ (k0, d).1 = k from q), if_neg (show ¬ (k0, u).1 = k from q)]
      have hc2 : fx = [] ∨ cntK r k ≤ 1 := hc.imp id fun z => by simpa [cntK, q] using z
      obtain ⟨fz, o, n, m⟩ := OwnK.repl hx h2 hc2 hn2
      refine ⟨f1 ++ fz, ⟨u, _, f1, fz, rfl, h1, o, rfl⟩, ?_, fun b hb => ?_⟩
      · rw [List.append_assoc, List.nodup_append] at hn
        refine List.nodup_append.mpr ⟨hn.1, n, fun a ha b hb e => ?_⟩
        rcases m b hb with z | z
        · exact hn.2.2 a ha b (by simp [z]) e
        · exact hn.2.2 a ha b (by simp [z]) e
      · rcases List.mem_append.mp hb with hb | hb
        · exact .inl (by simp [hb])
        · exact (m b hb).imp (fun z => by simp [z]) id
theorem OwnK.put {Γ : Ga} {H : Hp} {k : Key} {x : D} {v : V} {fx : List Addr} (hx : Own Γ H x v fx) {ds : List (Key × D)} {vs : List (Key × V)} {fp : List Addr} (h : OwnK Γ H ds vs fp) (hc : fx = [] ∨ cntK ds k ≤ 1) (hn : (fp ++ fx).Nodup) :
    ∃ fz, OwnK Γ H (putG ds k x) (putK vs k v) fz ∧ fz.Nodup ∧ ∀ b ∈ fz, b ∈ fp ∨ b ∈ fx := by
  unfold putG putK
  rw [any_keys h.keys k]
  split
  · exact OwnK.repl hx h hc hn
  · exact ⟨fp ++ fx, h.snoc hx, hn, fun b hb => List.mem_append.mp hb⟩
theorem Owns.put {Γ : Ga} {H : Hp} {x : D} {v : V} {fx : List Addr} (hx : Own Γ H x v fx) : ∀ {ds : List D} {vs : List V} {fp : List Addr} (j : Nat), Owns Γ H ds vs fp → (fp ++ fx).Nodup →
    ∃ fz, Owns Γ H (ds.set j x) (vs.set j v) fz ∧ fz.Nodup ∧ ∀ b ∈ fz, b ∈ fp ∨ b ∈ fx
  | [], _, _, _, h, _ => by
    obtain ⟨rfl, rfl⟩ := h
    exact ⟨[], ⟨rfl, rfl⟩, List.nodup_nil, fun _ h => nomatch h⟩
  | d :: r, _, _, 0, ⟨u, s, f1, f2, e, h1, h2, ef⟩, hn => by
    subst e ef
    have hn2 : (f2 ++ fx).Nodup := by
      rw [List.append_assoc] at hn
      exact (List.nodup_append.mp hn).2.1
    refine ⟨fx ++ f2, ⟨v, s, fx, f2, rfl, hx, h2, rfl⟩, ?_, fun b hb => ?_⟩
    · rw [List.nodup_append] at hn2 ⊢
      exact ⟨hn2.2.1, hn2.1, fun a ha b hb e => hn2.2.2 b hb a ha e.symm⟩
    · rcases List.mem_append.mp hb with hb | hb
      · exact .inr hb
      · exact .inl (by simp [hb])
  | d :: r, _, _, j + 1, ⟨u, s, f1, f2, e, h1, h2, ef⟩, hn => by
    subst e ef
    have hn2 : (f2 ++ fx).Nodup := by
      rw [List.append_assoc] at hn
      exact (List.nodup_append.mp hn).2.1
    obtain ⟨fz, o, n, m⟩ := Owns.put hx j h2 hn2
    refine ⟨f1 ++ fz, ⟨u, _, f1, fz, rfl, h1, o, rfl⟩, ?_, fun b hb => ?_⟩
    · rw [List.append_assoc, List.nodup_append] at hn
      refine List.nodup_append.mpr ⟨hn.1, n, fun a ha b hb e => ?_⟩
      rcases m b hb with z | z
      · exact hn.2.2 a ha b (by simp [z]) e
      · exact hn.2.2 a ha b (by simp [z]) e
    · rcases List.mem_append.mp hb with hb | hb
      · exact .inl (by simp [hb])
      · exact (m b hb).imp (fun z => by simp [z]) id
/-- the container with the item exchanged (or put in) -/
def itemD (d k y : D) : Option D := match d with
  | .dic kvs => (keyOf k).bind fun k => if kvs.length < 16777216 ∧ (flat y = true ∨ cntK kvs k ≤ 1) then some (.dic (putG kvs k y)) else none
  | .lst ds => (intD k).bind fun j => (ixN ds.length j).map fun n => .lst (ds.set n y)
  | _ => none
def rSetA : V → V → V → Hp → (Hp → Prop) → Prop := fun o i v H Q => rSetL o i v H Q ∨ ∃ a H', o = .ref a ∧ DPut H a i v H' ∧ Q H'
theorem set_any (hu : X.A.units + 1 < cLine) : PSet X rSetA := by
  intro pins s σ H o i v ov iv u Q I ro ri rv h
  rcases h with h | ⟨a, H', rfl, g, q⟩
  · exact set_list pins s σ H o i v ov iv u Q I ro ri rv h
  · cases ro
    exact d_setItem hu I g ri rv fun s' I' => ⟨H', I', q⟩
theorem own_flat_nil {Γ : Ga} {H : Hp} {d : D} {v : V} {fp : List Addr} (f : flat d = true) (h : Own Γ H d v fp) : fp = [] := by
  cases d with
  | non => exact h.2
  | bl => exact h.2
  | int => exact h.2
  | str => exact h.2
  | tup => exact h.2
  | scr => cases h
  | wtp => cases h
  | dn => simp [flat] at f
  | adr => simp [flat] at f
  | lst => simp [flat] at f
  | dic => simp [flat] at f
  | ins => simp [flat] at f
/-- the store itself: the state behind -/
theorem item_write {x : Fx} {B B1 : Hp} {F : Nat → List Addr} {ρ : Ev} {σ : St} {H H1 : Hp} {pth : List Stp} {d k y z d0 : D} {v v0 u ku : V} {fx : List Addr} {Q : Hp → Prop} (ok1 : Ok (gx X cm) x B1 F ρ σ H1) (ok : Ok (gx X cm) x B F ρ σ H) (g : Gr B1 H1 B H) (ew : wayD ρ i pth = some d) (ho0 : ownD ρ i = some d0)
    (hv0 : σ[i]? = some (some v0)) (hg : vgets H v0 pth = some v) (ek : Is (gx X cm) H k ku) (ou : Own (gx X cm) H y u fx) (nu : fx.Nodup) (lu : ∀ a ∈ fx, H1 a = none ∧ B a = none) (hz : itemD d k y = some z)
    (hQ : ∀ H' F', Ok (gx X cm) x B F' (setOwn ρ i (dreps d0 pth z)) σ H' → Q H') : rSetA v ku u H Q := by
  obtain ⟨_, l, fq, rr, _, _, ho, _⟩ := ok.part ew hv0 hg
  unfold itemD at hz
  split at hz
  · rename_i kvs
    obtain ⟨a, vs, fr, rfl, h1, h2, rfl⟩ := ho
    cases e1 : keyOf k with
    | none => rw [e1] at hz; cases hz
    | some kk =>
      rw [e1] at hz
      simp only [Option.bind_some] at hz
      split at hz
      · rename_i hc
        cases hz
        cases keyOf_is e1 ek
        have hlen : vs.length = kvs.length := by have := congrArg List.length h2.keys; simpa using this
        refine .inr ⟨a, _, rfl, DPut.k h1 (by rw [line_eq, hlen]; exact hc.1), ?_⟩
        obtain ⟨F', ok3⟩ := ok.writePart (y := .dic (putG kvs kk y)) (u := .dK (putK vs kk u)) (fx := fx) ew hv0 hg trivial (fun fq2 hq nq => by
            obtain ⟨a', vs', fr', ea, k1', k2', ef⟩ := hq
            cases ea
            rw [h1] at k1'
            cases k1'
            cases ef
            have hkeep : ∀ b, b ≠ a → (upd H a (.dK (putK vs kk u))) b = H b := fun b hb => upd_ne hb
            have tk : TupK H (upd H a (.dK (putK vs kk u))) := TupK.upd (by intro xs z; rw [h1] at z; cases z)
            rw [List.cons_append, List.nodup_cons] at nq
            obtain ⟨fz, o, n, m⟩ := OwnK.put (k := kk) (ou.keep tk fun b hb => hkeep b fun z => nq.1 (by rw [← z]; simp [hb])) (k2'.keep tk fun b hb => hkeep b fun z => nq.1 (by rw [← z]; simp [hb])) (hc.2.imp (fun f => own_flat_nil f ou) id) nq.2
            refine ⟨a :: fz, ⟨a, _, fz, rfl, upd_same, o, rfl⟩, List.nodup_cons.mpr ⟨fun hb => nq.1 (List.mem_append.mpr (m a hb)), n⟩, fun b hb => ?_⟩
            rcases List.mem_cons.mp hb with rfl | hb
            · exact .inl (by simp)
            · exact (m b hb).imp (fun z => by simp [z]) id) nu (fun b hb => ok.loose ok1 (lu b hb).1 (lu b hb).2) ⟨_, h1, trivial⟩ (fun fq hq => by
            obtain ⟨a', vs', fr', ea, _, _, ef⟩ := hq
            cases ea
            exact ⟨fr', ef⟩) d0 ho0
        exact hQ _ F' ok3
      · cases hz
  · rename_i ds
    obtain ⟨a, vs, fr, rfl, h1, h2, rfl⟩ := own_lst ho
    cases e1 : intD k with
    | none => rw [e1] at hz; cases hz
    | some j =>
      rw [e1] at hz
      simp only [Option.bind_some] at hz
      cases e2 : ixN ds.length j with
      | none => rw [e2] at hz; cases hz
      | some n =>
        rw [e2] at hz
        cases hz
        have eku : ku = .int j := by
          cases hk : k <;> rw [hk] at e1 ek <;> simp [intD] at e1
          subst e1
          exact ek
        subst eku
        refine .inl ⟨a, vs, j, n, rfl, rfl, h1, by rw [h2.length]; exact e2, ?_⟩
        obtain ⟨F', ok3⟩ := ok.writePart (y := .lst (ds.set n y)) (u := .lst (vs.set n u)) (fx := fx) ew hv0 hg trivial (fun fq2 hq nq => by
            obtain ⟨a', vs', fr', ea, k1', k2', ef⟩ := own_lst hq
            cases ea
            rw [h1] at k1'
            cases k1'
            cases ef
            have hkeep : ∀ b, b ≠ a → (upd H a (.lst (vs.set n u))) b = H b := fun b hb => upd_ne hb
            have tk : TupK H (upd H a (.lst (vs.set n u))) := TupK.upd (by intro xs z; rw [h1] at z; cases z)
            rw [List.cons_append, List.nodup_cons] at nq
            obtain ⟨fz, o, nn, m⟩ := Owns.put (ou.keep tk fun b hb => hkeep b fun z => nq.1 (by rw [← z]; simp [hb])) n (k2'.keep tk fun b hb => hkeep b fun z => nq.1 (by rw [← z]; simp [hb])) nq.2
            refine ⟨a :: fz, ⟨a, _, fz, rfl, upd_same, o, rfl⟩, List.nodup_cons.mpr ⟨fun hb => nq.1 (List.mem_append.mpr (m a hb)), nn⟩, fun b hb => ?_⟩
            rcases List.mem_cons.mp hb with rfl | hb
            · exact .inl (by simp)
            · exact (m b hb).imp (fun z => by simp [z]) id) nu (fun b hb => ok.loose ok1 (lu b hb).1 (lu b hb).2) ⟨_, h1, trivial⟩ (fun fq hq => by
            obtain ⟨a', vs', fr', ea, _, _, ef⟩ := own_lst hq
            cases ea
            exact ⟨fr', ef⟩) d0 ho0
        exact hQ _ F' ok3
  · cases hz
def sSub (i : Nat) (w : WF) (fk : EF) (f : NF) : SF := fun ρ => (f ρ).bind fun y => (w ρ).bind fun p => (wayD ρ i p).bind fun d => (fk ρ).bind fun k => (itemD d k.1 y).bind fun z => (putW ρ i p z).map .nx
theorem gr_loose {B H B' H' : Hp} {Γ : Ga} {d : D} {v : V} {fp : List Addr} {H0 : Hp} (bh : Same B' H') (g : Gr B H B' H') (o : Own Γ H d v fp) (l : ∀ a ∈ fp, H0 a = none ∧ B a = none) : ∀ a ∈ fp, H0 a = none ∧ B' a = none := fun a ha => by
  obtain ⟨u, hu, bx⟩ := o.box a ha
  exact ⟨(l a ha).1, box_gr bh g (l a ha).2 hu bx⟩
theorem pus_sub {k : Expr} {fk : EF} {pos' : Pos} (hu : X.A.units + 1 < cLine) (hv : PuN cm X e2 nf) (hP : PuL cm X e i w) (hk : PuE cm X k fk) (hs : swapsWithSole [.Subscript e k pos'] e2 pos.line X.env = pure false := by rfl) (hw : swappedStores [.Subscript e k pos'] e2 X.env = pure none := by rfl)
    (h1 : (assignEach [.Subscript e k pos'] X.env).map (·.2) = [assign (.Subscript e k pos') X.env] := by rfl)
    (ha : ∀ v, assign (.Subscript e k pos') X.env v = (do
      let ov ← holding [v] (eval e X.env)
      let iv ← holding [v, ov] (eval k X.env)
      standAt pos'
      holding [v, ov, iv] (setItem ov iv v)
      release [v, ov, iv] []) := by intro _; rfl) : PuS cm X (.Assign [.Subscript e k pos'] e2 pos) (sSub i w fk nf) := by
  obtain ⟨t, p, q⟩ := hP
  obtain ⟨t2, p2, q2⟩ := hv
  obtain ⟨t3, p3, q3⟩ := hk
  refine ⟨_, ps_asg p2 (pg_sub p p3 (set_any hu) ha) hs hw h1, fun x B F ρ σ H r E ok hf hE => ?_⟩
  unfold sSub at hf
  cases en : nf ρ with
  | none => rw [en] at hf; cases hf
  | some y =>
    rw [en] at hf
    simp only [Option.bind_some] at hf
    cases e1 : w ρ with
    | none => rw [e1] at hf; cases hf
    | some pth =>
      rw [e1] at hf
      simp only [Option.bind_some] at hf
      cases ew : wayD ρ i pth with
      | none => rw [ew] at hf; cases hf
      | some d =>
        rw [ew] at hf
        simp only [Option.bind_some] at hf
        cases ek : fk ρ with
        | none => rw [ek] at hf; cases hf
        | some kk =>
          rw [ek] at hf
          simp only [Option.bind_some] at hf
          cases ez : itemD d kk.1 y with
          | none => rw [ez] at hf; cases hf
          | some z =>
            rw [ez] at hf
            simp only [Option.bind_some] at hf
            obtain ⟨d0, ho0, _⟩ := wayD_some ew
            rw [putW, ho0] at hf
            cases hf
            refine q2 x B F ρ σ H y _ ok en fun u B1 H1 fx g1 ok1 ou nu lu => ?_
            refine q x B1 F ρ σ H1 pth _ _ ok1 e1 ew fun v v0 B2 H2 g2 ok2 hv0 hg2 => ?_
            refine q3 x B2 F ρ σ H2 _ _ _ ok2 ek fun ku B3 H3 g3 ok3 hku => ?_
            have g23 := g2.trans g3
            exact item_write (Q := fun H3 => E.nx σ H3) ok ok3 (g1.trans g23) ew ho0 hv0 (vgets_gr g3 hg2) (hku.is ok3) (own_gr g23 ou) nu (gr_loose ok3.bh g23 ou lu) ez fun H' F' ok' => hE B3 F' σ H' (g1.bb.trans g23.bb) ok'

/-! ### return of one's own -/
def sRetOn (i : Nat) : SF := fun ρ => match ρ[i]? with
  | some (.on d) => some (.rt d (ρ.set i (.fn d)))
  | _ => none
theorem pus_retOn (i : Nat) {x : Str} {p1 : Pos} (hN : X.N[i]? = some x := by rfl) (hv : Vis X.env.scope x := by first | exact Or.inl rfl | exact Or.inr (Or.inl rfl) | exact Or.inr (Or.inr rfl))
    (hd : (x == ("__debug__" : Str)) = false := by decide) (hcd : (x == ("__classdict__" : Str)) = false := by decide) : PuS cm X (.Return (some (.Name x p1)) pos) (sRetOn i) := by
  refine ⟨_, ps_ret (pe_var hN hv hd hcd), fun z B F ρ σ H r E ok hf hE => ?_⟩
  unfold sRetOn at hf
  split at hf
  · rename_i d ed
    cases hf
    obtain ⟨B', s, ok'⟩ := ok.freeze ed
    have hlt := (List.getElem?_eq_some_iff.mp ed).1
    obtain ⟨_, v, e1, e2⟩ := ok'.at_ i (.fn d) (List.getElem?_set_self hlt)
    exact ⟨v, e1, hE v B' _ σ H s ok' e2⟩
  · cases hf
end
end DL

/-! DL12: what a law's text is held against: built-ins, room, defs at their names, the end. -/
namespace DL
open PySem L2

/-- the built-ins are still the built-ins -/
structure Bm (mg : Str → Option Value) : Prop where
  len : mg "len" = none
  abs : mg "abs" = none
  max : mg "max" = none
  int : mg "int" = none
  list : mg "list" = none
  range : mg "range" = none
  enumerate : mg "enumerate" = none
  zip : mg "zip" = none
  isinstance : mg "isinstance" = none
  bool : mg "bool" = none
  str : mg "str" = none
  tuple : mg "tuple" = none
  sorted : mg "sorted" = none
theorem hu65 {A : Around} {k : Nat} (hr : Room k A) : A.units + 65 < cLine := by have := hr.un; omega
theorem hu64 {A : Around} {k : Nat} (hr : Room k A) : A.units + 64 < cLine := by have := hr.un; omega
theorem hu1 {A : Around} {k : Nat} (hr : Room k A) : A.units + 1 < cLine := by have := hr.un; omega

/-- a def of the module at its name -/
def DefAt (K : PySem.W.Frag) (mg : Str → Option Value) (x : Str) (st : Stmt) (ps : List Str) : Prop :=
  ∃ (f : Addr) (fd : FuncData), Fun K x x st f fd ∧ mg x = some (.ref f) ∧ PySem.W.keepIn K (.ref f) = true ∧ Binds K fd ps []
theorem defAt_mk {K : PySem.W.Frag} {mg : Str → Option Value} {x : Str} {st : Stmt} {ps : List Str} {f : Addr} {oc : Value} {od an : Option Addr} {osl : Array (Option Value)} {kV doc pm cdv ct : Value} (hm : mg x = some (.ref f))
    (l : K.lookup f = some ⟨oc, od, .func (PySem.W.fnOf x x (defArgs st) (defBody st) (defScope st) .none kV doc pm an cdv ct), osl⟩) (c : PySem.W.codeIn K cdv x = true) (k : PySem.W.keepIn K (.ref f) = true)
    (h : ∀ (kV doc pm : Value) (an : Option Addr) (cdv ct : Value) (us : List Value), us.length = ps.length → bindArgs (PySem.W.fnOf x x (defArgs st) (defBody st) (defScope st) .none kV doc pm an cdv ct) ⟨us, []⟩ = pure (ps.zip us)) : DefAt K mg x st ps := by
  have F := fun_mk (st := st) l c k
  exact ⟨f, _, F, hm, k, F.binds h⟩
theorem DefAt.cal {P : Program} {w : World} {K : PySem.W.Frag} {mg : Str → Option Value} {base : Heap} {cm : Nat → Addr} {x : Str} {st : Stmt} {ps : List Str} {k : Nat} {fn : List D → Option D} (D : DefAt K mg x st ps)
    (h : ∀ {f : Addr} {fd : FuncData}, Fun K x x st f fd → FnOk P w K mg base CX0 k f fd ps (spP K cm w fn)) : CalP P w K mg base cm k x fn := by
  obtain ⟨f, fd, F, hm, kp, hb⟩ := D
  exact ⟨f, fd, ps, h F, hm, kp, hb⟩
/-- what the top has written, for the built-ins' names -/
structure FactB (K : PySem.W.Frag) : Prop where
  len : PySem.W.nsIn K mainGlobals "len" = some none
  abs : PySem.W.nsIn K mainGlobals "abs" = some none
  max : PySem.W.nsIn K mainGlobals "max" = some none
  int : PySem.W.nsIn K mainGlobals "int" = some none
  list : PySem.W.nsIn K mainGlobals "list" = some none
  range : PySem.W.nsIn K mainGlobals "range" = some none
  enumerate : PySem.W.nsIn K mainGlobals "enumerate" = some none
  zip : PySem.W.nsIn K mainGlobals "zip" = some none
  isinstance : PySem.W.nsIn K mainGlobals "isinstance" = some none
  bool : PySem.W.nsIn K mainGlobals "bool" = some none
  str : PySem.W.nsIn K mainGlobals "str" = some none
  tuple : PySem.W.nsIn K mainGlobals "tuple" = some none
  sorted : PySem.W.nsIn K mainGlobals "sorted" = some none
theorem FactB.bm {K : PySem.W.Frag} {h : Heap} {mg : Str → Option Value} (z : FactB K) (X : K.In h) (G : h.Ns mainGlobals mg) : Bm mg :=
  ⟨PySem.W.mg_none_of X G z.len, PySem.W.mg_none_of X G z.abs, PySem.W.mg_none_of X G z.max, PySem.W.mg_none_of X G z.int, PySem.W.mg_none_of X G z.list, PySem.W.mg_none_of X G z.range, PySem.W.mg_none_of X G z.enumerate, PySem.W.mg_none_of X G z.zip, PySem.W.mg_none_of X G z.isinstance, PySem.W.mg_none_of X G z.bool, PySem.W.mg_none_of X G z.str, PySem.W.mg_none_of X G z.tuple, PySem.W.mg_none_of X G z.sorted⟩
/-- a def that the top has written -/
def FactD (K : PySem.W.Frag) (x : Str) (st : Stmt) : Prop :=
  ∃ (f : Addr) (oc : Value) (od an : Option Addr) (osl : Array (Option Value)) (kV doc pm cdv ct : Value), PySem.W.nsIn K mainGlobals x = some (some (.ref f)) ∧
    K.lookup f = some ⟨oc, od, .func (PySem.W.fnOf x x (defArgs st) (defBody st) (defScope st) .none kV doc pm an cdv ct), osl⟩ ∧ PySem.W.codeIn K cdv x = true ∧ PySem.W.keepIn K (.ref f) = true
theorem factD_mk {K : PySem.W.Frag} {x : Str} {st : Stmt} {f : Addr} {oc : Value} {od an : Option Addr} {osl : Array (Option Value)} {kV doc pm cdv ct : Value} (a : PySem.W.nsIn K mainGlobals x = some (some (.ref f)))
    (l : K.lookup f = some ⟨oc, od, .func (PySem.W.fnOf x x (defArgs st) (defBody st) (defScope st) .none kV doc pm an cdv ct), osl⟩) (c : PySem.W.codeIn K cdv x = true) (k : PySem.W.keepIn K (.ref f) = true) : FactD K x st :=
  ⟨f, oc, od, an, osl, kV, doc, pm, cdv, ct, a, l, c, k⟩
theorem FactD.at_ {K : PySem.W.Frag} {x : Str} {st : Stmt} {ps : List Str} {h : Heap} {mg : Str → Option Value} (z : FactD K x st) (X : K.In h) (G : h.Ns mainGlobals mg)
    (hb : ∀ (kV doc pm : Value) (an : Option Addr) (cdv ct : Value) (us : List Value), us.length = ps.length → bindArgs (PySem.W.fnOf x x (defArgs st) (defBody st) (defScope st) .none kV doc pm an cdv ct) ⟨us, []⟩ = pure (ps.zip us)) : DefAt K mg x st ps := by
  obtain ⟨f, oc, od, an, osl, kV, doc, pm, cdv, ct, a, l, c, k⟩ := z
  exact defAt_mk (PySem.W.mg_of X G a) l c k hb
/-- whatever numbers the classes have -/
def spAny (K : PySem.W.Frag) (w : World) (f : List D → Option D) : Sp := fun vs H Q E => ∀ cm, spP K cm w f vs H Q E
/-- the law's promise, from its function -/
theorem law_sp {K : PySem.W.Frag} {cm : Nat → Addr} {w : World} {f : List D → Option D} {H : Hp} {a : Addr} {ns : List Int} (h : f [.scr ns] = some (.bl true)) (hS : SqL K H a (ns.map V.int)) : spP K cm w f [.ref a] H (fun v _ => v = .bl true) fun _ _ _ => False :=
  ⟨[.scr ns], .bl true, ⟨_, [], rfl, ⟨a, rfl, hS⟩, rfl⟩, h, fun v H' bn => bn.is⟩
end DL

/-! DL13: how the functions of data are reckoned, step by step. -/
namespace DL
open PySem L2

def Ve (f : EF) (ρ : Ev) (d : D) (m : Md) : Prop := f ρ = some (d, m)
def Te (c : Ev → Option Bool) (ρ : Ev) (b : Bool) : Prop := c ρ = some b
def Ae (f : AF) (ρ : Ev) (as : List (D × Md)) : Prop := f ρ = some as
def Oe (f : OF) (ρ : Ev) (o : Option Int) : Prop := f ρ = some o
def Ne (f : NF) (ρ : Ev) (d : D) : Prop := f ρ = some d
def Se (g : SF) (ρ : Ev) (r : Fl) : Prop := g ρ = some r
def Xe (f : IF) (ρ : Ev) (ds : List D) (m : Md) : Prop := f ρ = some (ds, m)

theorem ve_fz {i : Nat} {ρ : Ev} {d : D} (h : ρ[i]? = some (.fz d)) : Ve (eV i) ρ d .par := by unfold Ve eV; rw [h]
theorem ve_fa {i : Nat} {ρ : Ev} {d : D} (h : ρ[i]? = some (.fa d)) : Ve (eV i) ρ d .par := by unfold Ve eV; rw [h]
theorem ve_fn {i : Nat} {ρ : Ev} {d : D} (h : ρ[i]? = some (.fn d)) : Ve (eV i) ρ d .new := by unfold Ve eV; rw [h]
theorem ve_ow {i : Nat} {ρ : Ev} {d : D} (h : ρ[i]? = some (.ow d)) : Ve (eV i) ρ d .own := by unfold Ve eV; rw [h]
theorem ve_on {i : Nat} {ρ : Ev} {d : D} (h : ρ[i]? = some (.on d)) : Ve (eV i) ρ d .own := by unfold Ve eV; rw [h]
theorem ve_c {d : D} {ρ : Ev} : Ve (eC d) ρ d .new := rfl
theorem ve_e2 {o : D → D → Option D} {f g : EF} {ρ : Ev} {a b c : D} {m n : Md} (h1 : Ve f ρ a m) (h2 : Ve g ρ b n) (h : o a b = some c) : Ve (e2 o f g) ρ c .new := by
  unfold Ve at *; unfold e2; rw [h1, h2]; simp [h]
theorem ve_e1 {o : D → Option D} {f : EF} {ρ : Ev} {a c : D} {m : Md} (h1 : Ve f ρ a m) (h : o a = some c) : Ve (e1 o f) ρ c .new := by
  unfold Ve at *; unfold e1; rw [h1]; simp [h]
theorem ve_ix {o : D → D → Option D} {f g : EF} {ρ : Ev} {a b c : D} {m n : Md} (h1 : Ve f ρ a m) (h2 : Ve g ρ b n) (h : o a b = some c) : Ve (eIx o f g) ρ c (effm m c) := by
  unfold Ve at *; unfold eIx; rw [h1, h2]; simp [h]
theorem ve_fld {n : Nat} {f : Str} {g : EF} {ρ : Ev} {c : D} {fs : List (Str × D)} {m : Md} (h1 : Ve g ρ (.ins n fs) m) (h : getF fs f = some c) : Ve (eFld n f g) ρ c (effm m c) := by
  unfold Ve at *; unfold eFld; rw [h1]; simp [fldD, h]
theorem ve_call {f : List D → Option D} {g : AF} {ρ : Ev} {as : List (D × Md)} {d : D} (h1 : Ae g ρ as) (h : f (as.map (·.1)) = some d) : Ve (eCall f g) ρ d .new := by
  unfold Ve Ae at *; unfold eCall; rw [h1]; simp [h]
theorem ve_disp {mk : List D → D} {g : AF} {ρ : Ev} {as : List (D × Md)} (h1 : Ae g ρ as) (h2 : okNew as = true) (h3 : as.length ≤ 16777216) : Ve (eDisp mk g) ρ (mk (as.map (·.1))) .new := by
  unfold Ve Ae at *; unfold eDisp; rw [h1]; simp [h2, h3]
theorem ve_sl {f : EF} {l h : OF} {ρ : Ev} {a c : D} {m : Md} {lo hi : Option Int} (h1 : Ve f ρ a m) (h2 : Oe l ρ lo) (h3 : Oe h ρ hi) (h4 : slD a lo hi = some c) : Ve (eSl f l h) ρ c .new := by
  unfold Ve Oe at *; unfold eSl; rw [h1]; simp [h2, h3, h4]
theorem oe_none {ρ : Ev} : Oe oNone ρ none := rfl
theorem oe_some {f : EF} {ρ : Ev} {i : Int} {m : Md} (h : Ve f ρ (.int i) m) : Oe (oSome f) ρ (some i) := by
  unfold Ve at h; unfold Oe oSome; rw [h]; rfl
theorem ae_nil {ρ : Ev} : Ae aNil ρ [] := rfl
theorem ae_cons {f : EF} {g : AF} {ρ : Ev} {d : D} {m : Md} {as : List (D × Md)} (h1 : Ve f ρ d m) (h2 : Ae g ρ as) : Ae (aCons f g) ρ ((d, m) :: as) := by
  unfold Ve Ae at *; unfold aCons; rw [h1]; simp [h2]
theorem ve_and_t {f g : EF} {ρ : Ev} {m : Md} {d : D} {n : Md} (h1 : Ve f ρ (.bl true) m) (h2 : Ve g ρ d n) : Ve (eAnd f g) ρ d n := by
  unfold Ve at *; unfold eAnd; rw [h1]; simp [blD, h2]
theorem ve_and_f {f g : EF} {ρ : Ev} {m : Md} (h1 : Ve f ρ (.bl false) m) : Ve (eAnd f g) ρ (.bl false) .new := by
  unfold Ve at *; unfold eAnd; rw [h1]; simp [blD]
theorem ve_or_f {f g : EF} {ρ : Ev} {m : Md} {d : D} {n : Md} (h1 : Ve f ρ (.bl false) m) (h2 : Ve g ρ d n) : Ve (eOr f g) ρ d n := by
  unfold Ve at *; unfold eOr; rw [h1]; simp [blD, h2]
theorem ve_or_t {f g : EF} {ρ : Ev} {m : Md} (h1 : Ve f ρ (.bl true) m) : Ve (eOr f g) ρ (.bl true) .new := by
  unfold Ve at *; unfold eOr; rw [h1]; simp [blD]
theorem ve_if_t {c : Ev → Option Bool} {f g : EF} {ρ : Ev} {d : D} {m : Md} (h : Te c ρ true) (h1 : Ve f ρ d m) : Ve (eIf c f g) ρ d m := by
  unfold Ve Te at *; unfold eIf; rw [h]; simp [h1]
theorem ve_if_f {c : Ev → Option Bool} {f g : EF} {ρ : Ev} {d : D} {m : Md} (h : Te c ρ false) (h1 : Ve g ρ d m) : Ve (eIf c f g) ρ d m := by
  unfold Ve Te at *; unfold eIf; rw [h]; simp [h1]
theorem ve_lc {f : IF} {vs : List Nat} {g : GF} {t : Ev → Option Bool} {e : EF} {ρ : Ev} {ds ys : List D} {m : Md} (h1 : Xe f ρ ds m) (h2 : ds.length ≤ 16777216) (h3 : lcGo g t e m (wipeE ρ vs) ds = some ys) : Ve (eLc f vs g t e) ρ (.lst ys) .new := by
  unfold Ve Xe at *; unfold eLc; rw [h1]; simp [h2, h3]
/-- every item taken -/
theorem lc_map {g : GF} {e : EF} {m : Md} {ρ : Ev} {F : D → D} : ∀ {ds : List D}, (∀ d ∈ ds, ∃ ρ1 n, g d (effm m d) ρ = some ρ1 ∧ Ve e ρ1 (F d) n ∧ (flat (F d) || isNew n) = true) → lcGo g (fun _ => some true) e m ρ ds = some (ds.map F)
  | [], _ => rfl
  | d :: r, h => by
    obtain ⟨ρ1, n, h1, h2, h3⟩ := h d (by simp)
    unfold Ve at h2
    rw [lcGo, h1]
    simp only [Option.bind_some, h2, h3, if_true, lc_map (ds := r) fun d' hd => h d' (by simp [hd]), List.map_cons, Option.map_some]
/-- those that pass a test -/
theorem lc_filter {g : GF} {t : Ev → Option Bool} {e : EF} {m : Md} {ρ : Ev} {F : D → D} {p : D → Bool} : ∀ {ds : List D}, (∀ d ∈ ds, ∃ ρ1, g d (effm m d) ρ = some ρ1 ∧ Te t ρ1 (p d) ∧ (p d = true → ∃ n, Ve e ρ1 (F d) n ∧ (flat (F d) || isNew n) = true)) →
    lcGo g t e m ρ ds = some ((ds.filter p).map F)
  | [], _ => rfl
  | d :: r, h => by
    obtain ⟨ρ1, h1, h2, h3⟩ := h d (by simp)
    unfold Te at h2
    have ih := lc_filter (ds := r) fun d' hd => h d' (by simp [hd])
    rw [lcGo, h1]
    simp only [Option.bind_some, h2]
    by_cases q : p d = true
    · obtain ⟨n, h4, h5⟩ := h3 q
      unfold Ve at h4
      simp only [q, if_true, h4, Option.bind_some, h5, ih, Option.map_some, List.filter_cons, List.map_cons]
    · simp only [Bool.not_eq_true] at q
      simp [q, ih, List.filter_cons]
theorem xe_seq {f : EF} {ρ : Ev} {d : D} {ds : List D} {m : Md} (h : Ve f ρ d m) (h2 : itemsD d = some ds) : Xe (iE f) ρ ds m := by
  unfold Ve Xe at *; unfold iE; rw [h]; simp [h2]
theorem xe_range {f : EF} {ρ : Ev} {n : Int} {m : Md} (h : Ve f ρ (.int n) m) (h1 : -4611686018427387904 ≤ n) (h2 : n < 4611686018427387904) : Xe (iR f) ρ (rangeL n) .new := by
  unfold Ve Xe at *; unfold iR; rw [h]; simp [intD, h1, h2]
theorem xe_enum {f : EF} {ρ : Ev} {ds : List D} {m : Md} (h : Ve f ρ (.lst ds) m) (h2 : flats ds = true) : Xe (iEn f) ρ (enumL 0 ds) m := by
  unfold Ve Xe at *; unfold iEn; rw [h]; simp [h2]

theorem te_v {f : EF} {ρ : Ev} {b : Bool} {m : Md} (h : Ve f ρ (.bl b) m) : Te (tE f) ρ b := by
  unfold Ve at h; unfold Te tE; rw [h]; rfl
theorem te_and_t {f g : Ev → Option Bool} {ρ : Ev} {b : Bool} (h : Te f ρ true) (h2 : Te g ρ b) : Te (tAndD f g) ρ b := by
  unfold Te at *; unfold tAndD; rw [h]; simp [h2]
theorem te_and_f {f g : Ev → Option Bool} {ρ : Ev} (h : Te f ρ false) : Te (tAndD f g) ρ false := by
  unfold Te at *; unfold tAndD; rw [h]; simp
theorem te_and {f g : Ev → Option Bool} {ρ : Ev} {a b : Bool} (h : Te f ρ a) (h2 : a = true → Te g ρ b) : Te (tAndD f g) ρ (a && b) := by
  cases a with
  | true => rw [Bool.true_and]; exact te_and_t h (h2 rfl)
  | false => exact te_and_f h
theorem te_or_f {f g : Ev → Option Bool} {ρ : Ev} {b : Bool} (h : Te f ρ false) (h2 : Te g ρ b) : Te (tOrD f g) ρ b := by
  unfold Te at *; unfold tOrD; rw [h]; simp [h2]
theorem te_or_t {f g : Ev → Option Bool} {ρ : Ev} (h : Te f ρ true) : Te (tOrD f g) ρ true := by
  unfold Te at *; unfold tOrD; rw [h]; simp
theorem te_or {f g : Ev → Option Bool} {ρ : Ev} {a b : Bool} (h : Te f ρ a) (h2 : a = false → Te g ρ b) : Te (tOrD f g) ρ (a || b) := by
  cases a with
  | false => rw [Bool.false_or]; exact te_or_f h (h2 rfl)
  | true => exact te_or_t h
theorem te_not {f : Ev → Option Bool} {ρ : Ev} {b : Bool} (h : Te f ρ b) : Te (tNotD f) ρ (!b) := by
  unfold Te at *; unfold tNotD; rw [h]; rfl

theorem se_nil {ρ : Ev} : Se bNil ρ (.nx ρ) := rfl
theorem se_seq {g h : SF} {ρ ρ' : Ev} {r : Fl} (h1 : Se g ρ (.nx ρ')) (h2 : Se h ρ' r) : Se (bSeq g h) ρ r := by
  unfold Se at *; unfold bSeq; rw [h1]; exact h2
theorem se_seq_rt {g h : SF} {ρ ρ' : Ev} {d : D} (h1 : Se g ρ (.rt d ρ')) : Se (bSeq g h) ρ (.rt d ρ') := by
  unfold Se at *; unfold bSeq; rw [h1]; rfl
theorem se_set {i : Nat} {f : EF} {ρ ρ' : Ev} {d : D} {m : Md} (h : Ve f ρ d m) (h2 : setS i d m ρ = some ρ') : Se (sSet i f) ρ (.nx ρ') := by
  unfold Se Ve at *; unfold sSet; rw [h]; simp [h2]
theorem setS_flat {i : Nat} {d : D} {m : Md} {ρ : Ev} {s : Sl} (h : ρ[i]? = some s) (h2 : freeS s = true) (f : flat d = true) : setS i d m ρ = some (ρ.set i (.fn d)) := by
  unfold setS mkSl; simp [h, h2, f]
theorem setS_new {i : Nat} {d : D} {ρ : Ev} {s : Sl} (h : ρ[i]? = some s) (h2 : freeS s = true) : setS i d .new ρ = some (ρ.set i (.fn d)) := by
  unfold setS mkSl; simp [h, h2]
theorem setS_par {i : Nat} {d : D} {ρ : Ev} {s : Sl} (h : ρ[i]? = some s) (h2 : freeS s = true) (f : flat d = false) : setS i d .par ρ = some (ρ.set i (.fa d)) := by
  unfold setS mkSl; simp [h, h2, f]
theorem se_setN {i : Nat} {f : NF} {ρ : Ev} {d : D} {s : Sl} (h : Ne f ρ d) (h1 : ρ[i]? = some s) (h2 : freeS s = true) : Se (sSetN i f) ρ (.nx (ρ.set i (.on d))) := by
  unfold Se Ne at *; unfold sSetN; rw [h]; simp [h1, h2]
theorem ne_flat {f : EF} {ρ : Ev} {d : D} {m : Md} (h : Ve f ρ d m) (h2 : flat d = true) : Ne (nFlat f) ρ d := by
  unfold Ne Ve at *; unfold nFlat; rw [h]; simp [h2]
theorem ne_dic0 {ρ : Ev} : Ne nDic0 ρ (.dic []) := rfl
theorem ne_lst {g : Ev → Option (List D)} {ρ : Ev} {ds : List D} (h : g ρ = some ds) (h2 : ds.length ≤ 16777216) : Ne (nLst g) ρ (.lst ds) := by
  unfold Ne nLst; rw [h]; simp [h2]
theorem ne_nil {ρ : Ev} : nNil ρ = some [] := rfl
theorem ne_cons {f : NF} {g : Ev → Option (List D)} {ρ : Ev} {d : D} {ds : List D} (h : Ne f ρ d) (h2 : g ρ = some ds) : nCons f g ρ = some (d :: ds) := by
  unfold Ne at h; unfold nCons; rw [h]; simp [h2]
theorem ne_lc {f : EF} {ρ : Ev} {ds : List D} {m : Md} (h : Ve f ρ (.lst ds) m) (h2 : flats ds = true) : Ne (nLc f) ρ (.lst ds) := by
  unfold Ne Ve at *; unfold nLc; rw [h]; simp [h2]
theorem se_if_t {c : Ev → Option Bool} {g h : SF} {ρ : Ev} {r : Fl} {b : Bool} (h1 : Te c ρ b) (hb : b = true) (h2 : Se g ρ r) : Se (sIf c g h) ρ r := by
  subst hb; unfold Se Te at *; unfold sIf; rw [h1]; simp [h2]
theorem se_if_f {c : Ev → Option Bool} {g h : SF} {ρ : Ev} {r : Fl} {b : Bool} (h1 : Te c ρ b) (hb : b = false) (h2 : Se h ρ r) : Se (sIf c g h) ρ r := by
  subst hb; unfold Se Te at *; unfold sIf; rw [h1]; simp [h2]
/-- an if that sets one slot -/
theorem se_if_set {c : Ev → Option Bool} {i : Nat} {f : EF} {ρ : Ev} {b : Bool} {d d0 : D} {m : Md} (h1 : Te c ρ b) (h0 : ρ[i]? = some (.fn d0)) (h2 : b = true → Ve f ρ d m) (fl : flat d = true) : Se (sIf c (sSet i f) bNil) ρ (.nx (ρ.set i (.fn (if b = true then d else d0)))) := by
  cases b with
  | true => exact se_if_t h1 rfl (se_set (h2 rfl) (setS_flat h0 rfl fl))
  | false =>
    refine se_if_f h1 rfl ?_
    have e : ρ.set i (.fn d0) = ρ := by
      apply List.ext_getElem?
      intro j
      by_cases q : i = j
      · subst q
        rw [List.getElem?_set_self (List.getElem?_eq_some_iff.mp h0).1, h0]
      · rw [List.getElem?_set_ne q]
    simp only [Bool.false_eq_true, if_false, e]
    exact se_nil
theorem se_ret {f : EF} {ρ : Ev} {d d' : D} {m : Md} (h : Ve f ρ d m) (h2 : (flat d || isNew m) = true) (e : d = d') : Se (sRet f) ρ (.rt d' ρ) := by
  subst e; unfold Se Ve at *; unfold sRet; rw [h]; simp only [Option.bind_some, h2, if_true]
theorem se_retOn {i : Nat} {ρ : Ev} {d : D} (h : ρ[i]? = some (.on d)) : Se (sRetOn i) ρ (.rt d (ρ.set i (.fn d))) := by
  unfold Se sRetOn; rw [h]
theorem se_unp {f : EF} {g : GF} {ρ ρ' : Ev} {d : D} {m : Md} (h : Ve f ρ d m) (h2 : g d m ρ = some ρ') : Se (sUnp f g) ρ (.nx ρ') := by
  unfold Se Ve at *; unfold sUnp; rw [h]; simp [h2]
theorem se_app {i : Nat} {w : WF} {f : NF} {ρ ρ' : Ev} {p : List Stp} {ds : List D} {y : D} (h1 : w ρ = some p) (h2 : wayD ρ i p = some (.lst ds)) (h3 : Ne f ρ y) (hl : ds.length < 16777216) (h4 : putW ρ i p (.lst (ds ++ [y])) = some ρ') : Se (sApp i w f) ρ (.nx ρ') := by
  unfold Se Ne at *; unfold sApp; rw [h1]; simp [h2, h3, hl, h4]
theorem se_ext {i : Nat} {w : WF} {f : EF} {ρ ρ' : Ev} {p : List Stp} {ds es : List D} {m : Md} (h1 : w ρ = some p) (h2 : wayD ρ i p = some (.lst ds)) (h3 : Ve f ρ (.lst es) m) (hf : flats es = true) (hl : ds.length + es.length ≤ 16777216) (h4 : putW ρ i p (.lst (ds ++ es)) = some ρ') : Se (sExt i w f) ρ (.nx ρ') := by
  unfold Se Ve at *; unfold sExt; rw [h1]; simp [h2, h3, hl, hf, h4]
theorem se_sub {i : Nat} {w : WF} {fk : EF} {f : NF} {ρ ρ' : Ev} {p : List Stp} {d k y z : D} {m : Md} (h3 : Ne f ρ y) (h1 : w ρ = some p) (h2 : wayD ρ i p = some d) (hk : Ve fk ρ k m) (hz : itemD d k y = some z) (h4 : putW ρ i p z = some ρ') : Se (sSub i w fk f) ρ (.nx ρ') := by
  unfold Se Ne Ve at *; unfold sSub; rw [h3]; simp [h1, h2, hk, hz, h4]
theorem way_on0 {i : Nat} {ρ : Ev} {d : D} (h : ρ[i]? = some (.on d)) : wayD ρ i [] = some d := by unfold wayD ownD; rw [h]; rfl
theorem put_on0 {i : Nat} {ρ : Ev} {d y : D} (h : ρ[i]? = some (.on d)) : putW ρ i [] y = some (ρ.set i (.on y)) := by unfold putW ownD setOwn; rw [h]; rfl

/-- a loop by what holds of the slots; every turn goes on -/
theorem for_inv {g : GF} {b : SF} {m : Md} (P : Nat → Ev → Prop) : ∀ {ds : List D} {ρ : Ev} (k : Nat), P k ρ → (∀ i d ρ, ds[i]? = some d → P (k + i) ρ → ∃ ρ1 ρ2, g d (effm m d) ρ = some ρ1 ∧ (Se b ρ1 (.nx ρ2) ∨ Se b ρ1 (.ct ρ2)) ∧ P (k + i + 1) ρ2) →
    ∃ ρ', forGo g b m ds ρ = some (.nx ρ') ∧ P (k + ds.length) ρ'
  | [], ρ, k, h0, _ => ⟨ρ, rfl, h0⟩
  | d :: r, ρ, k, h0, h => by
    obtain ⟨ρ1, ρ2, h1, h2, h3⟩ := h 0 d ρ rfl h0
    obtain ⟨ρ', h4, h5⟩ := for_inv P (ds := r) (ρ := ρ2) (k + 1) (by simpa using h3) fun i d' ρ e p => by
      have q := h (i + 1) d' ρ (by simpa using e) (by rw [show k + (i + 1) = k + 1 + i by omega]; exact p)
      rw [show k + (i + 1) + 1 = k + 1 + i + 1 by omega] at q
      exact q
    refine ⟨ρ', ?_, by rw [List.length_cons, show k + (r.length + 1) = k + 1 + r.length by omega]; exact h5⟩
    rw [forGo, h1]
    unfold Se at h2
    rcases h2 with h2 | h2 <;> simp [h2, h4]
theorem se_for {f : IF} {g : GF} {b : SF} {ρ : Ev} {ds : List D} {m : Md} (P : Nat → Ev → Prop) (hx : Xe f ρ ds m) (hm : notOwn m = true) (h0 : P 0 ρ)
    (h : ∀ i d ρ, ds[i]? = some d → P i ρ → ∃ ρ1 ρ2, g d (effm m d) ρ = some ρ1 ∧ (Se b ρ1 (.nx ρ2) ∨ Se b ρ1 (.ct ρ2)) ∧ P (i + 1) ρ2) : ∃ ρ', Se (sFor f g b) ρ (.nx ρ') ∧ P ds.length ρ' := by
  obtain ⟨ρ', h1, h2⟩ := for_inv P (ds := ds) (ρ := ρ) (g := g) (b := b) (m := m) 0 h0 fun i d ρ e p => by
    rw [Nat.zero_add] at p ⊢
    exact h i d ρ e p
  rw [Nat.zero_add] at h2
  refine ⟨ρ', ?_, h2⟩
  unfold Se sFor Xe at *
  rw [hx]
  simp only [Option.bind_some, hm, if_true]
  exact h1
theorem fn_ev {n k : Nat} {b : SF} {ds : List D} {d : D} {ρ : Ev} (hl : ds.length = k) (h : Se b (ent n ds) (.rt d ρ)) : fnP n k b ds = some d := by
  unfold Se at h; unfold fnP; rw [if_pos hl, h]; rfl
theorem fn_ev_n {n k : Nat} {b : SF} {ds : List D} {ρ : Ev} (hl : ds.length = k) (h : Se b (ent n ds) (.nx ρ)) : fnP n k b ds = some .non := by
  unfold Se at h; unfold fnP; rw [if_pos hl, h]; rfl

/-! ### the operators -/
theorem mod_ok {i j : Int} (h : 0 < j) : modD (.int i) (.int j) = some (.int (i % j)) := by simp [modD, h]
theorem fdiv_ok {i j : Int} (h : 0 < j) (h2 : j < 1073741824) : fdivD (.int i) (.int j) = some (.int (i / j)) := by simp [fdivD, h, h2]
theorem mul_okl {i j : Int} (h : -18446744073709551616 < i) (h2 : i < 18446744073709551616) : mulD (.int i) (.int j) = some (.int (i * j)) := by simp [mulD, h, h2]
theorem mul_okr {i j : Int} (h : -18446744073709551616 < j) (h2 : j < 18446744073709551616) : mulD (.int i) (.int j) = some (.int (i * j)) := by simp [mulD, h, h2]
theorem add_oks {x y : Str} (h : x.length + y.length ≤ 16777216) : addD (.str x) (.str y) = some (.str (x ++ y)) := by simp [addD, h]
theorem add_okl {x y : List D} (h1 : flats x = true) (h2 : flats y = true) (h : x.length + y.length ≤ 16777216) : addD (.lst x) (.lst y) = some (.lst (x ++ y)) := by simp [addD, h1, h2, h]
/-- data no deeper than k, atoms at the bottom -/
def dk : Nat → D → Bool
  | _, .non => true
  | _, .bl _ => true
  | _, .int _ => true
  | _, .str x => PyData.strOk x
  | k + 1, .tup ds => ds.all (dk k)
  | k + 1, .lst ds => ds.all (dk k)
  | _, _ => false
theorem dks_py {k : Nat} (ih : ∀ d, dk k d = true → ∃ p, toPy d = some p ∧ p.canLay0 = true ∧ p.depth ≤ k) : ∀ ds : List D, ds.all (dk k) = true → ∃ ps, toPys ds = some ps ∧ PyData.canLayAll0 ps = true ∧ PyData.depthAll ps ≤ k
  | [], _ => ⟨[], by simp [toPys], by simp [PyData.canLayAll0], by simp [PyData.depthAll]⟩
  | d :: r, h => by
    simp only [List.all_cons, Bool.and_eq_true] at h
    obtain ⟨p, h1, h2, h3⟩ := ih d h.1
    obtain ⟨ps, h4, h5, h6⟩ := dks_py ih r h.2
    refine ⟨p :: ps, by simp [toPys, h1, h4], by simp [PyData.canLayAll0, h2, h5], ?_⟩
    simp only [PyData.depthAll]
    omega
theorem dk_py : ∀ {k : Nat} {d : D}, dk k d = true → ∃ p, toPy d = some p ∧ p.canLay0 = true ∧ p.depth ≤ k
  | _, .non, _ => ⟨.none, by simp [toPy], by simp [PyData.canLay0], by simp [PyData.depth]⟩
  | _, .bl b, _ => ⟨.bool b, by simp [toPy], by simp [PyData.canLay0], by simp [PyData.depth]⟩
  | _, .int b, _ => ⟨.int b, by simp [toPy], by simp [PyData.canLay0], by simp [PyData.depth]⟩
  | k, .str b, h => ⟨.str b, by simp [toPy], by cases k <;> simpa [PyData.canLay0, dk] using h, by simp [PyData.depth]⟩
  | k + 1, .tup ds, h => by
    obtain ⟨ps, h1, h2, h3⟩ := dks_py (fun d => dk_py) ds h
    refine ⟨.tuple ps, by simp [toPy, h1], by simp [PyData.canLay0, h2], ?_⟩
    simp only [PyData.depth]
    omega
  | k + 1, .lst ds, h => by
    obtain ⟨ps, h1, h2, h3⟩ := dks_py (fun d => dk_py) ds h
    refine ⟨.list ps, by simp [toPy, h1], by simp [PyData.canLay0, h2], ?_⟩
    simp only [PyData.depth]
    omega
  | 0, .tup _, h => by simp [dk] at h
  | 0, .lst _, h => by simp [dk] at h
  | k, .dic _, h => by cases k <;> simp [dk] at h
  | k, .ins _ _, h => by cases k <;> simp [dk] at h
  | k, .scr _, h => by cases k <;> simp [dk] at h
  | k, .wtp _, h => by cases k <;> simp [dk] at h
  | k, .dn _ _, h => by cases k <;> simp [dk] at h
  | k, .adr _, h => by cases k <;> simp [dk] at h
theorem shaped_of {p : PyData} {k : Nat} (h : p.canLay0 = true) (h1 : p.depth ≤ k) (h2 : k ≤ 64) : SeqAt.shaped p = true := by
  unfold SeqAt.shaped
  simp only [Bool.and_eq_true, decide_eq_true_eq]
  exact ⟨h, by omega⟩
theorem eqD_refl {d : D} (h : dk 64 d = true) : eqD d d = some true := by
  obtain ⟨p, h1, h2, h3⟩ := dk_py h
  have s := shaped_of h2 h3 (Nat.le_refl _)
  simp only [eqD, h1, Option.bind_some, s, and_self, if_true, SeqAt.eqv_refl p h2]
theorem eq_refl {d : D} (h : dk 64 d = true) : eqDD d d = some (.bl true) := by simp [eqDD, eqD_refl h]
theorem ne_refl {d : D} (h : dk 64 d = true) : neDD d d = some (.bl false) := by simp [neDD, eqD_refl h]
theorem eqD_at {a b : D} {p q : PyData} (h1 : toPy a = some p) (h2 : toPy b = some q) (ha : dk 0 a = true) (hb : dk 0 b = true) : eqD a b = some (PyData.eqv p q) := by
  obtain ⟨p', e1, c1, d1⟩ := dk_py ha
  obtain ⟨q', e2, c2, d2⟩ := dk_py hb
  rw [h1] at e1; rw [h2] at e2
  cases e1; cases e2
  simp only [eqD, h1, h2, Option.bind_some, shaped_of c1 d1 (by omega), shaped_of c2 d2 (by omega), and_self, if_true]
theorem eqD_int {i j : Int} : eqD (.int i) (.int j) = some (i == j) := by
  rw [eqD_at (p := .int i) (q := .int j) (by simp [toPy]) (by simp [toPy]) rfl rfl]; simp [PyData.eqv]
theorem eqD_str {x y : Str} (hx : PyData.strOk x = true) (hy : PyData.strOk y = true) : eqD (.str x) (.str y) = some (x == y) := by
  rw [eqD_at (p := .str x) (q := .str y) (by simp [toPy]) (by simp [toPy]) (by simpa [dk] using hx) (by simpa [dk] using hy)]; simp [PyData.eqv]
theorem eq_int {i j : Int} : eqDD (.int i) (.int j) = some (.bl (i == j)) := by simp [eqDD, eqD_int]
theorem eq_str {x y : Str} (hx : PyData.strOk x = true) (hy : PyData.strOk y = true) : eqDD (.str x) (.str y) = some (.bl (x == y)) := by simp [eqDD, eqD_str hx hy]
theorem ne_int {i j : Int} : neDD (.int i) (.int j) = some (.bl (!(i == j))) := by simp [neDD, eqD_int]
theorem ne_str {x y : Str} (hx : PyData.strOk x = true) (hy : PyData.strOk y = true) : neDD (.str x) (.str y) = some (.bl (!(x == y))) := by simp [neDD, eqD_str hx hy]
theorem len_str {z : Str} (h : z.length ≤ 16777216) : lenD [.str z] = some (.int (z.length : Nat)) := by simp [lenD, h]
theorem ix_lst {ds : List D} {i : Int} {d : D} (h : atI ds i = some d) : ixD (.lst ds) (.int i) = some d := h
theorem ix_tup {ds : List D} {i : Int} {d : D} (h : atI ds i = some d) : ixD (.tup ds) (.int i) = some d := h
theorem atI_at {α : Type} {xs : List α} {i : Int} {v : α} (h0 : 0 ≤ i) (h : xs[i.toNat]? = some v) : atI xs i = some v := by
  have e : i = (i.toNat : Int) := by omega
  rw [e]
  exact atI_nat h
theorem ix_str {z : Str} {i : Int} {c : Nat} (hl : z.length ≤ 16777216) (h : atI z.cps.toList i = some c) : ixD (.str z) (.int i) = some (.str ⟨#[c]⟩) := by simp [ixD, hl, h]
end DL

/-! DL14: text and lists for the reckoning. -/
namespace DL
open PySem L2
def tx (l : List Nat) : Str := ⟨l.toArray⟩
theorem tx_len (l : List Nat) : (tx l).length = l.length := by simp [tx, Str.length]
theorem tx_app (a b : List Nat) : tx a ++ tx b = tx (a ++ b) := by
  show Str.append (tx a) (tx b) = _
  simp [tx, Str.append]
theorem tx_inj {a b : List Nat} (h : tx a = tx b) : a = b := by simpa [tx] using h
theorem tx_cps (l : List Nat) : (tx l).cps.toList = l := by simp [tx]
theorem tx_cut (l : List Nat) (lo hi : Option Int) : cutS (tx l) lo hi = tx (cutL l lo hi) := by
  unfold cutS cutL
  rw [tx_len, tx_cps]; rfl
theorem cut_to {α : Type} (l : List α) (k : Nat) : cutL l none (some (k : Int)) = l.take k := by
  unfold cutL
  rw [HT.sIx_none, HT.sIx_nat, List.drop_zero, Nat.sub_zero]
  by_cases h : k ≤ l.length
  · rw [Nat.min_eq_left h]
  · rw [Nat.min_eq_right (by omega), List.take_length, List.take_of_length_le (by omega)]
theorem cut_from {α : Type} (l : List α) (k : Nat) : cutL l (some (k : Int)) none = l.drop k := by
  unfold cutL
  rw [HT.sIx_none, HT.sIx_nat]
  by_cases h : k ≤ l.length
  · rw [Nat.min_eq_left h, List.take_of_length_le (by simp)]
  · rw [Nat.min_eq_right (by omega)]; simp; omega
theorem sl_str_to {l : List Nat} {k : Nat} {i : Int} (e : i = (k : Nat)) (h : l.length ≤ 16777216) : slD (.str (tx l)) none (some i) = some (.str (tx (l.take k))) := by
  subst e
  simp [slD, tx_len, h, tx_cut, cut_to]
theorem sl_str_from {l : List Nat} {k : Nat} {i : Int} (e : i = (k : Nat)) (h : l.length ≤ 16777216) : slD (.str (tx l)) (some i) none = some (.str (tx (l.drop k))) := by
  subst e
  simp [slD, tx_len, h, tx_cut, cut_from]
theorem sl_lst_to {ds : List D} {k : Nat} {i : Int} (e : i = (k : Nat)) (h : flats ds = true) : slD (.lst ds) none (some i) = some (.lst (ds.take k)) := by
  subst e
  simp [slD, h, cut_to]
theorem strsOf_map {α : Type} (f : α → Str) : ∀ l : List α, strsOf (l.map fun a => D.str (f a)) = some (l.map f)
  | [] => rfl
  | a :: r => by rw [List.map_cons, strsOf, strsOf_map f r]; rfl
theorem join_nil : ∀ l : List Nat, Str.join (tx []) (l.map fun c => tx [c]) = tx l
  | [] => rfl
  | [c] => rfl
  | c :: d :: r => by
    have ih := join_nil (d :: r)
    rw [List.map_cons] at ih ⊢
    rw [List.map_cons, Str.join, ← List.map_cons (f := fun c => tx [c]), List.map_cons, ih, tx_app, tx_app]
    · rfl
    · simp
theorem join_chars {α : Type} (f : α → Nat) {l : List α} (h : l.length ≤ 16777216) : joinD (.str (tx [])) (.lst (l.map fun a => .str (tx [f a]))) = some (.str (tx (l.map f))) := by
  have e : strsOf (l.map fun a => D.str (tx [f a])) = some ((l.map f).map fun c => tx [c]) := by rw [strsOf_map (fun a => tx [f a]), List.map_map]; rfl
  have q : ∀ l : List Nat, ((l.map fun c => tx [c]).map (·.length)).sum = l.length := by
    intro l; induction l with
    | nil => rfl
    | cons a r ih => rw [List.map_cons, List.map_cons, List.sum_cons, ih, tx_len]; simp; omega
  unfold joinD
  simp only [e, Option.bind_some, q, tx_len, List.length_map, List.length_nil, Nat.mul_zero, Nat.add_zero, h, if_true, TL.join_eq, join_nil]
theorem ix_tx {l : List Nat} {i : Int} {c : Nat} (hl : l.length ≤ 16777216) (h0 : 0 ≤ i) (h : l[i.toNat]? = some c) : ixD (.str (tx l)) (.int i) = some (.str (tx [c])) := by
  refine ix_str (by rw [tx_len]; exact hl) ?_
  rw [tx_cps]
  exact atI_at h0 h
theorem ixl_nat {ds : List D} {i : Int} {d : D} (h0 : 0 ≤ i) (h : ds[i.toNat]? = some d) : ixD (.lst ds) (.int i) = some d := ix_lst (atI_at h0 h)
theorem ixt_nat {ds : List D} {i : Int} {d : D} (h0 : 0 ≤ i) (h : ds[i.toNat]? = some d) : ixD (.tup ds) (.int i) = some d := ix_tup (atI_at h0 h)
theorem ix_scr {ns : List Int} {i : Int} {d : Int} (h0 : 0 ≤ i) (h : ns[i.toNat]? = some d) : ixD (.scr ns) (.int i) = some (.int d) := by
  show (atI ns i).map D.int = _
  rw [atI_at h0 h]; rfl
def okC (l : List Nat) : Bool := l.all (· < 0x110000)
theorem tx_ok {l : List Nat} (h : okC l = true) : PyData.strOk (tx l) = true := by
  unfold PyData.strOk; unfold okC at h
  rw [← Array.all_toList, tx_cps]; exact h
theorem add_tx {a b : List Nat} (h : a.length + b.length ≤ 16777216) : addD (.str (tx a)) (.str (tx b)) = some (.str (tx (a ++ b))) := by
  rw [add_oks (by rw [tx_len, tx_len]; exact h), tx_app]
theorem len_tx {l : List Nat} (h : l.length ≤ 16777216) : lenD [.str (tx l)] = some (.int (l.length : Nat)) := by rw [len_str (by rw [tx_len]; exact h), tx_len]
theorem add_int {i j : Int} : addD (.int i) (.int j) = some (.int (i + j)) := rfl
theorem sub_int {i j : Int} : subD (.int i) (.int j) = some (.int (i - j)) := rfl
theorem lt_int {i j : Int} : ltD (.int i) (.int j) = some (.bl (decide (i < j))) := rfl
theorem gt_int {i j : Int} : gtD (.int i) (.int j) = some (.bl (decide (i > j))) := rfl
theorem range_nat (n : Nat) : rangeL (n : Int) = (List.range n).map fun i => .int (i : Nat) := by unfold rangeL; rw [Int.toNat_natCast]
theorem range_get {n : Int} {k : Nat} {d : D} (h : (rangeL n)[k]? = some d) : k < n.toNat ∧ d = .int (k : Nat) := by
  unfold rangeL at h
  rw [List.getElem?_map] at h
  cases q : (List.range n.toNat)[k]? with
  | none => rw [q] at h; cases h
  | some j =>
    rw [q] at h
    have := List.getElem?_eq_some_iff.mp q
    obtain ⟨h1, h2⟩ := this
    simp at h1 h2
    cases h; subst h2
    exact ⟨by omega, rfl⟩
theorem flats_map {α : Type} {f : α → D} (h : ∀ a, flat (f a) = true) : ∀ l : List α, flats (l.map f) = true
  | [] => rfl
  | a :: r => by
    rw [List.map_cons]
    show (flat (f a) && flats (r.map f)) = true
    rw [h, flats_map h r]; rfl
end DL
namespace DL
open PySem L2
theorem fn_go {n k : Nat} {b : SF} {ds : List D} {d : D} (hl : ds.length = k) (h : ∃ ρ, Se b (ent n ds) (.rt d ρ)) : fnP n k b ds = some d := by
  obtain ⟨ρ, h⟩ := h
  exact fn_ev hl h
end DL

/-! DL15: the reckoning where the mode plays no part. -/
namespace DL
open PySem L2
def Vf (f : EF) (ρ : Ev) (d : D) : Prop := ∃ m, Ve f ρ d m
def Af (f : AF) (ρ : Ev) (ds : List D) : Prop := ∃ as, Ae f ρ as ∧ as.map (·.1) = ds
theorem Vf.of {f : EF} {ρ : Ev} {d : D} {m : Md} (h : Ve f ρ d m) : Vf f ρ d := ⟨m, h⟩
theorem vf_fz {i : Nat} {ρ : Ev} {d : D} (h : ρ[i]? = some (.fz d)) : Vf (eV i) ρ d := ⟨_, ve_fz h⟩
theorem vf_fa {i : Nat} {ρ : Ev} {d : D} (h : ρ[i]? = some (.fa d)) : Vf (eV i) ρ d := ⟨_, ve_fa h⟩
theorem vf_fn {i : Nat} {ρ : Ev} {d : D} (h : ρ[i]? = some (.fn d)) : Vf (eV i) ρ d := ⟨_, ve_fn h⟩
theorem vf_ow {i : Nat} {ρ : Ev} {d : D} (h : ρ[i]? = some (.ow d)) : Vf (eV i) ρ d := ⟨_, ve_ow h⟩
theorem vf_on {i : Nat} {ρ : Ev} {d : D} (h : ρ[i]? = some (.on d)) : Vf (eV i) ρ d := ⟨_, ve_on h⟩
theorem vf_c {d : D} {ρ : Ev} : Vf (eC d) ρ d := ⟨_, ve_c⟩
theorem vf_e2 {o : D → D → Option D} {f g : EF} {ρ : Ev} {a b c : D} (h1 : Vf f ρ a) (h2 : Vf g ρ b) (h : o a b = some c) : Vf (e2 o f g) ρ c := by
  obtain ⟨m, h1⟩ := h1; obtain ⟨n, h2⟩ := h2; exact ⟨_, ve_e2 h1 h2 h⟩
theorem vf_e1 {o : D → Option D} {f : EF} {ρ : Ev} {a c : D} (h1 : Vf f ρ a) (h : o a = some c) : Vf (e1 o f) ρ c := by
  obtain ⟨m, h1⟩ := h1; exact ⟨_, ve_e1 h1 h⟩
theorem vf_ix {o : D → D → Option D} {f g : EF} {ρ : Ev} {a b c : D} (h1 : Vf f ρ a) (h2 : Vf g ρ b) (h : o a b = some c) : Vf (eIx o f g) ρ c := by
  obtain ⟨m, h1⟩ := h1; obtain ⟨n, h2⟩ := h2; exact ⟨_, ve_ix h1 h2 h⟩
theorem vf_fld {n : Nat} {f : Str} {g : EF} {ρ : Ev} {c : D} {fs : List (Str × D)} (h1 : Vf g ρ (.ins n fs)) (h : getF fs f = some c) : Vf (eFld n f g) ρ c := by
  obtain ⟨m, h1⟩ := h1; exact ⟨_, ve_fld h1 h⟩
theorem af_nil {ρ : Ev} : Af aNil ρ [] := ⟨[], ae_nil, rfl⟩
theorem af_cons {f : EF} {g : AF} {ρ : Ev} {d : D} {ds : List D} (h1 : Vf f ρ d) (h2 : Af g ρ ds) : Af (aCons f g) ρ (d :: ds) := by
  obtain ⟨m, h1⟩ := h1
  obtain ⟨as, h2, rfl⟩ := h2
  exact ⟨_, ae_cons h1 h2, rfl⟩
theorem okNew_flats : ∀ {as : List (D × Md)}, flats (as.map (·.1)) = true → okNew as = true
  | [], _ => rfl
  | p :: r, h => by
    rw [List.map_cons] at h
    have h' : flat p.1 = true ∧ flats (r.map (·.1)) = true := by simpa [flats] using h
    simp [okNew, h'.1, okNew_flats h'.2]
theorem vn_call {f : List D → Option D} {g : AF} {ρ : Ev} {ds : List D} {d : D} (h1 : Af g ρ ds) (h : f ds = some d) : Ve (eCall f g) ρ d .new := by
  obtain ⟨as, h1, rfl⟩ := h1; exact ve_call h1 h
theorem vf_call {f : List D → Option D} {g : AF} {ρ : Ev} {ds : List D} {d : D} (h1 : Af g ρ ds) (h : f ds = some d) : Vf (eCall f g) ρ d := ⟨_, vn_call h1 h⟩
theorem vn_disp {mk : List D → D} {g : AF} {ρ : Ev} {ds : List D} (h1 : Af g ρ ds) (h2 : flats ds = true) (h3 : ds.length ≤ 16777216) : Ve (eDisp mk g) ρ (mk ds) .new := by
  obtain ⟨as, h1, rfl⟩ := h1; exact ve_disp h1 (okNew_flats h2) (by simpa using h3)
theorem vf_disp {mk : List D → D} {g : AF} {ρ : Ev} {ds : List D} (h1 : Af g ρ ds) (h2 : flats ds = true) (h3 : ds.length ≤ 16777216) : Vf (eDisp mk g) ρ (mk ds) := ⟨_, vn_disp h1 h2 h3⟩
theorem of_some {f : EF} {ρ : Ev} {i : Int} (h : Vf f ρ (.int i)) : Oe (oSome f) ρ (some i) := by
  obtain ⟨m, h⟩ := h; exact oe_some h
theorem vn_sl {f : EF} {l h : OF} {ρ : Ev} {a c : D} {lo hi : Option Int} (h1 : Vf f ρ a) (h2 : Oe l ρ lo) (h3 : Oe h ρ hi) (h4 : slD a lo hi = some c) : Ve (eSl f l h) ρ c .new := by
  obtain ⟨m, h1⟩ := h1; exact ve_sl h1 h2 h3 h4
theorem vf_sl {f : EF} {l h : OF} {ρ : Ev} {a c : D} {lo hi : Option Int} (h1 : Vf f ρ a) (h2 : Oe l ρ lo) (h3 : Oe h ρ hi) (h4 : slD a lo hi = some c) : Vf (eSl f l h) ρ c := ⟨_, vn_sl h1 h2 h3 h4⟩
theorem vf_and_t {f g : EF} {ρ : Ev} {d : D} (h1 : Vf f ρ (.bl true)) (h2 : Vf g ρ d) : Vf (eAnd f g) ρ d := by
  obtain ⟨m, h1⟩ := h1; obtain ⟨n, h2⟩ := h2; exact ⟨_, ve_and_t h1 h2⟩
theorem vf_and_f {f g : EF} {ρ : Ev} (h1 : Vf f ρ (.bl false)) : Vf (eAnd f g) ρ (.bl false) := by
  obtain ⟨m, h1⟩ := h1; exact ⟨_, ve_and_f h1⟩
theorem vf_or_f {f g : EF} {ρ : Ev} {d : D} (h1 : Vf f ρ (.bl false)) (h2 : Vf g ρ d) : Vf (eOr f g) ρ d := by
  obtain ⟨m, h1⟩ := h1; obtain ⟨n, h2⟩ := h2; exact ⟨_, ve_or_f h1 h2⟩
theorem vf_or_t {f g : EF} {ρ : Ev} (h1 : Vf f ρ (.bl true)) : Vf (eOr f g) ρ (.bl true) := by
  obtain ⟨m, h1⟩ := h1; exact ⟨_, ve_or_t h1⟩
theorem vf_if {c : Ev → Option Bool} {f g : EF} {ρ : Ev} {d : D} {b : Bool} (h : Te c ρ b) (h1 : b = true → Vf f ρ d) (h2 : b = false → Vf g ρ d) : Vf (eIf c f g) ρ d := by
  cases b with
  | true => obtain ⟨m, h1⟩ := h1 rfl; exact ⟨_, ve_if_t h h1⟩
  | false => obtain ⟨m, h1⟩ := h2 rfl; exact ⟨_, ve_if_f h h1⟩
theorem tf_v {f : EF} {ρ : Ev} {b : Bool} (h : Vf f ρ (.bl b)) : Te (tE f) ρ b := by
  obtain ⟨m, h⟩ := h; exact te_v h
theorem sf_set {i : Nat} {f : EF} {ρ : Ev} {d : D} {s : Sl} (h : Vf f ρ d) (h1 : ρ[i]? = some s) (h2 : freeS s = true) (fl : flat d = true) : Se (sSet i f) ρ (.nx (ρ.set i (.fn d))) := by
  obtain ⟨m, h⟩ := h; exact se_set h (setS_flat h1 h2 fl)
theorem sn_set {i : Nat} {f : EF} {ρ : Ev} {d : D} {s : Sl} (h : Ve f ρ d .new) (h1 : ρ[i]? = some s) (h2 : freeS s = true) : Se (sSet i f) ρ (.nx (ρ.set i (.fn d))) := se_set h (setS_new h1 h2)
theorem sf_ret {f : EF} {ρ : Ev} {d : D} (h : Vf f ρ d) (h2 : flat d = true) : Se (sRet f) ρ (.rt d ρ) := by
  obtain ⟨m, h⟩ := h; exact se_ret h (by rw [h2]; rfl) rfl
theorem sn_ret {f : EF} {ρ : Ev} {d : D} (h : Ve f ρ d .new) : Se (sRet f) ρ (.rt d ρ) := se_ret h (by simp [isNew]) rfl
theorem nf_flat {f : EF} {ρ : Ev} {d : D} (h : Vf f ρ d) (h2 : flat d = true) : Ne (nFlat f) ρ d := by
  obtain ⟨m, h⟩ := h; exact ne_flat h h2
theorem sf_if_set {c : Ev → Option Bool} {i : Nat} {f : EF} {ρ : Ev} {b : Bool} {d d0 : D} (h1 : Te c ρ b) (h0 : ρ[i]? = some (.fn d0)) (h2 : b = true → Vf f ρ d) (fl : flat d = true) : Se (sIf c (sSet i f) bNil) ρ (.nx (ρ.set i (.fn (if b = true then d else d0)))) := by
  cases b with
  | true => obtain ⟨m, h2⟩ := h2 rfl; exact se_if_set h1 h0 (fun _ => h2) fl
  | false => exact se_if_set (m := .new) h1 h0 (fun h => by cases h) fl
theorem xf_range {f : EF} {ρ : Ev} {n : Int} (h : Vf f ρ (.int n)) (h1 : -4611686018427387904 ≤ n) (h2 : n < 4611686018427387904) : Xe (iR f) ρ (rangeL n) .new := by
  obtain ⟨m, h⟩ := h; exact xe_range h h1 h2
/-- a comprehension over a range, each item flat -/
theorem vn_lcr {f : EF} {ρ : Ev} {i : Nat} {e : EF} {n : Nat} {F : Nat → D} (h : Vf f ρ (.int (n : Nat))) (hn : n ≤ 16777216) (hi : i < ρ.length)
    (hF : ∀ k, k < n → Vf e ((wipeE ρ [i]).set i (.fn (.int (k : Nat)))) (F k)) (hf : ∀ k, flat (F k) = true) :
    Ve (eLc (iR f) [i] (gN i) (fun _ => some true) e) ρ (.lst ((List.range n).map F)) .new := by
  refine ve_lc (xf_range h (by omega) (by omega)) (by simp [rangeL]; omega) ?_
  rw [range_nat]
  have key := @lc_map (gN i) e .new (wipeE ρ [i]) (fun d => match d with | .int k => F k.toNat | d => d) ((List.range n).map fun k => .int (k : Nat)) ?_
  · rw [List.map_map] at key
    rw [key]
    congr 2
  · intro d hd
    simp only [List.mem_map, List.mem_range] at hd
    obtain ⟨k, hk, rfl⟩ := hd
    obtain ⟨m, hv⟩ := hF k hk
    have e0 : (wipeE ρ [i])[i]? = some .emp := by
      show (ρ.set i .emp)[i]? = _
      rw [List.getElem?_set_self hi]
    exact ⟨_, m, setS_flat e0 rfl rfl, by simpa using hv, by simp [hf]⟩
/-- a comprehension over a list, each item flat -/
theorem vn_lcl {f : EF} {ρ : Ev} {i : Nat} {e : EF} {ds : List D} {F : D → D} (h : Vf f ρ (.lst ds)) (hn : ds.length ≤ 16777216) (hi : i < ρ.length) (hd : flats ds = true)
    (hF : ∀ d, d ∈ ds → Vf e ((wipeE ρ [i]).set i (.fn d)) (F d)) (hf : ∀ d, d ∈ ds → flat (F d) = true) :
    Ve (eLc (iE f) [i] (gN i) (fun _ => some true) e) ρ (.lst (ds.map F)) .new := by
  obtain ⟨m, h⟩ := h
  refine ve_lc (xe_seq h rfl) hn ?_
  refine lc_map fun d hm => ?_
  obtain ⟨n, hv⟩ := hF d hm
  have e0 : (wipeE ρ [i])[i]? = some .emp := by
    show (ρ.set i .emp)[i]? = _
    rw [List.getElem?_set_self hi]
  have fd : ∀ (ds : List D), flats ds = true → ∀ d ∈ ds, flat d = true := by
    intro ds
    induction ds with
    | nil => intro _ d h; cases h
    | cons a r ih =>
      intro h d hm
      have h' : flat a = true ∧ flats r = true := by simpa [flats] using h
      rcases List.mem_cons.mp hm with rfl | hm
      · exact h'.1
      · exact ih h'.2 d hm
  exact ⟨_, n, setS_flat e0 rfl (fd ds hd d hm), hv, by simp [hf d hm]⟩
/-- the body gives d back -/
def Sr (g : SF) (ρ : Ev) (d : D) : Prop := ∃ ρ', Se g ρ (.rt d ρ')
theorem fn_sr {n k : Nat} {b : SF} {ds : List D} {d : D} (hl : ds.length = k) (h : Sr b (ent n ds) d) : fnP n k b ds = some d := by
  obtain ⟨ρ, h⟩ := h
  exact fn_ev hl h
theorem sr_seq {g h : SF} {ρ ρ' : Ev} {d : D} (h1 : Se g ρ (.nx ρ')) (h2 : Sr h ρ' d) : Sr (bSeq g h) ρ d := by
  obtain ⟨ρ2, h2⟩ := h2
  exact ⟨_, se_seq h1 h2⟩
theorem sr_now {g h : SF} {ρ : Ev} {d : D} (h1 : Sr g ρ d) : Sr (bSeq g h) ρ d := by
  obtain ⟨ρ2, h1⟩ := h1
  exact ⟨_, se_seq_rt h1⟩
theorem sr_ret {f : EF} {ρ : Ev} {d : D} (h : Vf f ρ d) (h2 : flat d = true) : Sr (sRet f) ρ d := ⟨_, sf_ret h h2⟩
theorem srn_ret {f : EF} {ρ : Ev} {d : D} (h : Ve f ρ d .new) : Sr (sRet f) ρ d := ⟨_, sn_ret h⟩
theorem sr_retOn {i : Nat} {ρ : Ev} {d : D} (h : ρ[i]? = some (.on d)) : Sr (sRetOn i) ρ d := ⟨_, se_retOn h⟩
theorem sr_if_t {c : Ev → Option Bool} {g h : SF} {ρ : Ev} {d : D} {b : Bool} (h1 : Te c ρ b) (hb : b = true) (h2 : Sr g ρ d) : Sr (sIf c g h) ρ d := by
  obtain ⟨ρ2, h2⟩ := h2
  exact ⟨_, se_if_t h1 hb h2⟩
theorem sr_if_f {c : Ev → Option Bool} {g h : SF} {ρ : Ev} {d : D} {b : Bool} (h1 : Te c ρ b) (hb : b = false) (h2 : Sr h ρ d) : Sr (sIf c g h) ρ d := by
  obtain ⟨ρ2, h2⟩ := h2
  exact ⟨_, se_if_f h1 hb h2⟩
/-- a test that gives back now, or goes on -/
theorem sr_guard {c : Ev → Option Bool} {g h : SF} {ρ : Ev} {d : D} {b : Bool} (h1 : Te c ρ b) (ht : b = true → Sr g ρ d) (hf : b = false → Sr h ρ d) : Sr (bSeq (sIf c g bNil) h) ρ d := by
  cases b with
  | true => exact sr_now (sr_if_t h1 rfl (ht rfl))
  | false => exact sr_seq (se_if_f h1 rfl se_nil) (hf rfl)
def Sx (g : SF) (ρ : Ev) (Φ : Ev → Prop) : Prop := ∃ ρ', (Se g ρ (.nx ρ') ∨ Se g ρ (.ct ρ')) ∧ Φ ρ'
def Sg (g : GF) (d : D) (m : Md) (ρ : Ev) (Φ : Ev → Prop) : Prop := ∃ ρ1, g d m ρ = some ρ1 ∧ Φ ρ1
theorem sx_seq {g h : SF} {ρ ρ' : Ev} {Φ : Ev → Prop} (h1 : Se g ρ (.nx ρ')) (h2 : Sx h ρ' Φ) : Sx (bSeq g h) ρ Φ := by
  obtain ⟨ρ2, h2 | h2, h3⟩ := h2
  · exact ⟨_, .inl (se_seq h1 h2), h3⟩
  · exact ⟨_, .inr (se_seq h1 h2), h3⟩
theorem sx_end {g : SF} {ρ ρ' : Ev} {Φ : Ev → Prop} (h1 : Se g ρ (.nx ρ')) (h2 : Φ ρ') : Sx g ρ Φ := ⟨_, .inl h1, h2⟩
theorem sx_if {c : Ev → Option Bool} {g h : SF} {ρ : Ev} {Φ : Ev → Prop} {b : Bool} (h1 : Te c ρ b) (ht : b = true → Sx g ρ Φ) (hf : b = false → Sx h ρ Φ) : Sx (sIf c g h) ρ Φ := by
  cases b with
  | true => obtain ⟨ρ2, h2 | h2, h3⟩ := ht rfl; exact ⟨_, .inl (se_if_t h1 rfl h2), h3⟩; exact ⟨_, .inr (se_if_t h1 rfl h2), h3⟩
  | false => obtain ⟨ρ2, h2 | h2, h3⟩ := hf rfl; exact ⟨_, .inl (se_if_f h1 rfl h2), h3⟩; exact ⟨_, .inr (se_if_f h1 rfl h2), h3⟩
theorem sx_nil {ρ : Ev} {Φ : Ev → Prop} (h : Φ ρ) : Sx bNil ρ Φ := ⟨_, .inl se_nil, h⟩
theorem sg_flat {i : Nat} {d : D} {m : Md} {ρ : Ev} {Φ : Ev → Prop} {s : Sl} (h : ρ[i]? = some s) (h2 : freeS s = true) (f : flat d = true) (hΦ : Φ (ρ.set i (.fn d))) : Sg (gN i) d m ρ Φ := ⟨_, setS_flat h h2 f, hΦ⟩
theorem sg_two {i j : Nat} {a b : D} {m : Md} {ρ : Ev} {Φ : Ev → Prop} {s t : Sl} (h : ρ[i]? = some s) (h2 : freeS s = true) (f : flat a = true) (h' : (ρ.set i (.fn a))[j]? = some t) (h2' : freeS t = true) (f' : flat b = true)
    (hΦ : Φ ((ρ.set i (.fn a)).set j (.fn b))) : Sg (gT 2 (gsCons i (gsCons j gsNil))) (.tup [a, b]) m ρ Φ := by
  refine ⟨_, ?_, hΦ⟩
  show (setS i a (effm m a) ρ).bind (fun ρ' => (setS j b (effm m b) ρ').bind fun ρ'' => some ρ'') = _
  rw [setS_flat h h2 f, Option.bind_some, setS_flat h' h2' f']; rfl
theorem sr_for {f : IF} {g : GF} {b h : SF} {ρ : Ev} {ds : List D} {m : Md} {r : D} (P : Nat → Ev → Prop) (hx : Xe f ρ ds m) (hm : notOwn m = true) (h0 : P 0 ρ)
    (hs : ∀ i d ρ, ds[i]? = some d → P i ρ → Sg g d (effm m d) ρ fun ρ1 => Sx b ρ1 (P (i + 1))) (he : ∀ ρ', P ds.length ρ' → Sr h ρ' r) : Sr (bSeq (sFor f g b) h) ρ r := by
  obtain ⟨ρ', h1, h2⟩ := se_for P hx hm h0 fun i d ρ e p => by
    obtain ⟨ρ1, q1, ρ2, q2, q3⟩ := hs i d ρ e p
    exact ⟨ρ1, ρ2, q1, q2, q3⟩
  exact sr_seq h1 (he ρ' h2)
/-- the body gives something back of which Φ holds -/
def Sp (g : SF) (ρ : Ev) (Φ : D → Prop) : Prop := ∃ d, Sr g ρ d ∧ Φ d
theorem fn_sp {n k : Nat} {b : SF} {ds : List D} {Φ : D → Prop} (hl : ds.length = k) (h : Sp b (ent n ds) Φ) : ∃ d, fnP n k b ds = some d ∧ Φ d := by
  obtain ⟨d, h, h2⟩ := h
  exact ⟨d, fn_sr hl h, h2⟩
theorem Sp.of {g : SF} {ρ : Ev} {d : D} {Φ : D → Prop} (h : Sr g ρ d) (h2 : Φ d) : Sp g ρ Φ := ⟨d, h, h2⟩
theorem sp_seq {g h : SF} {ρ ρ' : Ev} {Φ : D → Prop} (h1 : Se g ρ (.nx ρ')) (h2 : Sp h ρ' Φ) : Sp (bSeq g h) ρ Φ := by
  obtain ⟨d, h2, h3⟩ := h2
  exact ⟨_, sr_seq h1 h2, h3⟩
theorem sp_guard {c : Ev → Option Bool} {g h : SF} {ρ : Ev} {Φ : D → Prop} {b : Bool} (h1 : Te c ρ b) (ht : b = true → Sp g ρ Φ) (hf : b = false → Sp h ρ Φ) : Sp (bSeq (sIf c g bNil) h) ρ Φ := by
  cases b with
  | true => obtain ⟨d, q, r⟩ := ht rfl; exact ⟨_, sr_now (sr_if_t h1 rfl q), r⟩
  | false => obtain ⟨d, q, r⟩ := hf rfl; exact ⟨_, sr_seq (se_if_f h1 rfl se_nil) q, r⟩
theorem sp_ret {f : EF} {ρ : Ev} {d : D} {Φ : D → Prop} (h : Vf f ρ d) (h2 : flat d = true) (h3 : Φ d) : Sp (sRet f) ρ Φ := ⟨_, sr_ret h h2, h3⟩
theorem spn_ret {f : EF} {ρ : Ev} {d : D} {Φ : D → Prop} (h : Ve f ρ d .new) (h3 : Φ d) : Sp (sRet f) ρ Φ := ⟨_, srn_ret h, h3⟩
theorem ix_mem {ds : List D} {i : Int} (h0 : 0 ≤ i) (h : i < ds.length) : ∃ d, d ∈ ds ∧ ixD (.lst ds) (.int i) = some d := by
  have hl : i.toNat < ds.length := by omega
  exact ⟨ds[i.toNat], List.getElem_mem hl, ixl_nat h0 (List.getElem?_eq_getElem hl)⟩
theorem lc_mapS {g : GF} {e : EF} {m : Md} {ρ : Ev} {ds : List D} (F : D → D) (h : ∀ d ∈ ds, Sg g d (effm m d) ρ fun ρ1 => Vf e ρ1 (F d)) (hf : ∀ d ∈ ds, flat (F d) = true) : lcGo g (fun _ => some true) e m ρ ds = some (ds.map F) :=
  lc_map fun d hd => by
    obtain ⟨ρ1, h1, n, h2⟩ := h d hd
    exact ⟨ρ1, n, h1, h2, by simp [hf d hd]⟩
theorem lc_filterS {g : GF} {t : Ev → Option Bool} {e : EF} {m : Md} {ρ : Ev} {ds : List D} (F : D → D) (p : D → Bool) (h : ∀ d ∈ ds, Sg g d (effm m d) ρ fun ρ1 => Te t ρ1 (p d) ∧ (p d = true → Vf e ρ1 (F d))) (hf : ∀ d ∈ ds, flat (F d) = true) : lcGo g t e m ρ ds = some ((ds.filter p).map F) :=
  lc_filter fun d hd => by
    obtain ⟨ρ1, h1, h2, h3⟩ := h d hd
    exact ⟨ρ1, h1, h2, fun q => by
      obtain ⟨n, h4⟩ := h3 q
      exact ⟨n, h4, by simp [hf d hd]⟩⟩
theorem sn_if_set {c : Ev → Option Bool} {i : Nat} {f : EF} {ρ : Ev} {b : Bool} {d d0 : D} (h1 : Te c ρ b) (h0 : ρ[i]? = some (.fn d0)) (h2 : b = true → Ve f ρ d .new) : Se (sIf c (sSet i f) bNil) ρ (.nx (ρ.set i (.fn (if b = true then d else d0)))) := by
  cases b with
  | true => exact se_if_t h1 rfl (sn_set (h2 rfl) h0 rfl)
  | false =>
    refine se_if_f h1 rfl ?_
    have e : ρ.set i (.fn d0) = ρ := by
      apply List.ext_getElem?
      intro j
      by_cases q : i = j
      · subst q
        rw [List.getElem?_set_self (List.getElem?_eq_some_iff.mp h0).1, h0]
      · rw [List.getElem?_set_ne q]
    simp only [Bool.false_eq_true, if_false, e]
    exact se_nil
def Wh (c : Ev → Option Bool) (b : SF) (ρ ρ' : Ev) : Prop := ∃ n, whGo c b n ρ = some (.nx ρ')
theorem wh_stop {c : Ev → Option Bool} {b : SF} {ρ : Ev} (h : Te c ρ false) : Wh c b ρ ρ := ⟨1, by unfold Te at h; rw [whGo, h]; rfl⟩
theorem wh_step {c : Ev → Option Bool} {b : SF} {ρ ρ1 ρ' : Ev} (h : Te c ρ true) (h1 : Se b ρ (.nx ρ1)) (h2 : Wh c b ρ1 ρ') : Wh c b ρ ρ' := by
  obtain ⟨n, h2⟩ := h2
  exact ⟨n + 1, by unfold Te at h; unfold Se at h1; rw [whGo, h]; simp [h1, h2]⟩
theorem se_wh {c : Ev → Option Bool} {b : SF} {ρ ρ' : Ev} (h : Wh c b ρ ρ') : Se (sWhile c b) ρ (.nx ρ') := by
  obtain ⟨n, h⟩ := h
  exact sWhile_of h
theorem getK_map {α : Type} {f : α → Key} {g : α → D} (inj : ∀ i j, f i = f j → i = j) {i : α} : ∀ {l : List α}, i ∈ l → getK (l.map fun i => (f i, g i)) (f i) = some (g i)
  | [], h => by cases h
  | a :: r, h => by
    rw [List.map_cons, getK]
    by_cases q : f a = f i
    · rw [if_pos q, inj _ _ q]
    · rw [if_neg q]
      rcases List.mem_cons.mp h with e | h
      · exact absurd (by rw [e]) q
      · exact getK_map inj h
theorem putG_new {β : Type} {kvs : List (Key × β)} {k : Key} {y : β} (h : (kvs.any fun kv => decide (kv.1 = k)) = false) : putG kvs k y = kvs ++ [(k, y)] := by
  unfold putG
  rw [h]; rfl
theorem ix_last {ds : List D} {d : D} (h : ds.getLast? = some d) : ixD (.lst ds) (.int (-1)) = some d := by
  refine ix_lst ?_
  have hl : ds.length ≠ 0 := by
    intro q
    rw [List.length_eq_zero_iff.mp q] at h
    cases h
  unfold atI ixN
  rw [if_neg (by omega), if_pos (by omega), Option.bind_some]
  rw [List.getLast?_eq_getElem?] at h
  rw [← h]
  congr 1
  omega
end DL

/-! DL16: displays of dicts. -/
namespace DL
open PySem L2
section
variable {Γ : Ga} {x : Fx} {B : Hp} {F : Nat → List Addr} {ρ : Ev} {σ : St} {H : Hp}
/-- a thing that no one knows of is written, and known from then on -/
theorem Ok.turn (o : Ok Γ x B F ρ σ H) {a : Addr} {u w : HO} (hu : H a = some u) (hnt : ∀ xs, u ≠ .tup xs) (hw : ∀ xs, w ≠ .tup xs) (l : Loose x B F a) : Ok Γ x (upd B a w) F ρ σ (upd H a w) where
  kp := fun b v e => by rw [upd_ne (fun q => by rw [q, l.2.1] at e; cases e)]; exact o.kp b v e
  bh := upd_upd_same o.bh
  tup := fun b xs e => by
    by_cases q : b = a
    · subst q; rw [upd_same] at e; cases e; exact absurd rfl (hw xs)
    · rw [upd_ne q] at e ⊢; exact o.tup b xs e
  born := fun b v e => by
    by_cases q : b = a
    · subst q; exact .inr l.2.2.1
    · rw [upd_ne q] at e; exact o.born b v e
  bk := fun b v e => by
    by_cases q : b = a
    · subst q; exact .inr l.2.1
    · rw [upd_ne q] at e; exact o.bk b v e
  dom := fun b e => by
    by_cases q : b = a
    · subst q; exact l.2.2.1
    · rw [upd_ne q] at e; exact o.dom b e
  fk := fun i b hb => by
    obtain ⟨h1, h2, h3⟩ := o.fk i b hb
    have hne : b ≠ a := fun q => l.2.2.2 i (q ▸ hb)
    exact ⟨h1, by rw [upd_ne hne]; exact h2, h3⟩
  dj := o.dj
  nd := o.nd
  out := o.out
  len := o.len
  at_ := fun i s hs => by
    have q := o.at_ i s hs
    have hk : ∀ b ∈ F i, upd H a w b = H b := fun b hb => by
      have hne : b ≠ a := fun q => l.2.2.2 i (q ▸ hb)
      exact upd_ne hne
    have tk : TupK H (upd H a w) := TupK.upd (by intro xs z; rw [hu] at z; cases z; exact absurd rfl (hnt xs))
    cases s with
    | emp => exact q
    | fz => exact q
    | fa => exact q
    | fn => obtain ⟨q1, v, q2, q3⟩ := q; exact ⟨q1, v, q2, q3.mono (same_upd l.1)⟩
    | ow => obtain ⟨v, q1, q2, q3⟩ := q; exact ⟨v, q1, q2.keep tk hk, q3⟩
    | on => obtain ⟨v, q1, q2, q3⟩ := q; exact ⟨v, q1, q2.keep tk hk, q3⟩
    | ol => obtain ⟨b, vs, q1, q2, q3, q4, q5⟩ := q; exact ⟨b, vs, q1, q2, (hk b (by rw [q2]; simp)).trans q3, q4.mono (same_upd l.1), q5⟩
end
def keyD : Key → D
  | .inl i => .int i
  | .inr z => .str z
theorem keyD_is {Γ : Ga} {H : Hp} {k : Key} {v : V} (h : Is Γ H (keyD k) v) : v = kV k := by cases k <;> exact h
/-- the pairs of a display: the keys are written, f tells the values -/
def PuP (cm : Nat → Addr) (X : Cx) (pos : Pos) (keys : List (Option Expr)) (values : List Expr) (ks : List Key) (f : AF) : Prop :=
  ∃ trs, PPs X pos keys values trs ∧ ∀ (x : Fx) (B : Hp) (F : Nat → List Addr) (ρ : Ev) (σ : St) (H : Hp) (ds : List (D × Md)) (Q : List (V × V) → Hp → Prop), Ok (gx X cm) x B F ρ σ H → f ρ = some ds →
    (∀ vs B' H', Gr B H B' H' → Ok (gx X cm) x B' F ρ σ H' → ks.length = ds.length → Paired (fun (p : D × Md) v => Val (gx X cm) x p.2 B' H' p.1 v) ds vs → Q ((List.zip ks vs).map fun kv => (kV kv.1, kv.2)) H') → tPairs trs σ H Q
section
variable {cm : Nat → Addr} {X : Cx} {pos : Pos}
theorem pup_nil : PuP cm X pos [] [] [] aNil := ⟨_, pps_nil, fun x B F ρ σ H ds Q ok hf hQ => by
  cases hf
  exact hQ [] B H (Gr.refl B H) ok rfl .nil⟩
theorem aCons_some' {f : EF} {g : AF} {ρ : Ev} {ds : List (D × Md)} (h : aCons f g ρ = some ds) : ∃ d r, f ρ = some d ∧ g ρ = some r ∧ ds = d :: r := by
  unfold aCons at h
  cases e : f ρ with
  | none => rw [e] at h; cases h
  | some d =>
    rw [e] at h
    simp only [Option.bind_some] at h
    cases e2 : g ρ with
    | none => rw [e2] at h; cases h
    | some r => rw [e2] at h; cases h; exact ⟨d, r, rfl, rfl, rfl⟩
theorem pup_cons {k : Key} {ke ve : Expr} {keys : List (Option Expr)} {values : List Expr} {ks : List Key} {fv : EF} {f : AF} (hk : PuE cm X ke (eC (keyD k))) (hv : PuE cm X ve fv) (hr : PuP cm X pos keys values ks f) : PuP cm X pos (some ke :: keys) (ve :: values) (k :: ks) (aCons fv f) := by
  obtain ⟨tk, pk, qk⟩ := hk
  obtain ⟨tv, pv, qv⟩ := hv
  obtain ⟨tr, pr, qr⟩ := hr
  refine ⟨_, pps_cons pk pv pr, fun x B F ρ σ H ds Q ok hf hQ => ?_⟩
  obtain ⟨d, r, e1, e2, rfl⟩ := aCons_some' hf
  refine qk x B F ρ σ H (keyD k) .new _ ok rfl fun v B1 H1 g1 ok1 v1 => ?_
  have ev := keyD_is v1
  subst ev
  refine qv x B1 F ρ σ H1 d.1 d.2 _ ok1 e1 fun w B2 H2 g2 ok2 v2 => ?_
  refine qr x B2 F ρ σ H2 r _ ok2 e2 fun vs B3 H3 g3 ok3 hl hp => ?_
  exact hQ (w :: vs) B3 H3 (g1.trans (g2.trans g3)) ok3 (by rw [List.length_cons, List.length_cons, hl]) (.cons (v2.mono g3) hp)
theorem zip_keys {α : Type} : ∀ {ks : List Key} {vs : List α}, ks.length = vs.length → (List.zip ks vs).map (·.1) = ks
  | [], [], _ => rfl
  | k :: ks, v :: vs, h => by rw [List.zip_cons_cons, List.map_cons, zip_keys (by simpa using h)]
theorem mergeK_new : ∀ (more acc : List (Key × V)), (acc.map (·.1) ++ more.map (·.1)).Nodup → mergeK acc more = acc ++ more
  | [], acc, _ => by rw [List.append_nil]; rfl
  | p :: r, acc, h => by
    have e : putK acc p.1 p.2 = acc ++ [p] := by
      unfold putK
      have : (acc.any fun kv => decide (kv.1 = p.1)) = false := by
        rw [List.any_eq_false]
        intro kv hkv
        simp only [decide_eq_true_eq]
        intro e
        rw [List.map_cons] at h
        have := (List.nodup_append.mp h).2.2 kv.1 (List.mem_map_of_mem hkv) p.1 (by simp)
        exact this e
      rw [this]; rfl
    show mergeK (putK acc p.1 p.2) r = _
    rw [e, mergeK_new r]
    · simp
    · rw [List.map_append]
      simpa using h
def mkDic (ks : List Key) (ds : List D) : D := .dic (List.zip ks ds)
theorem isK_zip {Γ : Ga} {H : Hp} : ∀ {ks : List Key} {ds : List D} {vs : List V}, Iss Γ H ds vs → IsK Γ H (List.zip ks ds) (List.zip ks vs)
  | [], _, _, _ => by simp [IsK]
  | k :: ks, [], _, h => by rw [show _ = [] from h]; simp [IsK]
  | k :: ks, d :: ds, _, ⟨v, s, e, h1, h2⟩ => by
    subst e
    exact ⟨v, _, rfl, h1, isK_zip h2⟩
theorem pu_dict {keys : List (Option Expr)} {values : List Expr} {ks : List Key} {f : AF} (hp : PuP cm X pos keys values ks f) (hn : ks.Nodup) (hall : keys.all (·.isSome) = true := by rfl) (hl : keys.length = values.length := by rfl) (h0 : keys ≠ [] := by simp)
    (h15 : keys.length ≤ 15 := by decide) (hkl : ks.length = keys.length := by rfl) : PuE cm X (.Dict keys values pos) (eDisp (mkDic ks) f) := by
  obtain ⟨t, p, q⟩ := hp
  refine ⟨_, pe_disp p hall hl h0 h15, fun x B F ρ σ H d m Q ok hf hQ => ?_⟩
  unfold eDisp at hf
  cases ea : f ρ with
  | none => rw [ea] at hf; cases hf
  | some as =>
    rw [ea] at hf
    simp only [Option.bind_some] at hf
    split at hf
    · rename_i h
      cases hf
      intro l hlz
      obtain ⟨g1, ok1⟩ := ok.laidH (o := .dK []) hlz (fun xs z => nomatch z)
      refine q x B F ρ σ _ as _ ok1 ea fun vs B' H' g ok' hl2 hvs => ?_
      have hp : H' l = some (.dK []) := g.hh _ _ upd_same
      have hb : B' l = none := by
        cases e : B' l with
        | none => rfl
        | some u =>
          rcases g.new l u e with ⟨xs, rfl⟩ | h4 | h4
          · have := ok'.bh l _ e; rw [hp] at this; cases this
          · rw [Same.free ok.bh hlz] at h4; cases h4
          · rw [upd_same] at h4; cases h4
      have hlen : ks.length = vs.length := by rw [hl2]; exact paired_len hvs
      have lo : Loose x B' F l := ok'.loose ok hlz hb
      refine ⟨hp, List.zip ks vs, rfl, ?_, ?_⟩
      · rw [List.length_zip, ← hlen, Nat.min_self, hkl]; exact h15
      · have em : mergeK [] (List.zip ks vs) = List.zip ks vs := by
          rw [mergeK_new _ [] (by rw [zip_keys hlen]; simpa using hn)]; rfl
        rw [em]
        have ok2 := ok'.turn (w := .dK (List.zip ks vs)) hp (fun xs z => nomatch z) (fun xs z => nomatch z) lo
        refine hQ (.ref l) (upd B' l (.dK (List.zip ks vs))) _ ⟨fun b u e => ?_, (g1.trans g).bb.trans (same_upd hb), fun b u e => ?_⟩ ok2 ⟨l, List.zip ks vs, rfl, upd_same, ?_⟩
        · rw [upd_ne (fun q => by rw [q, hlz] at e; cases e)]
          exact (g1.trans g).hh b u e
        · by_cases q : b = l
          · subst q; exact .inr (.inr hlz)
          · rw [upd_ne q] at e; exact (g1.trans g).new b u e
        · exact isK_zip ((paired_issNew ok' h.1 hvs).mono (same_upd hb))
    · cases hf
end
end DL

/-! DL17: a text in lists and tuples of texts and nones. -/
namespace DL
open PySem L2
def oD : Option (List Nat) → D
  | none => .non
  | some c => .str (tx c)
def oP : Option (List Nat) → PyData
  | none => .none
  | some c => .str (tx c)
def oV : Option (List Nat) → V
  | none => .non
  | some c => .str (tx c)
theorem oD_flat (o : Option (List Nat)) : flat (oD o) = true := by cases o <;> rfl
theorem toPys_o : ∀ os : List (Option (List Nat)), toPys (os.map oD) = some (os.map oP)
  | [] => by simp [toPys]
  | none :: r => by rw [List.map_cons, toPys, toPys_o r]; simp [oD, toPy, oP]
  | some c :: r => by rw [List.map_cons, toPys, toPys_o r]; simp [oD, toPy, oP]
theorem atomsV_o : ∀ os : List (Option (List Nat)), atomsV (os.map oD) = some (os.map oV)
  | [] => rfl
  | none :: r => by rw [List.map_cons, atomsV, atomsV_o r]; rfl
  | some c :: r => by rw [List.map_cons, atomsV, atomsV_o r]; rfl
theorem tx_eq (a b : List Nat) : (tx a == tx b) = (a == b) := by
  by_cases h : a = b
  · subst h; simp
  · rw [beq_eq_false_iff_ne.mpr (fun e => h (tx_inj e)), beq_eq_false_iff_ne.mpr h]
theorem some_beq (a b : List Nat) : (some a == some b) = (a == b) := rfl
theorem eqv_o (o : Option (List Nat)) (c : List Nat) : PyData.eqv (oP o) (.str (tx c)) = (o == some c) := by
  cases o with
  | none => simp [oP, PyData.eqv]
  | some a => rw [some_beq, ← tx_eq]; simp [oP, PyData.eqv]
theorem eqV_o (o : Option (List Nat)) (c : List Nat) : eqV (oV o) (.str (tx c)) = (o == some c) := by
  cases o with
  | none => rfl
  | some a => rw [some_beq, ← tx_eq]; rfl
def okO (o : Option (List Nat)) : Bool := match o with
  | none => true
  | some c => okC c
theorem in_lst {c : List Nat} {os : List (Option (List Nat))} (hc : okC c = true) (ho : ∀ o ∈ os, okO o = true) : inB (.str (tx c)) (.lst (os.map oD)) = some (os.any (· == some c)) := by
  have hd : dk 64 (.lst (os.map oD)) = true := by
    show ((os.map oD).all (dk 63)) = true
    rw [List.all_eq_true]
    intro d hd
    simp only [List.mem_map] at hd
    obtain ⟨o, h1, rfl⟩ := hd
    cases o with
    | none => rfl
    | some a => exact tx_ok (ho _ h1)
  obtain ⟨p, h1, h2, h3⟩ := dk_py hd
  have e : toPy (.lst (os.map oD)) = some (.list (os.map oP)) := by rw [toPy, toPys_o]; rfl
  rw [e] at h1
  cases h1
  have s1 := shaped_of h2 h3 (Nat.le_refl _)
  have s2 : SeqAt.shaped (.str (tx c)) = true := shaped_of (k := 0) (by simpa [PyData.canLay0] using tx_ok hc) (by simp [PyData.depth]) (by omega)
  unfold inB
  simp only [toPys_o, show toPy (.str (tx c)) = some (.str (tx c)) by simp [toPy], Option.bind_some, s1, s2, and_self, if_true, List.any_map]
  congr 2
  funext o
  exact eqv_o o c
theorem in_tup {c : List Nat} {os : List (Option (List Nat))} : inB (.str (tx c)) (.tup (os.map oD)) = some (os.any (· == some c)) := by
  show ((atomV (.str (tx c))).bind fun v => (atomsV (os.map oD)).bind fun vs => some (inV v vs)) = _
  rw [atomsV_o, show atomV (.str (tx c)) = some (.str (tx c)) from rfl]
  simp only [Option.bind_some, inV, List.any_map]
  congr 2
  funext o
  exact eqV_o o c
theorem in_of {x c : D} {b : Bool} (h : inB x c = some b) : inD x c = some (.bl b) := by unfold inD; rw [h]; rfl
theorem nin_of {x c : D} {b : Bool} (h : inB x c = some b) : ninD x c = some (.bl (!b)) := by unfold ninD; rw [h]; rfl
theorem in_dic {x : Str} {kvs : List (Key × D)} {b : Bool} (h : (getK kvs (.inr x)).isSome = b) : inB (.str x) (.dic kvs) = some b := by
  show (some (getK kvs (.inr x)).isSome) = _
  rw [h]
theorem ix_dic {x : Str} {kvs : List (Key × D)} {d : D} (h : getK kvs (.inr x) = some d) : ixD (.dic kvs) (.str x) = some d := h
theorem sl_lst_lh {ds : List D} {a b : Nat} {i j : Int} (ei : i = (a : Nat)) (ej : j = (b : Nat)) (h : flats ds = true) : slD (.lst ds) (some i) (some j) = some (.lst ((ds.drop a).take (b - a))) := by
  subst ei; subst ej
  simp only [slD, h, if_true]
  congr 2
  unfold cutL
  rw [HT.sIx_nat, HT.sIx_nat]
  by_cases q : a ≤ ds.length
  · rw [Nat.min_eq_left q]
    by_cases q2 : b ≤ ds.length
    · rw [Nat.min_eq_left q2]
    · rw [Nat.min_eq_right (by omega), List.take_of_length_le (by simp), List.take_of_length_le (by simp; omega)]
  · rw [Nat.min_eq_right (show ds.length ≤ a by omega), List.drop_of_length_le (Nat.le_refl _), List.drop_of_length_le (by omega)]; simp
theorem sl_tup_lh {ds : List D} {a b : Nat} {i j : Int} (ei : i = (a : Nat)) (ej : j = (b : Nat)) (h : flats ds = true) : slD (.tup ds) (some i) (some j) = some (.tup ((ds.drop a).take (b - a))) := by
  have := sl_lst_lh ei ej h
  simp only [slD, h, if_true, Option.some.injEq, D.lst.injEq] at this ⊢
  rw [this]
end DL

/-! DL18: three at once. -/
namespace DL
open PySem L2
theorem sg_three {i j k : Nat} {a b c : D} {m : Md} {ρ : Ev} {Φ : Ev → Prop} {s t u : Sl} (h : ρ[i]? = some s) (h2 : freeS s = true) (f : flat a = true) (h' : (ρ.set i (.fn a))[j]? = some t) (h2' : freeS t = true) (f' : flat b = true)
    (h'' : ((ρ.set i (.fn a)).set j (.fn b))[k]? = some u) (h2'' : freeS u = true) (f'' : flat c = true)
    (hΦ : Φ (((ρ.set i (.fn a)).set j (.fn b)).set k (.fn c))) : Sg (gT 3 (gsCons i (gsCons j (gsCons k gsNil)))) (.tup [a, b, c]) m ρ Φ := by
  refine ⟨_, ?_, hΦ⟩
  show (setS i a (effm m a) ρ).bind (fun ρ' => (setS j b (effm m b) ρ').bind fun ρ'' => (setS k c (effm m c) ρ'').bind fun ρ3 => some ρ3) = _
  rw [setS_flat h h2 f, Option.bind_some, setS_flat h' h2' f', Option.bind_some, setS_flat h'' h2'' f'']; rfl
theorem se_unpS {f : EF} {g : GF} {ρ ρ' : Ev} {d : D} (h : Vf f ρ d) (hg : ∀ m, Sg g d m ρ fun ρ1 => ρ1 = ρ') : Se (sUnp f g) ρ (.nx ρ') := by
  obtain ⟨m, h⟩ := h
  obtain ⟨ρ1, h1, rfl⟩ := hg m
  exact se_unp h h1
theorem se_unp3 {i j k : Nat} {f : EF} {a b c : D} {ρ : Ev} {s t u : Sl} (hv : Vf f ρ (.tup [a, b, c])) (h : ρ[i]? = some s) (h2 : freeS s = true) (f1 : flat a = true) (h' : (ρ.set i (.fn a))[j]? = some t) (h2' : freeS t = true) (f' : flat b = true)
    (h'' : ((ρ.set i (.fn a)).set j (.fn b))[k]? = some u) (h2'' : freeS u = true) (f'' : flat c = true) : Se (sUnp f (gT 3 (gsCons i (gsCons j (gsCons k gsNil))))) ρ (.nx (((ρ.set i (.fn a)).set j (.fn b)).set k (.fn c))) :=
  se_unpS hv fun m => sg_three h h2 f1 h' h2' f' h'' h2'' f'' rfl
end DL
namespace DL
open PySem L2
/-- goes on, to a state of which Φ holds -/
def Sy (g : SF) (ρ : Ev) (Φ : Ev → Prop) : Prop := ∃ ρ', Se g ρ (.nx ρ') ∧ Φ ρ'
theorem sx_bind {g h : SF} {ρ : Ev} {Φ Ψ : Ev → Prop} (h1 : Sy g ρ Φ) (h2 : ∀ ρ', Φ ρ' → Sx h ρ' Ψ) : Sx (bSeq g h) ρ Ψ := by
  obtain ⟨ρ', a, b⟩ := h1
  exact sx_seq a (h2 ρ' b)
theorem sr_bind {g h : SF} {ρ : Ev} {d : D} {Φ : Ev → Prop} (h1 : Sy g ρ Φ) (h2 : ∀ ρ', Φ ρ' → Sr h ρ' d) : Sr (bSeq g h) ρ d := by
  obtain ⟨ρ', a, b⟩ := h1
  exact sr_seq a (h2 ρ' b)
theorem sp_bind {g h : SF} {ρ : Ev} {Φ : Ev → Prop} {Ψ : D → Prop} (h1 : Sy g ρ Φ) (h2 : ∀ ρ', Φ ρ' → Sp h ρ' Ψ) : Sp (bSeq g h) ρ Ψ := by
  obtain ⟨ρ', a, b⟩ := h1
  exact sp_seq a (h2 ρ' b)
theorem sy_bind {g h : SF} {ρ : Ev} {Φ Ψ : Ev → Prop} (h1 : Sy g ρ Φ) (h2 : ∀ ρ', Φ ρ' → Sy h ρ' Ψ) : Sy (bSeq g h) ρ Ψ := by
  obtain ⟨ρ', a, b⟩ := h1
  obtain ⟨ρ2, c, d⟩ := h2 ρ' b
  exact ⟨ρ2, se_seq a c, d⟩
theorem sy_seq {g h : SF} {ρ ρ' : Ev} {Ψ : Ev → Prop} (h1 : Se g ρ (.nx ρ')) (h2 : Sy h ρ' Ψ) : Sy (bSeq g h) ρ Ψ := by
  obtain ⟨ρ2, c, d⟩ := h2
  exact ⟨ρ2, se_seq h1 c, d⟩
theorem sy_end {g : SF} {ρ ρ' : Ev} {Ψ : Ev → Prop} (h1 : Se g ρ (.nx ρ')) (h2 : Ψ ρ') : Sy g ρ Ψ := ⟨_, h1, h2⟩
theorem sy_if {c : Ev → Option Bool} {g h : SF} {ρ : Ev} {Φ : Ev → Prop} {b : Bool} (h1 : Te c ρ b) (ht : b = true → Sy g ρ Φ) (hf : b = false → Sy h ρ Φ) : Sy (sIf c g h) ρ Φ := by
  cases b with
  | true => obtain ⟨ρ2, h2, h3⟩ := ht rfl; exact ⟨_, se_if_t h1 rfl h2, h3⟩
  | false => obtain ⟨ρ2, h2, h3⟩ := hf rfl; exact ⟨_, se_if_f h1 rfl h2, h3⟩
theorem sy_nil {ρ : Ev} {Φ : Ev → Prop} (h : Φ ρ) : Sy bNil ρ Φ := ⟨_, se_nil, h⟩
theorem sy_for {f : IF} {g : GF} {b : SF} {ρ : Ev} {ds : List D} {m : Md} (P : Nat → Ev → Prop) (hx : Xe f ρ ds m) (hm : notOwn m = true) (h0 : P 0 ρ)
    (hs : ∀ i d ρ, ds[i]? = some d → P i ρ → Sg g d (effm m d) ρ fun ρ1 => Sx b ρ1 (P (i + 1))) : Sy (sFor f g b) ρ (P ds.length) := by
  obtain ⟨ρ', h1, h2⟩ := se_for P hx hm h0 fun i d ρ e p => by
    obtain ⟨ρ1, q1, ρ2, q2, q3⟩ := hs i d ρ e p
    exact ⟨ρ1, ρ2, q1, q2, q3⟩
  exact ⟨ρ', h1, h2⟩
theorem Sy.imp {g : SF} {ρ : Ev} {Φ Ψ : Ev → Prop} (h : Sy g ρ Φ) (hi : ∀ ρ', Φ ρ' → Ψ ρ') : Sy g ρ Ψ := by
  obtain ⟨ρ', a, b⟩ := h
  exact ⟨ρ', a, hi _ b⟩
end DL

/-! DL19: d.get(k, x) of a dict that the module has written, at texts told ahead. -/
namespace DL
open PySem L2 PySem.Spec PyProof.Rows
def KEnt (K : PySem.W.Frag) (d : Addr) (p : Str × Option Int) : Prop := match p.2 with
  | some i => ∃ t, PySem.W.nsIn K d p.1 = some (some (.int i t))
  | none => PySem.W.nsIn K d p.1 = some none
def KTab (K : PySem.W.Frag) (w : World) (mg : Str → Option Value) (x : Str) (tab : List (Str × Option Int)) : Prop :=
  ∃ d es n, mg x = some (.ref d) ∧ KDict K w d es n ∧ ∀ p ∈ tab, KEnt K d p
def kgetD (tab : List (Str × Option Int)) (a b : D) : Option D := match a, b with
  | .str z, .int e => (tab.find? fun p => p.1 == z).map fun p => .int (p.2.getD e)
  | _, _ => none
def tKget (K : PySem.W.Frag) (d : Addr) (ta tb : TE) : TE := fun σ H Q => ta σ H fun y H1 => tb σ H1 fun z H2 => ∃ (p : Str × Option Int) (e : Int), y = .str p.1 ∧ z = .int e ∧ KEnt K d p ∧ Q (.int (p.2.getD e)) H2
section
variable {X : Cx} {o e f : Expr} {apos cpos : Pos} {ty tx : TE} {d : Addr} {es : Array DictEntry} {n : Nat}
theorem pe_kget2 (D : KDict X.K X.w d es n) (ho : PE X o (tC (.ref d))) (he : PE X e ty) (hf : PE X f tx) (m : M2 X o "get" apos e f cpos) : PE X (.Call (.Attribute o "get" apos) [e, f] [] cpos) (tKget X.K d ty tx) := by
  refine ⟨fun pins s σ H Q I h => ?_⟩
  refine wpAny_Call_method m.base m.few m.line PySem.F.plainAttrs_dict PySem.F.slot_dict_get PySem.F.type_dict_get (thn (ho.run pins s σ H (fun x H1 => x = .ref d ∧ tKget X.K d ty tx σ H1 Q) I ⟨rfl, h⟩) fun u s1 ⟨x, H1, I1, rx, ex, q1⟩ => ?_)
  subst ex
  obtain rfl : u = Value.ref d := rx
  have mo := PySem.W.mapOf_K (prog := X.prog) (w := X.w) I1.kIn D.at_ D.lit
  refine ⟨mo.typeIs, mo.noDict, ?_⟩
  rw [m.trees]
  refine Calls.callWith_builtin rfl (Calls.evalArgs_plain (Calls.spliced_cons (thn (he.run pins s1 σ H1 _ I1 q1) fun iv s2 ⟨y, H2, I2, ry, q2⟩ =>
    Calls.spliced_cons (thn (hf.run pins s2 σ H2 _ I2 q2) fun fv s3 ⟨z, H3, I3, rz, p, i, ey, ez, hp, q3⟩ => Calls.spliced_nil ?_))))
  subst ey
  subst ez
  obtain ⟨t, rfl⟩ := (show ∃ t, iv = Value.str p.1 t from ry)
  have mo3 := PySem.W.mapOf_K (prog := X.prog) (w := X.w) I3.kIn D.at_ D.lit
  obtain ⟨z, oi⟩ := p
  cases oi with
  | none =>
    refine call_meetsIn PySem.F.slot_dict_get mo3.typeIs PySem.F.entry_dict_get (PySem.F.args_dict_get_3 _ _ _) (meets_dict_get_default (strKind X.prog X.w) d (strKind_is X.prog X.w z t) D.low fv) ⟨_, mo3, ?_⟩
    rw [PySem.W.find_K D.at_ hp]
    exact ⟨.int i, H3, I3.tok _, rz, q3⟩
  | some j =>
    obtain ⟨t2, hp⟩ := hp
    refine call_meetsIn PySem.F.slot_dict_get mo3.typeIs PySem.F.entry_dict_get (PySem.F.args_dict_get_3 _ _ _) (meets_dict_get_default (strKind X.prog X.w) d (strKind_is X.prog X.w z t) D.low fv) ⟨_, mo3, ?_⟩
    rw [PySem.W.find_K D.at_ hp]
    exact ⟨.int j, H3, I3.tok _, ⟨t2, rfl⟩, q3⟩
end
section
variable {cm : Nat → Addr} {X : Cx} {e f : Expr} {fe ff : EF} {x : Str} {npos apos cpos : Pos} {tab : List (Str × Option Int)}
theorem pu_kget (T : KTab X.K X.w X.mg x tab) (he : PuE cm X e fe) (hf : PuE cm X f ff) (hg : Gl X x := by rfl) (hd : (x == ("__debug__" : Str)) = false := by decide) (m : M2 X (.Name x npos) "get" apos e f cpos := by exact ⟨rfl, rfl, rfl, rfl⟩) :
    PuE cm X (.Call (.Attribute (.Name x npos) "get" apos) [e, f] [] cpos) (e2 (kgetD tab) fe ff) := by
  obtain ⟨d, es, n, hm, D, ht⟩ := T
  obtain ⟨te, pe, qe⟩ := he
  obtain ⟨tf, pf, qf⟩ := hf
  refine ⟨_, pe_kget2 D (pe_glob hg hm rfl hd) pe pf m, fun x B F ρ σ H c m Q ok hv hQ => ?_⟩
  obtain ⟨a, m1, b, m2, ea, eb, ec, rfl⟩ := e2_some hv
  refine qe x B F ρ σ H a m1 _ ok ea fun v B1 H1 g1 ok1 v1 => ?_
  refine qf x B1 F ρ σ H1 b m2 _ ok1 eb fun w B2 H2 g2 ok2 v2 => ?_
  unfold kgetD at ec
  split at ec
  · rename_i z i
    cases q : tab.find? (fun p => p.1 == z) with
    | none => rw [q] at ec; cases ec
    | some p =>
      rw [q] at ec
      cases ec
      have hz : p.1 = z := by
        have := List.find?_some q
        simpa using this
      refine ⟨p, i, ?_, v2.is ok2, ht p (List.mem_of_find?_eq_some q), hQ _ B2 H2 (g1.trans g2) ok2 rfl⟩
      rw [hz]
      exact (v1.mono g2).is ok2
  · cases ec
end
end DL
namespace DL
open PySem L2 PySem.Spec PyProof.Rows
def KTab0 (K : PySem.W.Frag) (w : World) (x : Str) (tab : List (Str × Option Int)) : Prop :=
  ∃ d es n, PySem.W.nsIn K mainGlobals x = some (some (.ref d)) ∧ KDict K w d es n ∧ ∀ p ∈ tab, KEnt K d p
theorem KTab0.at_ {K : PySem.W.Frag} {w : World} {x : Str} {tab : List (Str × Option Int)} {h : Heap} {mg : Str → Option Value} (T : KTab0 K w x tab) (X : K.In h) (G : h.Ns mainGlobals mg) : KTab K w mg x tab := by
  obtain ⟨d, es, n, h1, h2, h3⟩ := T
  exact ⟨d, es, n, PySem.W.mg_of X G h1, h2, h3⟩
theorem kents_nil {K : PySem.W.Frag} {d : Addr} : ∀ p ∈ ([] : List (Str × Option Int)), KEnt K d p := fun _ h => by cases h
theorem kents_cons {K : PySem.W.Frag} {d : Addr} {p : Str × Option Int} {r : List (Str × Option Int)} (h : KEnt K d p) (h2 : ∀ p ∈ r, KEnt K d p) : ∀ q ∈ p :: r, KEnt K d q := fun q hq => by
  rcases List.mem_cons.mp hq with rfl | hq
  · exact h
  · exact h2 q hq
theorem kent_some {K : PySem.W.Frag} {d : Addr} {x : Str} {i : Int} {t : Nat} (h : PySem.W.nsIn K d x = some (some (.int i t))) : KEnt K d (x, some i) := ⟨t, h⟩
theorem kent_none {K : PySem.W.Frag} {d : Addr} {x : Str} (h : PySem.W.nsIn K d x = some none) : KEnt K d (x, none) := h
theorem ktab_mk {K : PySem.W.Frag} {w : World} {x : Str} {tab : List (Str × Option Int)} {d : Addr} {es : Array DictEntry} {n : Nat} (h1 : PySem.W.nsIn K mainGlobals x = some (some (.ref d))) (h2 : K.lookup d = some ⟨.type "dict", none, .dict es n, #[]⟩) (hk : PySem.W.KeysLit w.params es.toList) (lo : (d == sysModules) = false) (h3 : ∀ p ∈ tab, KEnt K d p) : KTab0 K w x tab :=
  ⟨d, es, n, h1, ⟨h2, hk, lo⟩, h3⟩
end DL

/-! DL20: a param's own thing is locked while a statement runs. -/
namespace DL
open PySem L2
def lkK (K H : Hp) (fp : List Addr) : Hp := fun a => match K a with
  | some o => some o
  | none => if a ∈ fp then H a else tupOf H a
section
variable {Γ : Ga} {x : Fx} {B : Hp} {F : Nat → List Addr} {ρ : Ev} {σ : St} {H : Hp}
theorem lkK_same {K : Hp} {fp : List Addr} (k : Same K H) : Same (lkK K H fp) H := fun a u e => by
  unfold lkK at e
  split at e
  · rename_i o q; cases e; exact k a _ q
  · split at e
    · exact e
    · exact tupOf_same a u e
theorem lkK_old {K : Hp} {fp : List Addr} : Same K (lkK K H fp) := fun a u e => by unfold lkK; rw [e]
theorem lkK_at {K : Hp} {fp : List Addr} (k : Same K H) {a : Addr} (ha : a ∈ fp) : lkK K H fp a = H a := by
  unfold lkK
  split
  · rename_i o q; rw [k a _ q]
  · rw [if_pos ha]
theorem lkK_tup {K : Hp} {fp : List Addr} (k : Same K H) : Same (tupOf H) (lkK K H fp) := fun a u e => by
  unfold lkK
  split
  · rename_i o q
    rw [← tupOf_same a u e, k a _ q]
  · split
    · exact tupOf_same a u e
    · exact e
theorem lkK_none {K : Hp} {fp : List Addr} {a : Addr} (h : K a = none) (hf : a ∉ fp) (hb : ∃ u, H a = some u ∧ Box u) : lkK K H fp a = none := by
  unfold lkK
  rw [h]
  simp only [if_neg hf]
  obtain ⟨u, hu, bx⟩ := hb
  cases q : tupOf H a with
  | none => rfl
  | some w =>
    obtain ⟨e1, xs, rfl⟩ := tupOf_some q
    rw [hu] at e1
    cases e1
    exact bx.elim
theorem Ok.lock (o : Ok Γ x B F ρ σ H) {i : Nat} {d : D} (h : ρ[i]? = some (.ow d)) : Ok Γ { x with Kp := lkK x.Kp H (F i) } B (offF F i) (ρ.set i (.fz d)) σ H where
  kp := lkK_same o.kp
  bh := o.bh
  tup := o.tup
  born := o.born
  bk := fun a u e => by
    rcases o.bk a u e with q | q
    · exact .inl q
    · by_cases ha : a ∈ F i
      · rw [(o.fk i a ha).2.1] at e; cases e
      · show _ ∨ lkK x.Kp H (F i) a = none
        unfold lkK
        rw [q]
        simp only [if_neg ha]
        cases z : tupOf H a with
        | none => exact .inr rfl
        | some w =>
          obtain ⟨e1, xs, rfl⟩ := tupOf_some z
          rw [o.bh a u e] at e1
          cases e1
          exact .inl ⟨xs, rfl⟩
  dom := o.dom
  fk := fun j a ha => by
    obtain ⟨ha, hj⟩ := offF_sub ha
    obtain ⟨h1, h2, h3⟩ := o.fk j a ha
    exact ⟨lkK_none h1 (fun z => hj (o.dj j i a ha z)) (o.box ha), h2, h3⟩
  dj := fun j k a h1 h2 => o.dj j k a (offF_sub h1).1 (offF_sub h2).1
  nd := fun j => by unfold offF; split; exact List.nodup_nil; exact o.nd j
  out := fun j hj => by
    rw [List.length_set] at hj
    unfold offF
    split
    · rfl
    · exact o.out j hj
  len := by rw [List.length_set, o.len]
  at_ := fun j s hs => by
    have hlt := (List.getElem?_eq_some_iff.mp h).1
    by_cases q : j = i
    · subst q
      rw [List.getElem?_set_self hlt] at hs
      cases hs
      rw [show offF F j j = [] from if_pos rfl]
      obtain ⟨v, hv, ho, h0⟩ := o.at_ j _ h
      exact ⟨rfl, v, hv, ho.isIn (lkK_tup o.kp) (fun a ha => lkK_at o.kp ha), h0⟩
    · rw [List.getElem?_set_ne (Ne.symm q)] at hs
      rw [show offF F i j = F j from if_neg q]
      have r := o.at_ j s hs
      cases s with
      | fz => obtain ⟨q1, v', q2, q3, q4⟩ := r; exact ⟨q1, v', q2, q3.mono lkK_old, q4⟩
      | fa => obtain ⟨q1, v', q2, q3⟩ := r; exact ⟨q1, v', q2, q3.mono lkK_old⟩
      | _ => exact r
/-- slots that only read: as they were; none that stands in the locked part -/
def relL : Ev → Ev → Prop
  | [], [] => True
  | s :: r, s1 :: r1 => (match s1 with
    | .fz d1 => s = .fz d1
    | .fa _ => False
    | _ => True) ∧ relL r r1
  | _, _ => False
theorem relL_at : ∀ {a b : Ev}, relL a b → ∀ {j : Nat} {s : Sl}, b[j]? = some s → (∀ d1, s = .fz d1 → a[j]? = some (.fz d1)) ∧ ∀ d1, s ≠ .fa d1
  | [], [], _, _, _, h => by simp at h
  | s :: r, s1 :: r1, h, 0, t, e => by
    simp at e
    subst e
    have h1 := h.1
    refine ⟨fun d1 q => ?_, fun d1 q => ?_⟩
    · subst q; rw [show s = .fz d1 from h1]; rfl
    · subst q; exact h1
  | s :: r, s1 :: r1, h, j + 1, t, e => by
    simpa using relL_at h.2 (j := j) (s := t) (by simpa using e)
  | [], _ :: _, h, _, _, _ => h.elim
  | _ :: _, [], h, _, _, _ => h.elim
theorem Ok.unlock (o : Ok Γ x B F ρ σ H) {i : Nat} {d : D} (h : ρ[i]? = some (.ow d)) {B1 : Hp} {F1 : Nat → List Addr} {ρ1 : Ev} {σ1 : St} {H1 : Hp} (o1 : Ok Γ { x with Kp := lkK x.Kp H (F i) } B1 F1 ρ1 σ1 H1)
    (hr : relL (ρ.set i (.fz d)) ρ1) (hi : ρ1[i]? = some (.fz d)) : Ok Γ x B1 (onF F1 i (F i)) (ρ1.set i (.ow d)) σ1 H1 := by
  obtain ⟨v, hv, ho, h0⟩ := o.at_ i _ h
  have hkeep : ∀ a ∈ F i, H1 a = H a := fun a ha => by
    obtain ⟨u, hu, _⟩ := o.box ha
    rw [hu]
    exact o1.kp a u (by show lkK x.Kp H (F i) a = some u; rw [lkK_at o.kp ha, hu])
  have hkp : ∀ a ∈ F i, lkK x.Kp H (F i) a ≠ none := fun a ha z => by
    obtain ⟨u, hu, _⟩ := o.box ha
    rw [lkK_at o.kp ha, hu] at z
    cases z
  have tk : TupK H H1 := fun a xs e => o1.kp a _ (by
    show lkK x.Kp H (F i) a = _
    exact lkK_tup o.kp a _ (tupOf_tup e))
  have hlt := (List.getElem?_eq_some_iff.mp hi).1
  have dis : ∀ j a, a ∈ F1 j → a ∉ F i := fun j a ha z => hkp a z (o1.fk j a ha).1
  exact {
    kp := (lkK_old).trans o1.kp
    bh := o1.bh
    tup := o1.tup
    born := o1.born
    bk := fun a u e => by
      rcases o1.bk a u e with q | q
      · exact .inl q
      · exact .inr (Same.free lkK_old q)
    dom := o1.dom
    fk := fun j a ha => by
      unfold onF at ha
      split at ha
      · obtain ⟨h1, h2, h3⟩ := o.fk i a ha
        refine ⟨h1, ?_, h3⟩
        cases z : B1 a with
        | none => rfl
        | some u =>
          rcases o1.bk a u z with ⟨xs, rfl⟩ | q
          · obtain ⟨w, hw, bx⟩ := o.box ha
            have := o1.bh a _ z
            rw [hkeep a ha, hw] at this
            cases this
            exact bx.elim
          · exact absurd q (hkp a ha)
      · obtain ⟨h1, h2, h3⟩ := o1.fk j a ha
        exact ⟨Same.free lkK_old h1, h2, h3⟩
    dj := fun j k a h1 h2 => by
      unfold onF at h1 h2
      split at h1
      · split at h2
        · rename_i q1 q2; rw [q1, q2]
        · exact absurd h1 (dis k a h2)
      · split at h2
        · exact absurd h2 (dis j a h1)
        · exact o1.dj j k a h1 h2
    nd := fun j => by
      unfold onF
      split
      · exact o.nd i
      · exact o1.nd j
    out := fun j hj => by
      rw [List.length_set] at hj
      unfold onF
      split
      · omega
      · exact o1.out j hj
    len := by rw [List.length_set, o1.len]
    at_ := fun j s hs => by
      by_cases q : j = i
      · subst q
        rw [List.getElem?_set_self hlt] at hs
        cases hs
        rw [show onF F1 j (F j) j = F j from if_pos rfl]
        obtain ⟨_, v1, hv1, _, h01⟩ := o1.at_ j _ hi
        have ev : v1 = v := by
          have h01' : x.s0[j]? = some (some v1) := h01
          rw [h0] at h01'
          cases h01'; rfl
        subst ev
        exact ⟨v1, hv1, ho.keep tk hkeep, h0⟩
      · rw [List.getElem?_set_ne (Ne.symm q)] at hs
        rw [show onF F1 i (F i) j = F1 j from if_neg q]
        have r := o1.at_ j s hs
        obtain ⟨r1, r2⟩ := relL_at hr hs
        cases s with
        | fz d1 =>
          have e := r1 d1 rfl
          rw [List.getElem?_set_ne (Ne.symm q)] at e
          obtain ⟨_, v0, e1, e2, e3⟩ := o.at_ j _ e
          obtain ⟨q1, v', q2, q3, q4⟩ := r
          have ev : v' = v0 := by
            have q4' : x.s0[j]? = some (some v') := q4
            rw [e3] at q4'
            cases q4'; rfl
          subst ev
          exact ⟨q1, v', q2, e2, q4⟩
        | fa d1 => exact absurd rfl (r2 d1)
        | _ => exact r }
end
end DL
namespace DL
open PySem L2
def Fl.st : Fl → Ev
  | .nx ρ => ρ
  | .rt _ ρ => ρ
  | .bk ρ => ρ
  | .ct ρ => ρ
def Fl.put : Fl → Ev → Fl
  | .nx _, ρ => .nx ρ
  | .rt d _, ρ => .rt d ρ
  | .bk _, ρ => .bk ρ
  | .ct _, ρ => .ct ρ
open Classical in
noncomputable def unl (ρ0 : Ev) (i : Nat) (d : D) (r : Fl) : Option Fl := if relL ρ0 r.st ∧ r.st[i]? = some (.fz d) then some (r.put (r.st.set i (.ow d))) else none
/-- the statement runs while slot i's thing is only read -/
noncomputable def sLock (i : Nat) (g : SF) : SF := fun ρ => match ρ[i]? with
  | some (.ow d) => (g (ρ.set i (.fz d))).bind fun r => unl (ρ.set i (.fz d)) i d r
  | _ => none
theorem pus_lock (i : Nat) {cm : Nat → Addr} {X : Cx} {st : Stmt} {g : SF} (h : PuS cm X st g) : PuS cm X st (sLock i g) := by
  obtain ⟨t, p, q⟩ := h
  refine ⟨t, p, fun x B F ρ σ H r E ok hf hE => ?_⟩
  unfold sLock at hf
  split at hf
  · rename_i d hd
    cases e : g (ρ.set i (.fz d)) with
    | none => rw [e] at hf; cases hf
    | some r0 =>
      rw [e] at hf
      simp only [Option.bind_some] at hf
      unfold unl at hf
      split at hf
      · rename_i hc
        obtain ⟨hr, hi⟩ := hc
        cases hf
        refine q _ B _ _ σ H r0 E (ok.lock hd) e ?_
        cases r0 with
        | nx ρ1 => exact fun B1 F1 σ1 H1 s o1 => hE B1 _ σ1 H1 s (ok.unlock hd o1 hr hi)
        | bk ρ1 => exact fun B1 F1 σ1 H1 s o1 => hE B1 _ σ1 H1 s (ok.unlock hd o1 hr hi)
        | ct ρ1 => exact fun B1 F1 σ1 H1 s o1 => hE B1 _ σ1 H1 s (ok.unlock hd o1 hr hi)
        | rt c ρ1 => exact fun v B1 F1 σ1 H1 s o1 hv => hE v B1 _ σ1 H1 s (ok.unlock hd o1 hr hi) hv
      · cases hf
  · cases hf
theorem se_lock {i : Nat} {g : SF} {ρ : Ev} {d : D} {r : Fl} (h : ρ[i]? = some (.ow d)) (hg : Se g (ρ.set i (.fz d)) r) (hr : relL (ρ.set i (.fz d)) r.st) (hi : r.st[i]? = some (.fz d)) : Se (sLock i g) ρ (r.put (r.st.set i (.ow d))) := by
  unfold Se at *
  unfold sLock
  rw [h]
  simp only [hg, Option.bind_some]
  unfold unl
  rw [if_pos ⟨hr, hi⟩]
end DL

/-! DL21: defs that change some of their arguments. -/
namespace DL
open PySem L2
section
open Classical in
noncomputable def outF (H : Hp) (F : Nat → List Addr) : Hp := fun a => if ∃ i, a ∈ F i then none else H a
variable {H : Hp} {F : Nat → List Addr} {a : Addr}
theorem outF_in {i : Nat} (h : a ∈ F i) : outF H F a = none := if_pos ⟨i, h⟩
theorem outF_at (h : ∀ i, a ∉ F i) : outF H F a = H a := if_neg fun ⟨i, z⟩ => h i z
theorem outF_same : Same (outF H F) H := fun a u e => by
  unfold outF at e
  split at e
  · cases e
  · exact e
end
theorem get_ex {α : Type} {l : List α} {i : Nat} (h : i < l.length) : ∃ v, l[i]? = some v := ⟨l[i], List.getElem?_eq_getElem h⟩
/-- the arguments ahead of the call: those of the mask are one's own -/
structure InC (Γ : Ga) (ms : List Bool) (H : Hp) (F : Nat → List Addr) (ds : List D) (vs : List V) : Prop where
  len : vs.length = ds.length
  lm : ms.length = ds.length
  own : ∀ {i : Nat} {d : D} {v : V}, ms[i]? = some true → ds[i]? = some d → vs[i]? = some v → Own Γ H d v (F i)
  rd : ∀ {i : Nat} {d : D} {v : V}, ms[i]? = some false → ds[i]? = some d → vs[i]? = some v → Is Γ (outF H F) d v
  off : ∀ i : Nat, ms[i]? ≠ some true → F i = []
  nd : ∀ i, (F i).Nodup
  dj : ∀ i j a, a ∈ F i → a ∈ F j → i = j
/-- what is known behind the call -/
structure Left (Γ : Ga) (ms : List Bool) (H H' : Hp) (F F' : Nat → List Addr) (ds' : List D) (vs : List V) (B' : Hp) (r : D) (w : V) : Prop where
  out : Same (outF H F) H'
  len : ds'.length = ms.length
  own : ∀ {i : Nat} {d : D} {v : V}, ms[i]? = some true → ds'[i]? = some d → vs[i]? = some v → Own Γ H' d v (F' i)
  off : ∀ i : Nat, ms[i]? ≠ some true → F' i = []
  nd : ∀ i, (F' i).Nodup
  dj : ∀ i j a, a ∈ F' i → a ∈ F' j → i = j
  new : ∀ i a, a ∈ F' i → (∃ j, a ∈ F j) ∨ H a = none
  bh : Same B' H'
  bn : ∀ a u, B' a = some u → (∃ xs, u = .tup xs) ∨ H a = none
  bf : ∀ i a, a ∈ F' i → B' a = none
  dom : ∀ a, H' a = none → H a = none
  tup : ∀ a xs, H' a = some (.tup xs) → B' a = some (.tup xs)
  ret : Is Γ B' r w
def spC (K : PySem.W.Frag) (cm : Nat → Addr) (ω : World) (ms : List Bool) (f : List D → Option (D × List D)) : L2.Sp := fun vs H Q _ => ∃ ds F r ds', InC ⟨K, cm, ω⟩ ms H F ds vs ∧ f ds = some (r, ds') ∧
  ∀ w H' F' B', Left ⟨K, cm, ω⟩ ms H H' F F' ds' vs B' r w → Q w H'
def mslots (ms : List Bool) (ds : List D) : Ev := List.zipWith (fun (m : Bool) (d : D) => if m = true then Sl.ow d else Sl.fz d) ms ds
def entC (ms : List Bool) (n : Nat) (ds : List D) : Ev := mslots ms ds ++ List.replicate (n - ds.length) .emp
def outs : List Bool → Ev → Option (List D)
  | [], _ => some []
  | true :: ms, .ow d :: ρ => (outs ms ρ).map fun r => d :: r
  | false :: ms, _ :: ρ => (outs ms ρ).map fun r => .non :: r
  | _, _ => none
theorem outs_some : ∀ {ms : List Bool} {ρ : Ev} {ds : List D}, outs ms ρ = some ds → ds.length = ms.length ∧ ∀ {i : Nat} {d : D}, ms[i]? = some true → ds[i]? = some d → ρ[i]? = some (.ow d)
  | [], _, _, h => by cases h; exact ⟨rfl, fun h _ => by simp at h⟩
  | true :: ms, .ow c :: ρ, ds, h => by
    rw [outs] at h
    cases e : outs ms ρ with
    | none => rw [e] at h; cases h
    | some r =>
      rw [e] at h
      cases h
      obtain ⟨h1, h2⟩ := outs_some e
      refine ⟨by simp [h1], fun {i d} hm hd => ?_⟩
      cases i with
      | zero => cases hd; rfl
      | succ i => exact h2 (by simpa using hm) (by simpa using hd)
  | false :: ms, s :: ρ, ds, h => by
    rw [outs] at h
    cases e : outs ms ρ with
    | none => rw [e] at h; cases h
    | some r =>
      rw [e] at h
      cases h
      obtain ⟨h1, h2⟩ := outs_some e
      refine ⟨by simp [h1], fun {i d} hm hd => ?_⟩
      cases i with
      | zero => cases hm
      | succ i => exact h2 (by simpa using hm) (by simpa using hd)
  | true :: _, [], _, h => by simp [outs] at h
  | false :: _, [], _, h => by simp [outs] at h
  | true :: _, .emp :: _, _, h => by simp [outs] at h
  | true :: _, .fz _ :: _, _, h => by simp [outs] at h
  | true :: _, .fa _ :: _, _, h => by simp [outs] at h
  | true :: _, .fn _ :: _, _, h => by simp [outs] at h
  | true :: _, .on _ :: _, _, h => by simp [outs] at h
/-- what the body b says of the arguments: what is given back, the changed ones behind -/
def fnC (n : Nat) (ms : List Bool) (b : SF) : List D → Option (D × List D) := fun ds => if ds.length = ms.length then (b (entC ms n ds)).bind fun r => match r with
    | .rt c ρ => (outs ms ρ).map fun d' => (c, d')
    | .nx ρ => (outs ms ρ).map fun d' => (.non, d')
    | _ => none else none
theorem mslots_length {ms : List Bool} {ds : List D} (h : ms.length = ds.length) : (mslots ms ds).length = ds.length := by simp [mslots, h]
theorem mslots_get {ms : List Bool} {ds : List D} {i : Nat} {s : Sl} (h : (mslots ms ds)[i]? = some s) : ∃ m d, ms[i]? = some m ∧ ds[i]? = some d ∧ s = if m = true then Sl.ow d else .fz d := by
  unfold mslots at h
  rw [List.getElem?_zipWith] at h
  cases e1 : ms[i]? with
  | none => rw [e1] at h; cases h
  | some m =>
    cases e2 : ds[i]? with
    | none => rw [e1, e2] at h; cases h
    | some d => rw [e1, e2] at h; cases h; exact ⟨m, d, rfl, rfl, rfl⟩
theorem ok_startC {K : PySem.W.Frag} {cm : Nat → Addr} {w : World} {H : Hp} {F : Nat → List Addr} {ms : List Bool} {ds : List D} {vs : List V} {N : List Str} (h : InC ⟨K, cm, w⟩ ms H F ds vs) (hl : ds.length ≤ N.length) :
    Ok ⟨K, cm, w⟩ ⟨H, outF H F, fun a => ∃ i, a ∈ F i, L2.start N vs⟩ (tupOf H) F (entC ms N.length ds) (L2.start N vs) H where
  kp := outF_same
  bh := tupOf_same
  tup := fun a xs e => tupOf_tup e
  born := fun a o e => .inl (tupOf_some e).2
  bk := fun a o e => .inl (tupOf_some e).2
  dom := fun a e => e
  fk := fun i a ha => by
    refine ⟨outF_in ha, ?_, .inl ⟨i, ha⟩⟩
    have hm : ms[i]? = some true := Classical.byContradiction fun z => by rw [h.off i z] at ha; cases ha
    have hi := (List.getElem?_eq_some_iff.mp hm).1
    obtain ⟨di, e1⟩ := get_ex (l := ds) (i := i) (by rw [← h.lm]; exact hi)
    obtain ⟨vi, e2⟩ := get_ex (l := vs) (i := i) (by rw [h.len, ← h.lm]; exact hi)
    obtain ⟨u, hu, bx⟩ := (h.own hm e1 e2).box a ha
    cases q : tupOf H a with
    | none => rfl
    | some w =>
      obtain ⟨e1, xs, rfl⟩ := tupOf_some q
      rw [hu] at e1
      cases e1
      exact bx.elim
  dj := h.dj
  nd := h.nd
  out := fun i hi => h.off i fun z => by
    have := (List.getElem?_eq_some_iff.mp z).1
    unfold entC at hi
    rw [List.length_append, mslots_length h.lm] at hi
    have := h.lm
    omega
  len := by
    unfold entC L2.start
    rw [List.length_append, mslots_length h.lm]
    simp [h.len]
  at_ := fun i s e => by
    unfold entC at e
    by_cases q : i < ds.length
    · rw [List.getElem?_append_left (by rw [mslots_length h.lm]; exact q)] at e
      obtain ⟨m, d, hm, hd, rfl⟩ := mslots_get e
      obtain ⟨vi, ev⟩ := get_ex (l := vs) (i := i) (by rw [h.len]; exact q)
      have e0 : (L2.start N vs)[i]? = some (some vi) := by
        unfold L2.start
        rw [List.getElem?_append_left (by simpa [h.len] using q), List.getElem?_map, ev]; rfl
      cases m with
      | true => exact ⟨_, e0, h.own hm hd ev, e0⟩
      | false => exact ⟨h.off i (by rw [hm]; simp), _, e0, h.rd hm hd ev, e0⟩
    · rw [List.getElem?_append_right (by rw [mslots_length h.lm]; omega)] at e
      have := List.mem_of_getElem? e
      rw [List.eq_of_mem_replicate this]
      refine h.off i fun z => ?_
      have := (List.getElem?_eq_some_iff.mp z).1
      have := h.lm
      omega
open Classical in
noncomputable def maskF (ms : List Bool) (F : Nat → List Addr) : Nat → List Addr := fun i => if (ms[i]? : Option Bool) = some true then F i else []
theorem maskF_mem {ms : List Bool} {F : Nat → List Addr} {i : Nat} {a : Addr} (h : a ∈ maskF ms F i) : a ∈ F i ∧ ms[i]? = some true := by
  unfold maskF at h
  split at h
  · rename_i q; exact ⟨h, q⟩
  · cases h
theorem ok_leftC {K : PySem.W.Frag} {cm : Nat → Addr} {ω : World} {H H' B : Hp} {ms : List Bool} {ds : List D} {vs : List V} {F0 : Nat → List Addr} {N : List Str} {F : Nat → List Addr} {ρ : Ev} {σ : St} {ds' : List D} {r : D} {w : V} (hi : InC ⟨K, cm, ω⟩ ms H F0 ds vs) (hl : ds.length ≤ N.length)
    (o : Ok ⟨K, cm, ω⟩ ⟨H, outF H F0, fun a => ∃ i, a ∈ F0 i, L2.start N vs⟩ B F ρ σ H') (hd : outs ms ρ = some ds') (hr : Is ⟨K, cm, ω⟩ B r w) : Left ⟨K, cm, ω⟩ ms H H' F0 (maskF ms F) ds' vs B r w := by
  obtain ⟨h1, h2⟩ := outs_some hd
  refine ⟨o.kp, h1, fun {i d v} hm hd hv => ?_, fun i z => if_neg z, fun i => ?_, fun i j a ha hb => o.dj i j a (maskF_mem ha).1 (maskF_mem hb).1, fun i a ha => (o.fk i a (maskF_mem ha).1).2.2, o.bh, o.born, fun i a ha => (o.fk i a (maskF_mem ha).1).2.1, o.dom, o.tup, hr⟩
  · obtain ⟨v', q1, q2, q3⟩ := o.at_ i _ (h2 hm hd)
    have q3' : (L2.start N vs)[i]? = some (some v') := q3
    have e0 : (L2.start N vs)[i]? = some (some v) := by
      have := (List.getElem?_eq_some_iff.mp hv).1
      unfold L2.start
      rw [List.getElem?_append_left (by simpa using this), List.getElem?_map, hv]; rfl
    rw [e0] at q3'
    cases q3'
    rw [show maskF ms F i = F i from if_pos hm]
    exact q2
  · unfold maskF
    split
    · exact o.nd i
    · exact List.nodup_nil
theorem fn_chg {P : Program} {w : World} {K : PySem.W.Frag} {mg : Str → Option Value} {base : Heap} {cm : Nat → Addr} {x qual : Str} {st : Stmt} {f : Addr} {fd : FuncData} {N ps : List Str} {k : Nat} {ms : List Bool} {b : SF} (F : Fun K x qual st f fd) (S : FnScope N ps (defScope st)) (hN : ps.length ≤ N.length) (hm : ms.length = ps.length)
    (hb : ∀ (cdv : Value) (A : Around) (outer : List Env) (s : Shared) (H : Hp) (E : XK), Room k (A.deeper (PyProof.Rows.envOfC qual (defScope st) s.heap.objs.size f cdv)) → PuB cm (cxOf CX0 P w K mg base N qual (defScope st) f cdv A outer s H E).nox (defBody st) b) :
    FnOk P w K mg base CX0 (k + 1) f fd ps (spC K cm w ms (fnC N.length ms b)) := by
  refine F.ok S (fun vs H Q E h => ?_) (fun cdv A outer s H vs Q E hr h => ?_)
  · obtain ⟨ds, F0, r, ds', h1, _⟩ := h
    rw [h1.len, ← h1.lm, hm]
  · obtain ⟨ds, F0, r, ds', h1, h4, h5⟩ := h
    have hl : ds.length ≤ N.length := by rw [← h1.lm, hm]; exact hN
    unfold fnC at h4
    split at h4
    · obtain ⟨t, p, q⟩ := hb cdv A outer s H E hr
      cases e1 : b (entC ms N.length ds) with
      | none => rw [e1] at h4; cases h4
      | some rr =>
        rw [e1] at h4
        simp only [Option.bind_some] at h4
        refine ⟨t, p, q _ _ _ _ _ _ rr _ (ok_startC (N := N) h1 hl) e1 ?_⟩
        cases rr with
        | nx ρ =>
          simp only at h4
          cases z : outs ms ρ with
          | none => rw [z] at h4; cases h4
          | some c => rw [z] at h4; cases h4; exact fun B F σ H' s ok => h5 _ _ _ _ (ok_leftC h1 hl ok z (w := .non) rfl)
        | rt c ρ =>
          simp only at h4
          cases z : outs ms ρ with
          | none => rw [z] at h4; cases h4
          | some c2 => rw [z] at h4; cases h4; exact fun v B F σ H' s ok hi => h5 _ _ _ _ (ok_leftC h1 hl ok z hi)
        | bk => cases h4
        | ct => cases h4
    · cases h4
end DL

/-! DL22: calls that change things of one's own. -/
namespace DL
open PySem L2
/-- an argument: the whole own thing of a slot, or something read -/
inductive Ag where
  | own (i : Nat) | rd (d : D) (m : Md)
def Ag.isOwn : Ag → Bool
  | .own _ => true
  | .rd _ _ => false
def AgV (Γ : Ga) (x : Fx) (σ : St) (B H : Hp) : Ag → V → Prop
  | .own i, v => σ[i]? = some (some v)
  | .rd d m, v => Val Γ x m B H d v
abbrev CF := Ev → Option (List Ag)
def PuC (cm : Nat → Addr) (X : Cx) (es : List Expr) (f : CF) : Prop :=
  ∃ t, PA X es t ∧ ∀ (x : Fx) (B : Hp) (F : Nat → List Addr) (ρ : Ev) (σ : St) (H : Hp) (as : List Ag) (Q : List V → Hp → Prop), Ok (gx X cm) x B F ρ σ H → f ρ = some as →
    (∀ vs B' H', Gr B H B' H' → Ok (gx X cm) x B' F ρ σ H' → Paired (AgV (gx X cm) x σ B' H') as vs → Q vs H') → t σ H Q
def cNil : CF := fun _ => some []
def cOwn (i : Nat) (g : CF) : CF := fun ρ => (ownD ρ i).bind fun _ => (g ρ).map fun r => .own i :: r
def cRd (f : EF) (g : CF) : CF := fun ρ => (f ρ).bind fun a => (g ρ).map fun r => .rd a.1 a.2 :: r
section
variable {cm : Nat → Addr} {X : Cx} {pos : Pos} {e : Expr} {es : List Expr}
theorem puc_nil : PuC cm X [] cNil := ⟨_, pa_nil, fun x B F ρ σ H ds Q ok hf hQ => by cases hf; exact hQ [] B H (Gr.refl B H) ok .nil⟩
theorem AgV.mono {Γ : Ga} {x : Fx} {σ : St} {B H B' H' : Hp} (g : Gr B H B' H') {a : Ag} {v : V} (h : AgV Γ x σ B H a v) : AgV Γ x σ B' H' a v := by
  cases a with
  | own i => exact h
  | rd d m => exact Val.mono g h
theorem puc_own (i : Nat) {x : Str} {p1 : Pos} {g : CF} (hr : PuC cm X es g) (hN : X.N[i]? = some x := by rfl) (hv : Vis X.env.scope x := by first | exact Or.inl rfl | exact Or.inr (Or.inl rfl) | exact Or.inr (Or.inr rfl))
    (hd : (x == ("__debug__" : Str)) = false := by decide) (hcd : (x == ("__classdict__" : Str)) = false := by decide) (hs : starEach (.Name x p1 :: es) X.env = (false, eval (.Name x p1) X.env) :: starEach es X.env := by rfl) : PuC cm X (.Name x p1 :: es) (cOwn i g) := by
  obtain ⟨u, p2, q2⟩ := hr
  refine ⟨_, pa_cons (pe_var hN hv hd hcd) p2 hs, fun z B F ρ σ H as Q ok hf hQ => ?_⟩
  unfold cOwn at hf
  cases e1 : ownD ρ i with
  | none => rw [e1] at hf; cases hf
  | some d =>
    rw [e1] at hf
    simp only [Option.bind_some] at hf
    cases e2 : g ρ with
    | none => rw [e2] at hf; cases hf
    | some r =>
      rw [e2] at hf
      cases hf
      obtain ⟨v, hσ, _⟩ := ok.own e1
      refine ⟨v, hσ, ?_⟩
      exact q2 z B F ρ σ H r _ ok e2 fun vs B' H' g1 ok1 hvs => hQ (v :: vs) B' H' g1 ok1 (.cons hσ hvs)
theorem puc_rd {f : EF} {g : CF} (ha : PuE cm X e f) (hr : PuC cm X es g) (hs : starEach (e :: es) X.env = (false, eval e X.env) :: starEach es X.env := by rfl) : PuC cm X (e :: es) (cRd f g) := by
  obtain ⟨t, p, q⟩ := ha
  obtain ⟨u, p2, q2⟩ := hr
  refine ⟨_, pa_cons p p2 hs, fun z B F ρ σ H as Q ok hf hQ => ?_⟩
  unfold cRd at hf
  cases e1 : f ρ with
  | none => rw [e1] at hf; cases hf
  | some a =>
    rw [e1] at hf
    simp only [Option.bind_some] at hf
    cases e2 : g ρ with
    | none => rw [e2] at hf; cases hf
    | some r =>
      rw [e2] at hf
      cases hf
      refine q z B F ρ σ H a.1 a.2 _ ok e1 fun v B1 H1 g1 ok1 hv => ?_
      exact q2 z B1 F ρ σ H1 r _ ok1 e2 fun vs B' H' g2 ok2 hvs => hQ (v :: vs) B' H' (g1.trans g2) ok2 (.cons (Val.mono g2 hv) hvs)
end
/-- the place of the argument that is slot k -/
def ixOf : List Ag → Nat → Option Nat
  | [], _ => none
  | .own i :: r, k => if i = k then some 0 else (ixOf r k).map (· + 1)
  | .rd _ _ :: r, k => (ixOf r k).map (· + 1)
def osl : List Ag → List Nat
  | [] => []
  | .own i :: r => i :: osl r
  | .rd _ _ :: r => osl r
theorem ixOf_some : ∀ {as : List Ag} {k j : Nat}, ixOf as k = some j → as[j]? = some (.own k)
  | [], _, _, h => by simp [ixOf] at h
  | .own i :: r, k, j, h => by
    rw [ixOf] at h
    split at h
    · rename_i q; cases h; subst q; rfl
    · cases e : ixOf r k with
      | none => rw [e] at h; cases h
      | some j' => rw [e] at h; cases h; simpa using ixOf_some e
  | .rd _ _ :: r, k, j, h => by
    rw [ixOf] at h
    cases e : ixOf r k with
    | none => rw [e] at h; cases h
    | some j' => rw [e] at h; cases h; simpa using ixOf_some e
theorem ixOf_none : ∀ {as : List Ag} {k : Nat}, ixOf as k = none → ∀ j : Nat, as[j]? ≠ some (Ag.own k)
  | [], _, _, j => by simp
  | .own i :: r, k, h, j => by
    rw [ixOf] at h
    split at h
    · cases h
    · rename_i q
      cases e : ixOf r k with
      | some j' => rw [e] at h; cases h
      | none =>
        cases j with
        | zero => intro z; cases z; exact q rfl
        | succ j => exact ixOf_none e j
  | .rd _ _ :: r, k, h, j => by
    rw [ixOf] at h
    cases e : ixOf r k with
    | some j' => rw [e] at h; cases h
    | none =>
      cases j with
      | zero => intro z; cases z
      | succ j => exact ixOf_none e j
theorem osl_mem : ∀ {as : List Ag} {j i : Nat}, as[j]? = some (.own i) → i ∈ osl as
  | [], _, _, h => by simp at h
  | .own i :: r, 0, k, h => by cases h; simp [osl]
  | .own i :: r, j + 1, k, h => by simp only [osl, List.mem_cons]; exact .inr (osl_mem (by simpa using h))
  | .rd _ _ :: r, 0, k, h => by cases h
  | .rd _ _ :: r, j + 1, k, h => osl_mem (as := r) (j := j) (by simpa using h)
theorem ixOf_of : ∀ {as : List Ag} {j k : Nat}, (osl as).Nodup → as[j]? = some (.own k) → ixOf as k = some j
  | [], _, _, _, h => by simp at h
  | .own i :: r, 0, k, _, h => by cases h; simp [ixOf]
  | .own i :: r, j + 1, k, n, h => by
    simp only [osl, List.nodup_cons] at n
    have h' : r[j]? = some (.own k) := by simpa using h
    have hk := osl_mem h'
    rw [ixOf, if_neg (fun z => n.1 (by rw [z]; exact hk)), ixOf_of n.2 h']; rfl
  | .rd _ _ :: r, 0, k, _, h => by cases h
  | .rd _ _ :: r, j + 1, k, n, h => by
    rw [ixOf, ixOf_of (as := r) (j := j) n (by simpa using h)]; rfl
/-- what the arguments are -/
def dsOf (ρ : Ev) : List Ag → Option (List D)
  | [] => some []
  | .own i :: r => (ownD ρ i).bind fun d => (dsOf ρ r).map fun ds => d :: ds
  | .rd d m :: r => if (flat d || notOwn m) = true then (dsOf ρ r).map fun ds => d :: ds else none
def putS (s : Sl) (d : D) : Sl := match s with
  | .ow _ => .ow d
  | .on _ => .on d
  | s => s
/-- the slots behind the call -/
def backC (ρ : Ev) (as : List Ag) (ds' : List D) : Ev := ρ.mapIdx fun k s => match ixOf as k with
  | some j => match ds'[j]? with
    | some d => putS s d
    | none => s
  | none => s
theorem dsOf_own {ρ : Ev} : ∀ {as : List Ag} {ds : List D} {j i : Nat} {d : D}, dsOf ρ as = some ds → as[j]? = some (.own i) → ds[j]? = some d → ownD ρ i = some d
  | [], _, _, _, _, _, h, _ => by simp at h
  | .own i0 :: r, ds, j, i, d, h, h1, h2 => by
    rw [dsOf] at h
    cases e1 : ownD ρ i0 with
    | none => rw [e1] at h; cases h
    | some c =>
      cases e2 : dsOf ρ r with
      | none => rw [e1, e2] at h; cases h
      | some cs =>
        rw [e1, e2] at h
        cases h
        cases j with
        | zero => cases h1; cases h2; exact e1
        | succ j => exact dsOf_own e2 (by simpa using h1) (by simpa using h2)
  | .rd c m :: r, ds, j, i, d, h, h1, h2 => by
    rw [dsOf] at h
    split at h
    · cases e2 : dsOf ρ r with
      | none => rw [e2] at h; cases h
      | some cs =>
        rw [e2] at h
        cases h
        cases j with
        | zero => cases h1
        | succ j => exact dsOf_own e2 (by simpa using h1) (by simpa using h2)
    · cases h
theorem dsOf_rd {ρ : Ev} : ∀ {as : List Ag} {ds : List D} {j : Nat} {d c : D} {m : Md}, dsOf ρ as = some ds → as[j]? = some (.rd c m) → ds[j]? = some d → d = c ∧ (flat d || notOwn m) = true
  | [], _, _, _, _, _, _, h, _ => by simp at h
  | .own i0 :: r, ds, j, d, c, m, h, h1, h2 => by
    rw [dsOf] at h
    cases e1 : ownD ρ i0 with
    | none => rw [e1] at h; cases h
    | some c =>
      cases e2 : dsOf ρ r with
      | none => rw [e1, e2] at h; cases h
      | some cs =>
        rw [e1, e2] at h
        cases h
        cases j with
        | zero => cases h1
        | succ j => exact dsOf_rd e2 (by simpa using h1) (by simpa using h2)
  | .rd c0 m0 :: r, ds, j, d, c, m, h, h1, h2 => by
    rw [dsOf] at h
    split at h
    · rename_i q
      cases e2 : dsOf ρ r with
      | none => rw [e2] at h; cases h
      | some cs =>
        rw [e2] at h
        cases h
        cases j with
        | zero => cases h1; cases h2; exact ⟨rfl, q⟩
        | succ j => exact dsOf_rd e2 (by simpa using h1) (by simpa using h2)
    · cases h
theorem dsOf_len {ρ : Ev} : ∀ {as : List Ag} {ds : List D}, dsOf ρ as = some ds → ds.length = as.length
  | [], _, h => by cases h; rfl
  | .own i0 :: r, ds, h => by
    rw [dsOf] at h
    cases e1 : ownD ρ i0 with
    | none => rw [e1] at h; cases h
    | some c =>
      cases e2 : dsOf ρ r with
      | none => rw [e1, e2] at h; cases h
      | some cs => rw [e1, e2] at h; cases h; simp [dsOf_len e2]
  | .rd c m :: r, ds, h => by
    rw [dsOf] at h
    split at h
    · cases e2 : dsOf ρ r with
      | none => rw [e2] at h; cases h
      | some cs => rw [e2] at h; cases h; simp [dsOf_len e2]
    · cases h
theorem backC_len {ρ : Ev} {as : List Ag} {ds' : List D} : (backC ρ as ds').length = ρ.length := by simp [backC]
theorem backC_other {ρ : Ev} {as : List Ag} {ds' : List D} {k : Nat} (h : ixOf as k = none) : (backC ρ as ds')[k]? = ρ[k]? := by
  unfold backC
  rw [List.getElem?_mapIdx]
  simp only [h]
  cases ρ[k]? <;> rfl
theorem backC_at {ρ : Ev} {as : List Ag} {ds' : List D} {k j : Nat} {d : D} {s : Sl} (h : ixOf as k = some j) (hd : ds'[j]? = some d) (hs : ρ[k]? = some s) : (backC ρ as ds')[k]? = some (putS s d) := by
  unfold backC
  rw [List.getElem?_mapIdx]
  simp only [h, hd, hs]
  rfl
/-- one own argument: its slot is set -/
theorem backC_one {ρ : Ev} {as : List Ag} {ds' : List D} {i j : Nat} {d : D} {s : Sl} (hs : ρ[i]? = some s) (ha : ixOf as i = some j) (ho : osl as = [i]) (hd : ds'[j]? = some d) : backC ρ as ds' = ρ.set i (putS s d) := by
  apply List.ext_getElem?
  intro k
  by_cases q : i = k
  · subst q
    rw [backC_at ha hd hs, List.getElem?_set_self (List.getElem?_eq_some_iff.mp hs).1]
  · rw [List.getElem?_set_ne q, backC_other]
    cases e : ixOf as k with
    | none => rfl
    | some j' =>
      have := osl_mem (ixOf_some e)
      rw [ho] at this
      simp only [List.mem_cons, List.not_mem_nil, or_false] at this
      exact absurd this.symm q
section
variable {Γ : Ga} {x : Fx} {B : Hp} {F : Nat → List Addr} {ρ : Ev} {σ : St} {H H' : Hp}
def agF (F : Nat → List Addr) (as : List Ag) : Nat → List Addr := fun j => match as[j]? with
  | some (.own i) => F i
  | _ => []
theorem agF_own {as : List Ag} {j i : Nat} (h : as[j]? = some (.own i)) : agF F as j = F i := by unfold agF; rw [h]
theorem agF_mem {as : List Ag} {j : Nat} {a : Addr} (h : a ∈ agF F as j) : ∃ i, as[j]? = some (.own i) ∧ a ∈ F i := by
  unfold agF at h
  split at h
  · rename_i i e; exact ⟨i, e, h⟩
  · cases h
theorem paired_at {α β : Type} {G : α → β → Prop} : ∀ {l : List α} {m : List β} {i : Nat} {a : α} {b : β}, Paired G l m → l[i]? = some a → m[i]? = some b → G a b
  | _, _, _, _, _, .nil, h, _ => by simp at h
  | _, _, 0, _, _, .cons r t, h, h2 => by cases h; cases h2; exact r
  | _, _, i + 1, _, _, .cons r t, h, h2 => paired_at t (by simpa using h) (by simpa using h2)
theorem Ok.inC (o : Ok Γ x B F ρ σ H) {as : List Ag} {ds : List D} {vs : List V} (hd : dsOf ρ as = some ds) (hv : Paired (AgV Γ x σ B H) as vs) (hn : (osl as).Nodup) : InC Γ (as.map Ag.isOwn) H (agF F as) ds vs := by
  have hb : ∀ {a i}, a ∈ F i → ∃ u, H a = some u ∧ Box u := fun h => o.box h
  have am : ∀ {i : Nat} {b : Bool}, (as.map Ag.isOwn)[i]? = some b → ∃ g, as[i]? = some g ∧ Ag.isOwn g = b := fun {i b} h => by
    rw [List.getElem?_map] at h
    cases e : as[i]? with
    | none => rw [e] at h; cases h
    | some g => rw [e] at h; cases h; exact ⟨g, rfl, rfl⟩
  refine ⟨by rw [← paired_len hv, dsOf_len hd], by rw [List.length_map, dsOf_len hd], fun {i d v} hm hdi hvi => ?_, fun {i d v} hm hdi hvi => ?_, fun i hm => ?_, fun i => ?_, fun i j a ha hb => ?_⟩
  · obtain ⟨g, eg, hg⟩ := am hm
    cases g with
    | rd => cases hg
    | own k =>
      have e1 := dsOf_own hd eg hdi
      obtain ⟨v', q1, q2⟩ := o.own e1
      have : σ[k]? = some (some v) := paired_at (G := AgV Γ x σ B H) hv eg hvi
      rw [q1] at this
      cases this
      rw [agF_own eg]
      exact q2
  · obtain ⟨g, eg, hg⟩ := am hm
    cases g with
    | own => cases hg
    | rd c m =>
      obtain ⟨rfl, hf⟩ := dsOf_rd hd eg hdi
      have hval : Val Γ x m B H d v := paired_at (G := AgV Γ x σ B H) hv eg hvi
      have keep : ∀ {R : Hp}, Same R H → (∀ a u j, R a = some u → a ∈ agF F as j → False) → Same R (outF H (agF F as)) := fun {R} hR hn a u e => by
        rw [outF_at (fun j z => hn a u j e z)]
        exact hR a u e
      have sT : Same (tupOf H) (outF H (agF F as)) := keep tupOf_same fun a u j e z => by
        obtain ⟨i', _, z⟩ := agF_mem z
        obtain ⟨e1, xs, rfl⟩ := tupOf_some e
        obtain ⟨w, hw, bx⟩ := hb z
        rw [e1] at hw; cases hw; exact bx.elim
      have sB : Same B (outF H (agF F as)) := keep o.bh fun a u j e z => by
        obtain ⟨i', _, z⟩ := agF_mem z
        rw [(o.fk i' a z).2.1] at e; cases e
      have sK : Same x.Kp (outF H (agF F as)) := keep o.kp fun a u j e z => by
        obtain ⟨i', _, z⟩ := agF_mem z
        rw [(o.fk i' a z).1] at e; cases e
      by_cases q : flat d = true
      · exact (Is.ofFlat q (Val.is o hval)).mono sT
      · rw [Bool.not_eq_true] at q
        simp only [q, Bool.false_or] at hf
        cases m with
        | own => cases hf
        | par => exact Is.mono sK hval
        | new => exact Is.mono sB hval
  · cases e : as[i]? with
    | none => unfold agF; rw [e]
    | some g =>
      cases g with
      | rd => unfold agF; rw [e]
      | own k => exact absurd (by rw [List.getElem?_map, e]; rfl) hm
  · unfold agF
    split
    · exact o.nd _
    · exact List.nodup_nil
  · obtain ⟨i', e1, z1⟩ := agF_mem ha
    obtain ⟨j', e2, z2⟩ := agF_mem hb
    have := o.dj i' j' a z1 z2
    subst this
    have q1 := ixOf_of hn e1
    have q2 := ixOf_of hn e2
    rw [q1] at q2
    exact Option.some.inj q2
def newF (F F' : Nat → List Addr) (as : List Ag) : Nat → List Addr := fun k => match ixOf as k with
  | some j => F' j
  | none => F k
theorem Ok.left (o : Ok Γ x B F ρ σ H) {as : List Ag} {ds ds' : List D} {vs : List V} {r : D} {w : V} {F' : Nat → List Addr} {B' : Hp} (hd : dsOf ρ as = some ds) (hv : Paired (AgV Γ x σ B H) as vs) (hn : (osl as).Nodup) (hkd : ∀ i ∈ osl as, ∀ k ∈ osl as, i = k ∨ ∃ d, ρ[i]? = some (.on d))
    (L : Left Γ (as.map Ag.isOwn) H H' (agF F as) F' ds' vs B' r w) : ∃ B2, Same B B2 ∧ Ok Γ x B2 (newF F F' as) (backC ρ as ds') σ H' ∧ Is Γ B2 r w := by
  have isin : ∀ {a k j}, a ∈ agF F as j → a ∈ F k → ixOf as k = some j := fun {a k j} h1 h2 => by
    obtain ⟨i', e1, z1⟩ := agF_mem h1
    have := o.dj i' k a z1 h2
    subst this
    exact ixOf_of hn e1
  have hk : ∀ a u, (∀ j, a ∉ agF F as j) → H a = some u → H' a = some u := fun a u ha e => L.out a u (by rw [outF_at ha]; exact e)
  have nbox : ∀ {j a}, a ∈ agF F as j → ∀ xs, H a ≠ some (.tup xs) := fun {j a} ha xs e => by
    obtain ⟨i', _, z⟩ := agF_mem ha
    obtain ⟨u, hu, bx⟩ := o.box z
    rw [hu] at e; cases e; exact bx.elim
  have tk : TupK H H' := fun a xs e => hk a _ (fun j z => nbox z xs e) e
  have bB : Same B H' := fun a u e => hk a u (fun j z => by
    obtain ⟨i', _, z⟩ := agF_mem z
    rw [(o.fk i' a z).2.1] at e; cases e) (o.bh a u e)
  have t : Same (tupOf H') H' := tupOf_same
  have sB : Same B (jn (tupOf H') B B') := fun a u z => jn_at t bB L.bh (.inr (.inl z))
  have notp : ∀ {a}, (∃ u, H' a = some u ∧ Box u) → tupOf H' a = none := fun {a} hb => by
    obtain ⟨u, hu, bx⟩ := hb
    cases q : tupOf H' a with
    | none => rfl
    | some z =>
      obtain ⟨e1, xs, rfl⟩ := tupOf_some q
      rw [hu] at e1; cases e1; exact bx.elim
  have jnone : ∀ {a}, tupOf H' a = none → B a = none → B' a = none → jn (tupOf H') B B' a = none := fun {a} h1 h2 h3 => by
    cases z : jn (tupOf H') B B' a with
    | none => rfl
    | some u =>
      rcases jn_cases z with z | z | z
      · rw [h1] at z; cases z
      · rw [h2] at z; cases z
      · rw [h3] at z; cases z
  have hkk : ∀ k, ixOf as k = none → ∀ a ∈ F k, H' a = H a := fun k hk' a ha => by
    obtain ⟨u, hu, _⟩ := o.box ha
    rw [hu, hk a u (fun j q => by rw [isin q ha] at hk'; cases hk') hu]
  have lm : ∀ {k j}, ixOf as k = some j → (as.map Ag.isOwn)[j]? = some true := fun {k j} h => by rw [List.getElem?_map, ixOf_some h]; rfl
  -- the own things behind
  have ownL : ∀ {k j d v}, ixOf as k = some j → ds'[j]? = some d → σ[k]? = some (some v) → Own Γ H' d v (F' j) := fun {k j d v} h h1 h2 => by
    have ea := ixOf_some h
    obtain ⟨vj, ev⟩ := get_ex (l := vs) (i := j) (by rw [← paired_len hv]; exact (List.getElem?_eq_some_iff.mp ea).1)
    have : σ[k]? = some (some vj) := paired_at (G := AgV Γ x σ B H) hv ea ev
    rw [h2] at this
    have e3 : v = vj := by injection this with z; injection z
    subst e3
    exact L.own (lm h) h1 ev
  have fbox : ∀ {k j a}, ixOf as k = some j → a ∈ F' j → ∃ u, H' a = some u ∧ Box u := fun {k j a} h ha => by
    have ea := ixOf_some h
    obtain ⟨dj, e1⟩ := get_ex (l := ds') (i := j) (by rw [L.len, List.length_map]; exact (List.getElem?_eq_some_iff.mp ea).1)
    obtain ⟨vj, e2⟩ := get_ex (l := vs) (i := j) (by rw [← paired_len hv]; exact (List.getElem?_eq_some_iff.mp ea).1)
    exact (L.own (lm h) e1 e2).box a ha
  have from_ : ∀ {j a}, a ∈ F' j → (∃ k j', ixOf as k = some j' ∧ a ∈ F k) ∨ H a = none := fun {j a} ha => by
    rcases L.new j a ha with ⟨j', z⟩ | z
    · obtain ⟨i', e1, z1⟩ := agF_mem z
      exact .inl ⟨i', j', ixOf_of hn e1, z1⟩
    · exact .inr z
  refine ⟨jn (tupOf H') B B', sB, ?_, L.ret.mono fun a u z => jn_at t bB L.bh (.inr (.inr z))⟩
  exact {
    kp := fun a u e => hk a u (fun j z => by
      obtain ⟨i', _, z⟩ := agF_mem z
      rw [(o.fk i' a z).1] at e; cases e) (o.kp a u e)
    bh := fun a u z => by
      rcases jn_cases z with z | z | z
      · exact t a u z
      · exact bB a u z
      · exact L.bh a u z
    tup := fun a xs e => jn_at t bB L.bh (.inl (tupOf_tup e))
    born := fun a u z => by
      rcases jn_cases z with z | z | z
      · exact .inl (tupOf_some z).2
      · exact o.born a u z
      · rcases L.bn a u z with q | q
        · exact .inl q
        · exact .inr (o.dom a q)
    bk := fun a u z => by
      rcases jn_cases z with z | z | z
      · exact .inl (tupOf_some z).2
      · exact o.bk a u z
      · rcases L.bn a u z with q | q
        · exact .inl q
        · exact .inr (o.kp.free q)
    dom := fun a e => o.dom a (L.dom a e)
    fk := fun k a ha => by
      unfold newF at ha
      cases e : ixOf as k with
      | some j =>
        rw [e] at ha
        have hb := notp (fbox e ha)
        rcases from_ ha with ⟨k', j', e', q⟩ | q
        · obtain ⟨h1, h2, h3⟩ := o.fk k' a q
          exact ⟨h1, jnone hb h2 (L.bf j a ha), h3⟩
        · exact ⟨o.kp.free q, jnone hb (Same.free o.bh q) (L.bf j a ha), .inr (o.dom a q)⟩
      | none =>
        rw [e] at ha
        obtain ⟨h1, h2, h3⟩ := o.fk k a ha
        obtain ⟨u, hu, bx⟩ := o.box ha
        have hu' : H' a = some u := by rw [hkk k e a ha, hu]
        refine ⟨h1, jnone (notp ⟨u, hu', bx⟩) h2 ?_, h3⟩
        cases z : B' a with
        | none => rfl
        | some c =>
          rcases L.bn a c z with ⟨xs, rfl⟩ | q
          · have := L.bh a _ z; rw [hu'] at this; cases this; exact bx.elim
          · rw [hu] at q; cases q
    dj := fun k l a h1 h2 => by
      unfold newF at h1 h2
      have cross : ∀ {k l j}, ixOf as k = some j → ixOf as l = none → a ∈ F' j → a ∈ F l → False := fun {k l j} e1 e2 z1 z2 => by
        rcases from_ z1 with ⟨k', j', e', q⟩ | q
        · have := o.dj k' l a q z2
          subst this
          rw [e2] at e'; cases e'
        · obtain ⟨u, hu, _⟩ := o.box z2; rw [hu] at q; cases q
      cases e1 : ixOf as k with
      | some j =>
        rw [e1] at h1
        cases e2 : ixOf as l with
        | some j' =>
          rw [e2] at h2
          have := L.dj j j' a h1 h2
          subst this
          have z1 := ixOf_some e1
          have z2 := ixOf_some e2
          rw [z1] at z2
          injection z2 with z2
          injection z2
        | none => rw [e2] at h2; exact (cross e1 e2 h1 h2).elim
      | none =>
        rw [e1] at h1
        cases e2 : ixOf as l with
        | some j' => rw [e2] at h2; exact (cross e2 e1 h2 h1).elim
        | none => rw [e2] at h2; exact o.dj k l a h1 h2
    nd := fun k => by
      unfold newF
      split
      · exact L.nd _
      · exact o.nd k
    out := fun k hk' => by
      rw [backC_len] at hk'
      unfold newF
      split
      · rename_i j e
        have e1 := ixOf_some e
        obtain ⟨dj, ed⟩ := get_ex (l := ds) (i := j) (by rw [dsOf_len hd]; exact (List.getElem?_eq_some_iff.mp e1).1)
        have := dsOf_own hd e1 ed
        exact absurd (ownD_get this) (by omega)
      · exact o.out k hk'
    len := by rw [backC_len, o.len]
    at_ := fun k s hs => by
      cases e : ixOf as k with
      | none =>
        rw [backC_other e] at hs
        have ef : newF F F' as k = F k := by unfold newF; rw [e]
        rw [ef]
        have r := o.at_ k s hs
        cases s with
        | fn => obtain ⟨q1, v', q2, q3⟩ := r; exact ⟨q1, v', q2, q3.mono sB⟩
        | ow => obtain ⟨v', q1, q2, q3⟩ := r; exact ⟨v', q1, q2.keep tk (hkk k e), q3⟩
        | on => obtain ⟨v', q1, q2, q3⟩ := r; exact ⟨v', q1, q2.keep tk (hkk k e), q3⟩
        | ol => obtain ⟨b, vs, q1, q2, q3, q4, q5⟩ := r; exact ⟨b, vs, q1, q2, (hkk k e b (by rw [q2]; simp)).trans q3, q4.mono sB, q5⟩
        | _ => exact r
      | some j =>
        have ef : newF F F' as k = F' j := by unfold newF; rw [e]
        rw [ef]
        have e1 := ixOf_some e
        obtain ⟨dj, ed⟩ := get_ex (l := ds) (i := j) (by rw [dsOf_len hd]; exact (List.getElem?_eq_some_iff.mp e1).1)
        obtain ⟨dj', ed'⟩ := get_ex (l := ds') (i := j) (by rw [L.len, List.length_map]; exact (List.getElem?_eq_some_iff.mp e1).1)
        have hown := dsOf_own hd e1 ed
        obtain ⟨v, hσ, _⟩ := o.own hown
        have ho := ownL e ed' hσ
        unfold ownD at hown
        split at hown
        · rename_i z
          rw [backC_at e ed' z] at hs
          cases hs
          obtain ⟨v', h1, h2, h3⟩ := o.at_ k _ z
          rw [hσ] at h1
          cases h1
          exact ⟨v, hσ, ho, h3⟩
        · rename_i z
          rw [backC_at e ed' z] at hs
          cases hs
          obtain ⟨v', h1, h2, h3⟩ := o.at_ k _ z
          rw [hσ] at h1
          cases h1
          refine ⟨v, hσ, ho, fun a ha => ?_⟩
          rcases L.new j a ha with ⟨j2, z2⟩ | z2
          · obtain ⟨i2, e2, q2⟩ := agF_mem z2
            rcases hkd i2 (osl_mem e2) k (osl_mem e1) with rfl | ⟨c, ec⟩
            · exact h3 a q2
            · obtain ⟨_, _, _, h4⟩ := o.at_ i2 _ ec
              exact h4 a q2
          · exact o.dom a z2
        · cases hown }
/-- several own arguments: all made here -/
def kindC (ρ : Ev) (as : List Ag) : Bool := (osl as).length ≤ 1 || (osl as).all fun i => match ρ[i]? with
  | some (.on _) => true
  | _ => false
theorem kindC_of {ρ : Ev} {as : List Ag} (h : kindC ρ as = true) : ∀ i ∈ osl as, ∀ k ∈ osl as, i = k ∨ ∃ d, ρ[i]? = some (.on d) := by
  intro i hi k hk
  unfold kindC at h
  rw [Bool.or_eq_true] at h
  rcases h with h | h
  · left
    have h : (osl as).length ≤ 1 := by simpa using h
    match e : osl as, h with
    | [], _ => rw [e] at hi; cases hi
    | [z], _ =>
      rw [e] at hi hk
      simp only [List.mem_cons, List.not_mem_nil, or_false] at hi hk
      rw [hi, hk]
    | _ :: _ :: _, h => simp at h
  · right
    rw [List.all_eq_true] at h
    have := h i hi
    split at this
    · rename_i d e; exact ⟨d, e⟩
    · cases this
def callC (ms : List Bool) (f : List D → Option (D × List D)) (g : CF) : Ev → Option (D × Ev) := fun ρ => (g ρ).bind fun as => if (decide (osl as).Nodup && kindC ρ as && decide (as.map Ag.isOwn = ms)) = true then (dsOf ρ as).bind fun ds => (f ds).bind fun p => some (p.1, backC ρ as p.2) else none
theorem callC_some {ms : List Bool} {f : List D → Option (D × List D)} {g : CF} {ρ ρ' : Ev} {r : D} (h : callC ms f g ρ = some (r, ρ')) :
    ∃ as ds ds', g ρ = some as ∧ (osl as).Nodup ∧ kindC ρ as = true ∧ as.map Ag.isOwn = ms ∧ dsOf ρ as = some ds ∧ f ds = some (r, ds') ∧ ρ' = backC ρ as ds' := by
  unfold callC at h
  cases e1 : g ρ with
  | none => rw [e1] at h; cases h
  | some as =>
    rw [e1] at h
    simp only [Option.bind_some] at h
    split at h
    · rename_i q
      simp only [Bool.and_eq_true, decide_eq_true_eq] at q
      cases e2 : dsOf ρ as with
      | none => rw [e2] at h; cases h
      | some ds =>
        rw [e2] at h
        simp only [Option.bind_some] at h
        cases e3 : f ds with
        | none => rw [e3] at h; cases h
        | some p =>
          rw [e3] at h
          cases h
          exact ⟨as, ds, p.2, rfl, q.1.1, q.1.2, q.2, e2, e3, rfl⟩
    · cases h
end
/-- e is worth what g says, and g's slots stand behind it -/
def PuM (cm : Nat → Addr) (X : Cx) (e : Expr) (g : Ev → Option (D × Ev)) : Prop :=
  ∃ t, PE X e t ∧ ∀ (x : Fx) (B : Hp) (F : Nat → List Addr) (ρ : Ev) (σ : St) (H : Hp) (r : D) (ρ' : Ev) (Q : VK), Ok (gx X cm) x B F ρ σ H → g ρ = some (r, ρ') →
    (∀ v B' F' H', Same B B' → Ok (gx X cm) x B' F' ρ' σ H' → Is (gx X cm) B' r v → Q v H') → t σ H Q
def CalC (P : Program) (w : World) (K : PySem.W.Frag) (mg : Str → Option Value) (base : Heap) (cm : Nat → Addr) (k : Nat) (x : Str) (ms : List Bool) (f : List D → Option (D × List D)) : Prop :=
  ∃ (fa : Addr) (fd : FuncData) (ps : List Str), FnOk P w K mg base CX0 k fa fd ps (spC K cm w ms f) ∧ mg x = some (.ref fa) ∧ PySem.W.keepIn K (.ref fa) = true ∧ Binds K fd ps []
def MetC (P : Program) (w : World) (K : PySem.W.Frag) (mg : Str → Option Value) (base : Heap) (cm : Nat → Addr) (k : Nat) (n : Nat) (m : Str) (ms : List Bool) (f : List D → Option (D × List D)) : Prop :=
  ∃ (fa : Addr) (fd : FuncData) (ps : List Str), FnOk P w K mg base CX0 k fa fd ps (spC K cm w ms f) ∧ Cls K (cm n) ∧ Meth K (cm n) m fa ∧ Binds K fd ps []
section
variable {cm : Nat → Addr} {X : Cx} {pos : Pos} {e : Expr} {es : List Expr} {ms : List Bool} {f : List D → Option (D × List D)} {g : CF}
theorem pum_call {k j : Nat} {x : Str} {p : Pos} (C : CalC X.prog X.w X.K X.mg X.base cm k x ms f) (hr : Room j X.A) (hk : k ≤ j) (ha : PuC cm X (e :: es) g) (hg : Gl X x := by rfl)
    (hdb : (x == ("__debug__" : Str)) = false := by decide) (he : starEach (e :: es) X.env = (false, eval e X.env) :: starEach es X.env := by rfl) (hpl : (backTo pos (starEach es X.env)).any (·.1) = false := by rfl) :
    PuM cm X (.Call (.Name x p) (e :: es) [] pos) (callC ms f g) := by
  obtain ⟨fa, fd, ps, F, hm, kp, hb⟩ := C
  obtain ⟨t, pa, qa⟩ := ha
  refine ⟨_, pe_call F (hr.mono hk) hg hm kp hb .nil pass0 pa hdb he hpl, fun x B Fp ρ σ H r ρ' Q ok hf hQ => ?_⟩
  obtain ⟨as, ds, ds', e1, hn, hkd, rfl, e2, e3, rfl⟩ := callC_some hf
  refine qa x B Fp ρ σ H as _ ok e1 fun vs B' H' g1 ok' hvs => ?_
  rw [List.append_nil]
  refine ⟨ds, agF Fp as, r, ds', ok'.inC e2 hvs hn, e3, fun w H2 F2 B2 L => ?_⟩
  obtain ⟨B3, s3, ok3, hw⟩ := ok'.left e2 hvs hn (kindC_of hkd) L
  exact hQ w B3 _ H2 (g1.bb.trans s3) ok3 hw
/-- x.m(..), x an own instance of the class number n that has no attribute m -/
def insC (n : Nat) (m : Str) (i : Nat) (g : CF) : CF := fun ρ => match ownD ρ i with
  | some (.ins c fs) => if c = n ∧ getF fs m = none then (g ρ).map fun as => .own i :: as else none
  | _ => none
theorem insC_some {n i : Nat} {m : Str} {ρ : Ev} {as : List Ag} (h : insC n m i g ρ = some as) : ∃ fs r, ownD ρ i = some (.ins n fs) ∧ getF fs m = none ∧ g ρ = some r ∧ as = .own i :: r := by
  unfold insC at h
  split at h
  · rename_i c fs e
    split at h
    · rename_i q
      obtain ⟨rfl, q⟩ := q
      cases e1 : g ρ with
      | none => rw [e1] at h; cases h
      | some r => rw [e1] at h; cases h; exact ⟨fs, r, e, q, rfl, rfl⟩
    · cases h
  · cases h
theorem pum_meth (i : Nat) {k j n : Nat} {x m : Str} {npos apos : Pos} (pl : Sem Bool) (C : MetC X.prog X.w X.K X.mg X.base cm k n m ms f) (hr : Room j X.A) (hk : k ≤ j) (ha : PuC cm X (e :: es) g) (hN : X.N[i]? = some x := by rfl) (hv : Vis X.env.scope x := by first | exact Or.inl rfl | exact Or.inr (Or.inl rfl) | exact Or.inr (Or.inr rfl))
    (hd : (x == ("__debug__" : Str)) = false := by decide) (hcd : (x == ("__classdict__" : Str)) = false := by decide)
    (hst : starEach (e :: es) X.env = (false, eval e X.env) :: starEach es X.env := by rfl) (hpl : (backTo pos (starEach es X.env)).any (·.1) = false := by rfl)
    (ht : eval (.Call (.Attribute (.Name x npos) m apos) (e :: es) [] pos) X.env = (do
      let ov ← eval (.Name x npos) X.env
      standAt apos.atName
      let (f, first) ← holding [ov] (getMethod ov m pl)
      callWith pos f first (backTo pos (starEach (e :: es) X.env)) (backToKw pos (keywordEach [] X.env))) := by rfl) :
    PuM cm X (.Call (.Attribute (.Name x npos) m apos) (e :: es) [] pos) (callC ms f (insC n m i g)) := by
  obtain ⟨fa, fd, ps, F, hc, hm, hb⟩ := C
  obtain ⟨t, pa, qa⟩ := ha
  refine ⟨_, pe_meth (pe_var hN hv hd hcd) hc hm F (hr.mono hk) hb .nil pass0 pa hst hpl ht, fun z B Fp ρ σ H r ρ' Q ok hf hQ => ?_⟩
  obtain ⟨as, ds, ds', e1, hn, hkd, rfl, e2, e3, rfl⟩ := callC_some hf
  obtain ⟨fs, as, e4, e5, e6, rfl⟩ := insC_some e1
  obtain ⟨v, hσ, ho⟩ := ok.own e4
  refine ⟨v, hσ, ?_⟩
  obtain ⟨p, dx, vs, rfl, h1, h2⟩ := ho.is
  refine ⟨p, dx, vs, rfl, h1, h2.none e5, ?_⟩
  refine qa z B Fp ρ σ H as _ ok e6 fun us B2 H2 g2 ok2 hus => ?_
  rw [List.append_nil]
  have hvs : Paired (AgV (gx X cm) z σ B2 H2) (.own i :: as) (.ref p :: us) := .cons hσ hus
  refine ⟨ds, agF Fp (.own i :: as), r, ds', ok2.inC e2 hvs hn, e3, fun w H' F' B' L => ?_⟩
  obtain ⟨B3, s3, ok3, hw⟩ := ok2.left e2 hvs hn (kindC_of hkd) L
  exact hQ w B3 _ H' (g2.bb.trans s3) ok3 hw
end
end DL

/-! DL23: statements of changing calls. -/
namespace DL
open PySem L2
section
variable {cm : Nat → Addr} {X : Cx} {pos : Pos} {e : Expr} {g : Ev → Option (D × Ev)}
def sSetM (i : Nat) (g : Ev → Option (D × Ev)) : SF := fun ρ => (g ρ).bind fun p => (setS i p.1 .new p.2).map .nx
theorem pus_setM (i : Nat) {x : Str} {pos' : Pos} (hN : X.N.Nodup) (he : PuM cm X e g) (hi : X.N[i]? = some x := by rfl) (hx : Loc X.env.scope x := by first | exact .inl rfl | exact .inr rfl)
    (hs : swapsWith e (some (.Name x pos')) pos.line X.env = pure false := by rfl) (hf : X.fn x = true ∨ X.env.scope.names.lookup x = some .local := by first | exact .inl rfl | exact .inr rfl) : PuS cm X (.Assign [.Name x pos'] e pos) (sSetM i g) := by
  obtain ⟨t, p, q⟩ := he
  refine ⟨_, ps_set hN hi hx p hs hf, fun x B F ρ σ H r E ok hf hE => ?_⟩
  unfold sSetM at hf
  cases e1 : g ρ with
  | none => rw [e1] at hf; cases hf
  | some a =>
    rw [e1] at hf
    simp only [Option.bind_some] at hf
    cases e2 : setS i a.1 .new a.2 with
    | none => rw [e2] at hf; cases hf
    | some ρ' =>
      rw [e2] at hf
      cases hf
      exact q x B F ρ σ H a.1 a.2 _ ok e1 fun v B' F' H' s ok' hv => hE B' _ _ H' s (ok'.setS e2 hv)
def sRetM (g : Ev → Option (D × Ev)) : SF := fun ρ => (g ρ).map fun p => .rt p.1 p.2
theorem pus_retM (he : PuM cm X e g) : PuS cm X (.Return (some e) pos) (sRetM g) := by
  obtain ⟨t, p, q⟩ := he
  refine ⟨_, ps_ret p, fun x B F ρ σ H r E ok hf hE => ?_⟩
  unfold sRetM at hf
  cases e1 : g ρ with
  | none => rw [e1] at hf; cases hf
  | some a =>
    rw [e1] at hf
    cases hf
    exact q x B F ρ σ H a.1 a.2 _ ok e1 fun v B' F' H' s ok' hv => hE v B' F' σ H' s ok' hv
def sExM (g : Ev → Option (D × Ev)) : SF := fun ρ => (g ρ).map fun p => .nx p.2
theorem pus_exM {pos2 : Pos} (he : PuM cm X e g) (hs : swapsWith e none pos2.line X.env = pure false := by rfl) : PuS cm X (.Expr e pos2) (sExM g) := by
  obtain ⟨t, p, q⟩ := he
  refine ⟨_, ps_expr p hs, fun x B F ρ σ H r E ok hf hE => ?_⟩
  unfold sExM at hf
  cases e1 : g ρ with
  | none => rw [e1] at hf; cases hf
  | some a =>
    rw [e1] at hf
    cases hf
    exact q x B F ρ σ H a.1 a.2 _ ok e1 fun v B' F' H' s ok' hv => hE B' F' σ H' s ok'
end
end DL

/-! DL24: dicts of fresh things, defs that hand out a fresh thing, list(..) as a fresh thing. -/
namespace DL
open PySem L2
section
variable {Γ : Ga} {x : Fx} {B : Hp} {F : Nat → List Addr} {ρ : Ev} {σ : St} {H : Hp}
theorem Ok.hidO (o : Ok Γ x B F ρ σ H) {p : Addr} {u w : HO} (hp : H p = some u) (hnt : ∀ xs, u ≠ .tup xs) (hw : ∀ xs, w ≠ .tup xs) (hb : B p = none) (hk : x.Kp p = none) (hf : ∀ i, p ∉ F i) : Ok Γ x B F ρ σ (upd H p w) where
  kp := fun a u e => by rw [upd_ne (fun q => by rw [q, hk] at e; cases e)]; exact o.kp a u e
  bh := fun a u e => by rw [upd_ne (fun q => by rw [q, hb] at e; cases e)]; exact o.bh a u e
  tup := fun a xs e => by
    by_cases q : a = p
    · subst q; rw [upd_same] at e; cases e; exact absurd rfl (hw xs)
    · rw [upd_ne q] at e; exact o.tup a xs e
  born := o.born
  bk := o.bk
  dom := fun a e => by
    by_cases q : a = p
    · subst q; rw [upd_same] at e; cases e
    · rw [upd_ne q] at e; exact o.dom a e
  fk := o.fk
  dj := o.dj
  nd := o.nd
  out := o.out
  len := o.len
  at_ := fun i s h => by
    have q := o.at_ i s h
    have ht : TupK H (upd H p w) := TupK.upd (by intro xs; rw [hp]; intro z; cases z; exact absurd rfl (hnt xs))
    have hkk : ∀ a ∈ F i, (upd H p w) a = H a := fun a ha => upd_ne fun z => hf i (z ▸ ha)
    cases s with
    | ow => obtain ⟨v, q1, q2, q3⟩ := q; exact ⟨v, q1, q2.keep ht hkk, q3⟩
    | on => obtain ⟨v, q1, q2, q3⟩ := q; exact ⟨v, q1, q2.keep ht hkk, q3⟩
    | ol => obtain ⟨b, vs, q1, q2, q3, q4, q5⟩ := q; exact ⟨b, vs, q1, q2, (hkk b (by rw [q2]; simp)).trans q3, q4, q5⟩
    | _ => exact q
end
/-- the pairs of a display of fresh things -/
def PuNP (cm : Nat → Addr) (X : Cx) (pos : Pos) (keys : List (Option Expr)) (values : List Expr) (ks : List Key) (f : Ev → Option (List D)) : Prop :=
  ∃ trs, PPs X pos keys values trs ∧ ∀ (x : Fx) (B : Hp) (F : Nat → List Addr) (ρ : Ev) (σ : St) (H : Hp) (ds : List D) (Q : List (V × V) → Hp → Prop), Ok (gx X cm) x B F ρ σ H → f ρ = some ds →
    (∀ vs B' H' fp, Gr B H B' H' → Ok (gx X cm) x B' F ρ σ H' → ks.length = ds.length → Owns (gx X cm) H' ds vs fp → fp.Nodup → (∀ a ∈ fp, H a = none ∧ B' a = none) → Q ((List.zip ks vs).map fun kv => (kV kv.1, kv.2)) H') → tPairs trs σ H Q
section
variable {cm : Nat → Addr} {X : Cx} {pos : Pos}
theorem punp_nil : PuNP cm X pos [] [] [] nNil := ⟨_, pps_nil, fun x B F ρ σ H ds Q ok hf hQ => by
  cases hf
  exact hQ [] B H [] (Gr.refl B H) ok rfl ⟨rfl, rfl⟩ List.nodup_nil (fun _ h => nomatch h)⟩
theorem punp_cons {k : Key} {ke ve : Expr} {keys : List (Option Expr)} {values : List Expr} {ks : List Key} {fv : NF} {f : Ev → Option (List D)} (hk : PuE cm X ke (eC (keyD k))) (hv : PuN cm X ve fv) (hr : PuNP cm X pos keys values ks f) : PuNP cm X pos (some ke :: keys) (ve :: values) (k :: ks) (nCons fv f) := by
  obtain ⟨tk, pk, qk⟩ := hk
  obtain ⟨tv, pv, qv⟩ := hv
  obtain ⟨tr, pr, qr⟩ := hr
  refine ⟨_, pps_cons pk pv pr, fun x B F ρ σ H ds Q ok hf hQ => ?_⟩
  unfold nCons at hf
  cases e1 : fv ρ with
  | none => rw [e1] at hf; cases hf
  | some a =>
    rw [e1] at hf
    simp only [Option.bind_some] at hf
    cases e2 : f ρ with
    | none => rw [e2] at hf; cases hf
    | some r =>
      rw [e2] at hf
      cases hf
      refine qk x B F ρ σ H (keyD k) .new _ ok rfl fun v B1 H1 g1 ok1 v1 => ?_
      have ev := keyD_is v1
      subst ev
      refine qv x B1 F ρ σ H1 a _ ok1 e1 fun w B2 H2 f1 g2 ok2 o1 n1 l1 => ?_
      refine qr x B2 F ρ σ H2 r _ ok2 e2 fun vs B3 H3 f2 g3 ok3 hl o2 n2 l2 => ?_
      refine hQ (w :: vs) B3 H3 (f1 ++ f2) (g1.trans (g2.trans g3)) ok3 (by rw [List.length_cons, List.length_cons, hl]) ⟨w, vs, f1, f2, rfl, own_gr g3 o1, o2, rfl⟩ (List.nodup_append.mpr ⟨n1, n2, ?_⟩) fun b hb => ?_
      · rintro b hb c hc rfl
        obtain ⟨u, hu, _⟩ := o1.box b hb
        rw [(l2 b hc).1] at hu
        cases hu
      · rcases List.mem_append.mp hb with hb | hb
        · obtain ⟨u, hu, bx⟩ := o1.box b hb
          exact ⟨g1.hh.free (l1 b hb).1, box_gr ok3.bh g3 (l1 b hb).2 hu bx⟩
        · exact ⟨(g1.trans g2).hh.free (l2 b hb).1, (l2 b hb).2⟩
theorem ownK_zip {Γ : Ga} {H : Hp} : ∀ {ks : List Key} {ds : List D} {vs : List V} {fp : List Addr}, ks.length = ds.length → Owns Γ H ds vs fp → OwnK Γ H (List.zip ks ds) (List.zip ks vs) fp
  | [], [], _, _, _, h => by obtain ⟨rfl, rfl⟩ := h; exact ⟨rfl, rfl⟩
  | k :: ks, d :: ds, _, _, hl, ⟨v, r, f1, f2, e, h1, h2, ef⟩ => by
    subst e ef
    exact ⟨v, _, f1, f2, rfl, h1, ownK_zip (by simpa using hl) h2, rfl⟩
  | [], _ :: _, _, _, h, _ => by simp at h
  | _ :: _, [], _, _, h, _ => by simp at h
def nDict (ks : List Key) (f : Ev → Option (List D)) : NF := fun ρ => (f ρ).map fun ds => .dic (List.zip ks ds)
theorem pn_dict {keys : List (Option Expr)} {values : List Expr} {ks : List Key} {f : Ev → Option (List D)} (hp : PuNP cm X pos keys values ks f) (hn : ks.Nodup) (hall : keys.all (·.isSome) = true := by rfl) (hl : keys.length = values.length := by rfl) (h0 : keys ≠ [] := by simp)
    (h15 : keys.length ≤ 15 := by decide) (hkl : ks.length = keys.length := by rfl) : PuN cm X (.Dict keys values pos) (nDict ks f) := by
  obtain ⟨t, p, q⟩ := hp
  refine ⟨_, pe_disp p hall hl h0 h15, fun x B F ρ σ H d Q ok hf hQ => ?_⟩
  unfold nDict at hf
  cases ea : f ρ with
  | none => rw [ea] at hf; cases hf
  | some ds =>
    rw [ea] at hf
    cases hf
    intro l hlz
    obtain ⟨g1, ok1⟩ := ok.laidH (o := .dK []) hlz (fun xs z => nomatch z)
    refine q x B F ρ σ _ ds _ ok1 ea fun vs B' H' fp g ok' hl2 hvs hnd hlo => ?_
    have hp : H' l = some (.dK []) := g.hh _ _ upd_same
    have hb : B' l = none := by
      cases e : B' l with
      | none => rfl
      | some u =>
        rcases g.new l u e with ⟨xs, rfl⟩ | h4 | h4
        · have := ok'.bh l _ e; rw [hp] at this; cases this
        · rw [Same.free ok.bh hlz] at h4; cases h4
        · rw [upd_same] at h4; cases h4
    have hlen : ks.length = vs.length := by rw [hl2]; exact hvs.length.symm
    have lo : Loose x B' F l := ok'.loose ok hlz hb
    have hnl : l ∉ fp := fun z => by have := (hlo l z).1; rw [upd_same] at this; cases this
    refine ⟨hp, List.zip ks vs, rfl, ?_, ?_⟩
    · rw [List.length_zip, ← hlen, Nat.min_self, hkl]; exact h15
    · have em : mergeK [] (List.zip ks vs) = List.zip ks vs := by
        rw [mergeK_new _ [] (by rw [zip_keys hlen]; simpa using hn)]; rfl
      rw [em]
      have ok2 := ok'.hidO (w := .dK (List.zip ks vs)) hp (fun xs z => nomatch z) (fun xs z => nomatch z) hb lo.2.1 lo.2.2.2
      have tk : TupK H' (upd H' l (.dK (List.zip ks vs))) := TupK.upd (by intro xs z; rw [hp] at z; cases z)
      have hkeep : ∀ a ∈ fp, (upd H' l (.dK (List.zip ks vs))) a = H' a := fun a ha => upd_ne fun z => hnl (z ▸ ha)
      refine hQ (.ref l) B' _ (l :: fp) ⟨fun b u e => ?_, (g1.trans g).bb, fun b u e => (g1.trans g).new b u e⟩ ok2 ⟨l, List.zip ks vs, fp, rfl, upd_same, ownK_zip hl2 (hvs.keep tk hkeep), rfl⟩ (List.nodup_cons.mpr ⟨hnl, hnd⟩) fun a ha => ?_
      · rw [upd_ne (fun q => by rw [q, hlz] at e; cases e)]
        exact (g1.trans g).hh b u e
      · rcases List.mem_cons.mp ha with rfl | ha
        · exact ⟨hlz, hb⟩
        · exact ⟨g1.hh.free (hlo a ha).1, (hlo a ha).2⟩
/-! ### a def that hands out a fresh thing -/
def spN (K : PySem.W.Frag) (cm : Nat → Addr) (w : World) (f : List D → Option D) : L2.Sp := fun vs H Q _ => ∃ ds d, Iss ⟨K, cm, w⟩ H ds vs ∧ f ds = some d ∧
  ∀ v H' fp, Same H H' → Own ⟨K, cm, w⟩ H' d v fp → fp.Nodup → (∀ a ∈ fp, H a = none) → Q v H'
def fnN (n k : Nat) (b : NF) (ds : List D) : Option D := if ds.length = k then b (ent n ds) else none
theorem fn_fresh {P : Program} {w : World} {K : PySem.W.Frag} {mg : Str → Option Value} {base : Heap} {cm : Nat → Addr} {x qual : Str} {st : Stmt} {f : Addr} {fd : FuncData} {N ps : List Str} {k : Nat} {b : NF} {e : Expr} {rpos : Pos} (F : Fun K x qual st f fd) (S : FnScope N ps (defScope st)) (hN : ps.length ≤ N.length)
    (hd : defBody st = [.Return (some e) rpos])
    (hb : ∀ (cdv : Value) (A : Around) (outer : List Env) (s : Shared) (H : Hp) (E : XK), Room k (A.deeper (PyProof.Rows.envOfC qual (defScope st) s.heap.objs.size f cdv)) → PuN cm (cxOf CX0 P w K mg base N qual (defScope st) f cdv A outer s H E).nox e b) :
    FnOk P w K mg base CX0 (k + 1) f fd ps (spN K cm w (fnN N.length ps.length b)) := by
  refine F.ok S (fun vs H Q E h => ?_) (fun cdv A outer s H vs Q E hr h => ?_)
  · obtain ⟨ds, d, h1, h2, _⟩ := h
    unfold fnN at h2
    split at h2
    · rename_i e
      rw [h1.length, e]
    · cases h2
  · obtain ⟨ds, d, h1, h2, h3⟩ := h
    unfold fnN at h2
    split at h2
    · rename_i el
      obtain ⟨t, p, q⟩ := hb cdv A outer s H E hr
      rw [hd]
      refine ⟨_, pss_one (ps_ret p), ?_⟩
      refine q _ _ _ _ _ _ d _ (ok_start (N := N) h1 (by omega)) h2 fun v B' H' fp g ok' ho hn hl => ?_
      exact h3 v H' fp g.hh ho hn fun a ha => (hl a ha).1
    · cases h2
def CalN (P : Program) (w : World) (K : PySem.W.Frag) (mg : Str → Option Value) (base : Heap) (cm : Nat → Addr) (k : Nat) (x : Str) (f : List D → Option D) : Prop :=
  ∃ (fa : Addr) (fd : FuncData) (ps : List Str), FnOk P w K mg base CX0 k fa fd ps (spN K cm w f) ∧ mg x = some (.ref fa) ∧ PySem.W.keepIn K (.ref fa) = true ∧ Binds K fd ps []
theorem own_new {Γ : Ga} {x : Fx} {B : Hp} {F : Nat → List Addr} {ρ : Ev} {σ : St} {H H' : Hp} (ok : Ok Γ x B F ρ σ H) (e : Same H H') {d : D} {v : V} {fp : List Addr} (ho : Own Γ H' d v fp) (hl : ∀ a ∈ fp, H a = none) :
    ∃ B', Gr B H B' H' ∧ Ok Γ x B' F ρ σ H' ∧ ∀ a ∈ fp, H a = none ∧ B' a = none := by
  have bn : Born Γ H H' .non .non := ⟨e, tupOf H', tupOf_same, fun a u z => .inl (tupOf_some z).2, rfl⟩
  obtain ⟨e1, R, er, hn, q⟩ := bn
  have t : Same (tupOf H') H' := tupOf_same
  have b : Same B H' := ok.bh.trans e
  refine ⟨jn (tupOf H') B B, ⟨e, fun a u z => jn_at t b b (.inr (.inl z)), fun a u z => ?_⟩, ?_, fun a ha => ⟨hl a ha, ?_⟩⟩
  · rcases jn_cases z with z | z | z
    · exact .inl (tupOf_some z).2
    · exact .inr (.inl z)
    · exact .inr (.inl z)
  · refine ok.grow e (fun a u z => jn_at t b b (.inr (.inl z))) (fun a u z => ?_) (fun a xs z => jn_at t b b (.inl (tupOf_tup z))) fun a u z => ?_
    · rcases jn_cases z with z | z | z
      · exact t a u z
      · exact b a u z
      · exact b a u z
    · rcases jn_cases z with z | z | z
      · exact .inl (tupOf_some z).2
      · exact .inr (.inl z)
      · exact .inr (.inl z)
  · obtain ⟨u, hu, bx⟩ := ho.box a ha
    cases z : jn (tupOf H') B B a with
    | none => rfl
    | some w =>
      have hB : B a = none := Same.free ok.bh (hl a ha)
      rcases jn_cases z with z | z | z
      · obtain ⟨q1, xs, rfl⟩ := tupOf_some z
        rw [hu] at q1; cases q1; exact bx.elim
      · rw [hB] at z; cases z
      · rw [hB] at z; cases z
def nCall (f : List D → Option D) (g : AF) : NF := fun ρ => (g ρ).bind fun as => f (as.map (·.1))
theorem pn_call0 {k j : Nat} {x : Str} {f : List D → Option D} {p : Pos} (C : CalN X.prog X.w X.K X.mg X.base cm k x f) (hr : Room j X.A) (hk : k ≤ j) (hg : Gl X x := by rfl)
    (hdb : (x == ("__debug__" : Str)) = false := by decide) : PuN cm X (.Call (.Name x p) [] [] pos) (nCall f aNil) := by
  obtain ⟨fa, fd, ps, F, hm, kp, hb⟩ := C
  refine ⟨_, pe_call0 F (hr.mono hk) hg hm kp hb .nil pass0 hdb, fun x B F ρ σ H d Q ok hf hQ => ?_⟩
  have hf : f [] = some d := hf
  refine ⟨[], d, rfl, hf, fun v H2 fp e ho hn hl => ?_⟩
  obtain ⟨B', g, ok', h'⟩ := own_new ok e ho hl
  exact hQ v B' H2 fp g ok' ho hn h'
/-! ### a class that is made -/
structure MakC (P : Program) (w : World) (K : PySem.W.Frag) (mg : Str → Option Value) (base : Heap) (cm : Nat → Addr) (k : Nat) (n : Nat) (x : Str) (ms : List Bool) (f : List D → Option (D × List D)) : Prop where
  at_ : ∃ (fa : Addr) (fd : FuncData) (ps : List Str), FnOk P w K mg base CX0 k fa fd ps (spC K cm w ms f) ∧ Mk K (cm n) fa ∧ Binds K fd ps []
  mg : mg x = some (.ref (cm n))
def nMake (n m : Nat) (f : List D → Option (D × List D)) (g : AF) : NF := fun ρ => (g ρ).bind fun as => if as.length = m then (f (.ins n [] :: as.map (·.1))).bind fun p => match p with
  | (.non, d :: _) => some d
  | _ => none else none
theorem pn_make {k j n : Nat} {x : Str} {e : Expr} {es : List Expr} {f : List D → Option (D × List D)} {g : AF} {p : Pos} {m : Nat} (C : MakC X.prog X.w X.K X.mg X.base cm k n x (true :: List.replicate m false) f) (hr : Room j X.A) (hk : k + 1 ≤ j) (ha : PuA cm X (e :: es) g) (hg : Gl X x := by rfl)
    (hdb : (x == ("__debug__" : Str)) = false := by decide) (he : starEach (e :: es) X.env = (false, eval e X.env) :: starEach es X.env := by rfl) (hpl : (backTo pos (starEach es X.env)).any (·.1) = false := by rfl) :
    PuN cm X (.Call (.Name x p) (e :: es) [] pos) (nMake n m f g) := by
  obtain ⟨⟨fa, fd, ps, F, M, hb⟩, hmg⟩ := C
  obtain ⟨t, pa, qa⟩ := ha
  refine ⟨_, pe_make M F (hr.mono hk) hg hmg hb .nil pass0 pa hdb he hpl, fun z B Fp ρ σ H d Q ok hf hQ => ?_⟩
  unfold nMake at hf
  cases e1 : g ρ with
  | none => rw [e1] at hf; cases hf
  | some as =>
    rw [e1] at hf
    simp only [Option.bind_some] at hf
    split at hf
    · rename_i hnl
      have hlen := hnl
      cases e2 : f (.ins n [] :: as.map (·.1)) with
      | none => rw [e2] at hf; cases hf
      | some pr =>
        rw [e2] at hf
        simp only [Option.bind_some] at hf
        split at hf
        · rename_i d rest
          cases hf
          refine qa z B Fp ρ σ H as _ ok e1 fun vs B1 H1 g1 ok1 hvs => ?_
          intro a dx ha hdx hne
          rw [List.append_nil]
          -- the heap with the bare instance
          have hdx1 : upd H1 dx (.own a) a = none := by rw [upd_ne (Ne.symm hne)]; exact ha
          have s1 : Same H1 (upd H1 dx (.own a)) := same_upd hdx
          have s2 : Same (upd H1 dx (.own a)) (upd (upd H1 dx (.own a)) a (.ins (cm n) dx [])) := same_upd hdx1
          have s12 := s1.trans s2
          let F0 : Nat → List Addr := fun i => if i = 0 then [a] else []
          have hF0 : ∀ {i b}, b ∈ F0 i → i = 0 ∧ b = a := fun {i b} h => by
            have h : b ∈ (if i = 0 then [a] else []) := h
            split at h
            · rename_i q; exact ⟨q, by simpa using h⟩
            · cases h
          have hB1 : Iss (gx X cm) H1 (as.map (·.1)) vs := paired_iss ok1 hvs
          have hout : Same H1 (outF (upd (upd H1 dx (.own a)) a (.ins (cm n) dx [])) F0) := fun b u hu => by
            rw [outF_at (fun i z => by obtain ⟨_, rfl⟩ := hF0 z; rw [ha] at hu; cases hu)]
            exact s12 b u hu
          have mi : ∀ {i : Nat} {b : Bool}, (true :: List.replicate m false)[i]? = some b → (b = true ↔ i = 0) := fun {i b} h => by
            cases i with
            | zero => cases h; simp
            | succ i =>
              have h : (List.replicate m false)[i]? = some b := by simpa using h
              have := List.eq_of_mem_replicate (List.mem_of_getElem? h)
              simp [this]
          have inC : InC (gx X cm) (true :: List.replicate m false) (upd (upd H1 dx (.own a)) a (.ins (cm n) dx [])) F0 (.ins n [] :: as.map (·.1)) (.ref a :: vs) := by
            refine ⟨by simp [hB1.length], by simp [hlen], fun {i d v} h1 h2 h3 => ?_, fun {i d v} h1 h2 h3 => ?_, fun i h => ?_, fun i => ?_, fun i j b h1 h2 => ?_⟩
            · have := (mi h1).mp rfl
              subst this
              cases h2; cases h3
              exact ⟨a, dx, [], [], rfl, upd_same, ⟨rfl, rfl⟩, rfl⟩
            · cases i with
              | zero => cases h1
              | succ i =>
                obtain ⟨v', e3, hv'⟩ := hB1.get (i := i) (by simpa using h2)
                have h3 : vs[i]? = some v := by simpa using h3
                rw [e3] at h3
                cases h3
                exact hv'.mono hout
            · show (if i = 0 then [a] else []) = []
              rw [if_neg]
              rintro rfl
              exact h rfl
            · show (if i = 0 then [a] else []).Nodup
              split
              · simp
              · exact List.nodup_nil
            · rw [(hF0 h1).1, (hF0 h2).1]
          refine ⟨_, F0, .non, d :: rest, inC, e2, fun w H' F' B' L => ?_⟩
          have hw : w = .non := L.ret
          subst hw
          refine ⟨rfl, ?_⟩
          have ho : Own (gx X cm) H' d (.ref a) (F' 0) := L.own (i := 0) rfl rfl rfl
          have sH : Same H1 H' := hout.trans L.out
          have hnew2 : ∀ b ∈ F' 0, H1 b = none := fun b hb => by
            rcases L.new 0 b hb with ⟨j, q⟩ | q
            · obtain ⟨_, rfl⟩ := hF0 q; exact ha
            · exact Same.free s12 q
          obtain ⟨B2, g2, ok2, h2⟩ := own_new ok1 sH ho hnew2
          exact hQ (.ref a) B2 H' (F' 0) (g1.trans g2) ok2 ho (L.nd 0) fun b hb => ⟨g1.hh.free (hnew2 b hb), (h2 b hb).2⟩
        · cases hf
    · cases hf
/-! ### list(xs) as a fresh thing -/
end
end DL

/-! DL25: P[k] += e, P.f = e, P.f += e, P.pop(), list(..) as a fresh thing, a local thing moved. -/
namespace DL
open PySem L2
section
variable {cm : Nat → Addr} {X : Cx} {pos : Pos} {e e2 : Expr} {es : List Expr}
/-! ### a thing of one's own that may come from a slot -/
abbrev YF := Ev → Option (D × Ev)
def PuY (cm : Nat → Addr) (X : Cx) (e : Expr) (g : YF) : Prop :=
  ∃ t, PE X e t ∧ ∀ (x : Fx) (B : Hp) (F : Nat → List Addr) (ρ : Ev) (σ : St) (H : Hp) (d : D) (ρ' : Ev) (Q : VK), Ok (gx X cm) x B F ρ σ H → g ρ = some (d, ρ') →
    (∀ v B' F' H' fp, Same B B' → Ok (gx X cm) x B' F' ρ' σ H' → Own (gx X cm) H' d v fp → fp.Nodup → (∀ a ∈ fp, Loose x B' F' a) → Q v H') → t σ H Q
def yN (f : NF) : YF := fun ρ => (f ρ).map fun d => (d, ρ)
theorem puy_new {f : NF} (h : PuN cm X e f) : PuY cm X e (yN f) := by
  obtain ⟨t, p, q⟩ := h
  refine ⟨t, p, fun x B F ρ σ H d ρ' Q ok hf hQ => ?_⟩
  unfold yN at hf
  cases e1 : f ρ with
  | none => rw [e1] at hf; cases hf
  | some c =>
    rw [e1] at hf
    cases hf
    exact q x B F ρ σ H d Q ok e1 fun v B' H' fp g ok' o n l => hQ v B' F H' fp g.bb ok' o n fun a ha => ok'.loose ok (l a ha).1 (l a ha).2
def yMv (j : Nat) : YF := fun ρ => match ρ[j]? with
  | some (.on d) => some (d, ρ.set j .emp)
  | _ => none
theorem Ok.take {Γ : Ga} {x : Fx} {B : Hp} {F : Nat → List Addr} {ρ : Ev} {σ : St} {H : Hp} (o : Ok Γ x B F ρ σ H) {j : Nat} {d : D} (h : ρ[j]? = some (.on d)) : Ok Γ x B (offF F j) (ρ.set j .emp) σ H ∧ ∃ v, σ[j]? = some (some v) ∧ Own Γ H d v (F j) ∧ ∀ a ∈ F j, Loose x B (offF F j) a := by
  obtain ⟨v, q1, q2, q3⟩ := o.at_ j _ h
  have hlt := (List.getElem?_eq_some_iff.mp h).1
  refine ⟨⟨o.kp, o.bh, o.tup, o.born, o.bk, o.dom, fun i a ha => o.fk i a (offF_sub ha).1, fun i k a h1 h2 => o.dj i k a (offF_sub h1).1 (offF_sub h2).1, fun i => ?_, fun i hi => ?_, by rw [List.length_set, o.len], fun i s hs => ?_⟩, v, q1, q2, fun a ha => ?_⟩
  · unfold offF; split; exact List.nodup_nil; exact o.nd i
  · rw [List.length_set] at hi
    unfold offF
    split
    · rfl
    · exact o.out i hi
  · by_cases q : i = j
    · subst q
      rw [List.getElem?_set_self hlt] at hs
      cases hs
      exact if_pos rfl
    · rw [List.getElem?_set_ne (Ne.symm q)] at hs
      rw [show offF F j i = F i from if_neg q]
      exact o.at_ i s hs
  · obtain ⟨h1, h2, h3⟩ := o.fk j a ha
    refine ⟨h2, h1, q3 a ha, fun i z => ?_⟩
    obtain ⟨z1, z2⟩ := offF_sub z
    exact z2 (o.dj i j a z1 ha)
theorem puy_mv (j : Nat) {x : Str} (hN : X.N[j]? = some x := by rfl) (hv : Vis X.env.scope x := by first | exact Or.inl rfl | exact Or.inr (Or.inl rfl) | exact Or.inr (Or.inr rfl))
    (hd : (x == ("__debug__" : Str)) = false := by decide) (hcd : (x == ("__classdict__" : Str)) = false := by decide) : PuY cm X (.Name x pos) (yMv j) := by
  refine ⟨_, pe_var hN hv hd hcd, fun z B F ρ σ H d ρ' Q ok hf hQ => ?_⟩
  unfold yMv at hf
  split at hf
  · rename_i c hc
    cases hf
    obtain ⟨ok', v, q1, q2, q3⟩ := ok.take hc
    exact ⟨v, q1, hQ v B _ H (F j) (Same.refl B) ok' q2 (ok.nd j) q3⟩
  · cases hf
theorem loose_gr {x : Fx} {B B' H H' : Hp} {F : Nat → List Addr} {Γ : Ga} {d : D} {v : V} {fp : List Addr} (bh : Same B' H') (g : Gr B H B' H') (o : Own Γ H d v fp) (l : ∀ a ∈ fp, Loose x B F a) : ∀ a ∈ fp, Loose x B' F a := fun a ha => by
  obtain ⟨u, hu, bx⟩ := o.box a ha
  obtain ⟨h1, h2, h3, h4⟩ := l a ha
  exact ⟨box_gr bh g h1 hu bx, h2, h3, h4⟩
/-! ### P.f = e -/
def putFD (f : Str) (x : D) : List (Str × D) → List (Str × D)
  | [] => [(f, x)]
  | (g, d) :: r => if g = f then (g, x) :: r else (g, d) :: putFD f x r
theorem OwnF.put {Γ : Ga} {H : Hp} {f : Str} {x : D} {v : V} {fx : List Addr} (hx : Own Γ H x v fx) : ∀ {ds : List (Str × D)} {vs : List (Str × V)} {fp : List Addr}, OwnF Γ H ds vs fp → (fp ++ fx).Nodup →
    ∃ fz, OwnF Γ H (putFD f x ds) (putF f v vs) fz ∧ fz.Nodup ∧ ∀ b ∈ fz, b ∈ fp ∨ b ∈ fx
  | [], _, _, h, hn => by
    obtain ⟨rfl, rfl⟩ := h
    exact ⟨fx, ⟨v, [], fx, [], rfl, hx, ⟨rfl, rfl⟩, by simp⟩, by simpa using hn, fun b hb => .inr hb⟩
  | (g, d) :: r, _, _, ⟨u, s, f1, f2, e, h1, h2, ef⟩, hn => by
    subst e ef
    have hn2 : (f2 ++ fx).Nodup := by
      rw [List.append_assoc] at hn
      exact (List.nodup_append.mp hn).2.1
    by_cases q : g = f
    · rw [putFD, if_pos q, putF, if_pos q]
      refine ⟨fx ++ f2, ⟨v, s, fx, f2, rfl, hx, h2, rfl⟩, ?_, fun b hb => ?_⟩
      · rw [List.nodup_append] at hn2 ⊢
        exact ⟨hn2.2.1, hn2.1, fun a ha b hb e => hn2.2.2 b hb a ha e.symm⟩
      · rcases List.mem_append.mp hb with hb | hb
        · exact .inr hb
        · exact .inl (by simp [hb])
    · rw [putFD, if_neg q, putF, if_neg q]
      obtain ⟨fz, o, n, m⟩ := OwnF.put hx h2 hn2
      refine ⟨f1 ++ fz, ⟨u, _, f1, fz, rfl, h1, o, rfl⟩, ?_, fun b hb => ?_⟩
      · rw [List.append_assoc, List.nodup_append] at hn
        refine List.nodup_append.mpr ⟨hn.1, n, fun a ha b hb e => ?_⟩
        rcases m b hb with z | z
        · exact hn.2.2 a ha b (by simp [z]) e
        · exact hn.2.2 a ha b (by simp [z]) e
      · rcases List.mem_append.mp hb with hb | hb
        · exact .inl (by simp [hb])
        · exact (m b hb).imp (fun z => by simp [z]) id
theorem OwnF.length {Γ : Ga} {H : Hp} : ∀ {ds : List (Str × D)} {vs : List (Str × V)} {fp : List Addr}, OwnF Γ H ds vs fp → vs.length = ds.length
  | [], _, _, h => by rw [h.1]; rfl
  | _ :: _, _, _, ⟨v, r, f1, f2, e, _, h2, _⟩ => by subst e; rw [List.length_cons, List.length_cons, OwnF.length h2]
theorem own_ins {Γ : Ga} {H : Hp} {c : Nat} {fs : List (Str × D)} {v : V} {fp : List Addr} (h : Own Γ H (.ins c fs) v fp) : ∃ a dx vs fq, v = .ref a ∧ H a = some (.ins (Γ.cm c) dx vs) ∧ OwnF Γ H fs vs fq ∧ fp = a :: fq := h
/-- the field itself is written: the state behind -/
theorem fld_write {i : Nat} {x : Fx} {B : Hp} {F : Nat → List Addr} {ρ : Ev} {σ : St} {H : Hp} {pth : List Stp} {c : Nat} {fs : List (Str × D)} {f : Str} {y d0 : D} {a : Addr} {v0 u : V} {dx : Addr} {vs : List (Str × V)} {fx : List Addr} {Q : Hp → Prop} (ok : Ok (gx X cm) x B F ρ σ H) (ew : wayD ρ i pth = some (.ins c fs)) (ho0 : ownD ρ i = some d0)
    (hv0 : σ[i]? = some (some v0)) (hg : vgets H v0 pth = some (.ref a)) (h1 : H a = some (.ins (cm c) dx vs)) (ou : Own (gx X cm) H y u fx) (nu : fx.Nodup) (lu : ∀ a ∈ fx, Loose x B F a)
    (hQ : ∀ H' F', Ok (gx X cm) x B F' (setOwn ρ i (dreps d0 pth (.ins c (putFD f y fs)))) σ H' → Q H') : Q (upd H a (.ins (cm c) dx (putF f u vs))) := by
  obtain ⟨F', ok3⟩ := ok.writePart (y := .ins c (putFD f y fs)) (u := .ins (cm c) dx (putF f u vs)) (fx := fx) ew hv0 hg trivial (fun fq2 hq nq => by
      obtain ⟨a', dx', vs', fr', ea, k1', k2', ef⟩ := own_ins hq
      cases ea
      rw [h1] at k1'
      cases k1'
      cases ef
      have hkeep : ∀ b, b ≠ a → (upd H a (.ins (cm c) dx (putF f u vs))) b = H b := fun b hb => upd_ne hb
      have tk : TupK H (upd H a (.ins (cm c) dx (putF f u vs))) := TupK.upd (by intro xs z; rw [h1] at z; cases z)
      rw [List.cons_append, List.nodup_cons] at nq
      obtain ⟨fz, o, n, m⟩ := OwnF.put (f := f) (ou.keep tk fun b hb => hkeep b fun z => nq.1 (by rw [← z]; simp [hb])) (k2'.keep tk fun b hb => hkeep b fun z => nq.1 (by rw [← z]; simp [hb])) nq.2
      refine ⟨a :: fz, ⟨a, dx, _, fz, rfl, upd_same, o, rfl⟩, List.nodup_cons.mpr ⟨fun hb => nq.1 (List.mem_append.mpr (m a hb)), n⟩, fun b hb => ?_⟩
      rcases List.mem_cons.mp hb with rfl | hb
      · exact .inl (by simp)
      · exact (m b hb).imp (fun z => by simp [z]) id) nu lu ⟨_, h1, trivial⟩ (fun fq hq => by
      obtain ⟨a', dx', vs', fr', ea, _, _, ef⟩ := own_ins hq
      cases ea
      exact ⟨fr', ef⟩) d0 ho0
  exact hQ _ F' ok3
def sFldY (n : Nat) (f : Str) (i : Nat) (w : WF) (g : YF) : SF := fun ρ => (g ρ).bind fun y => (w y.2).bind fun p => (wayD y.2 i p).bind fun d => match d with
  | .ins c fs => if c = n ∧ fs.length < 1000 then (putW y.2 i p (.ins c (putFD f y.1 fs))).map .nx else none
  | _ => none
theorem pus_fldY (n : Nat) {f : Str} {i : Nat} {w : WF} {g : YF} {pos' : Pos} (hc : Cls X.K (cm n)) (hn : NoAttr X.K (cm n) f) (hv : PuY cm X e2 g) (hP : PuL cm X e i w) (hs : swapsWith e2 (some (.Attribute e f pos')) pos.line X.env = pure false := by rfl) : PuS cm X (.Assign [.Attribute e f pos'] e2 pos) (sFldY n f i w g) := by
  obtain ⟨t, p, q⟩ := hv
  obtain ⟨t2, p2, q2⟩ := hP
  refine ⟨_, ps_fld p2 p hs, fun x B F ρ σ H r E ok hf hE => ?_⟩
  unfold sFldY at hf
  cases e1 : g ρ with
  | none => rw [e1] at hf; cases hf
  | some y =>
    obtain ⟨y, ρ1⟩ := y
    rw [e1] at hf
    simp only [Option.bind_some] at hf
    cases e3 : w ρ1 with
    | none => rw [e3] at hf; cases hf
    | some pth =>
      rw [e3] at hf
      simp only [Option.bind_some] at hf
      cases ew : wayD ρ1 i pth with
      | none => rw [ew] at hf; cases hf
      | some d =>
        rw [ew] at hf
        simp only [Option.bind_some] at hf
        split at hf
        · rename_i c fs
          split at hf
          · rename_i hcn
            obtain ⟨rfl, hl⟩ := hcn
            obtain ⟨d0, ho0, _⟩ := wayD_some ew
            rw [putW, ho0] at hf
            cases hf
            refine q x B F ρ σ H y ρ1 _ ok e1 fun u B1 F1 H1 fx s1 ok1 ou nu lu => ?_
            refine q2 x B1 F1 ρ1 σ H1 pth _ _ ok1 e3 ew fun v v0 B2 H2 g2 ok2 hv0 hg2 => ?_
            obtain ⟨_, l, fq, rr, _, _, ho, _⟩ := ok2.part ew hv0 hg2
            obtain ⟨a, dx, vs, fr, rfl, h1, h2, rfl⟩ := own_ins ho
            refine ⟨a, cm c, dx, vs, rfl, h1, hc, hn, by rw [h2.length]; exact hl, ?_⟩
            exact fld_write (Q := fun H => E.nx σ H) ok2 ew ho0 hv0 hg2 h1 (own_gr g2 ou) nu (loose_gr ok2.bh g2 ou lu) fun H' F' ok' => hE B2 F' σ H' (s1.trans g2.bb) ok'
          · cases hf
        · cases hf
/-! ### P.f += e -/
theorem getF_lookup {Γ : Ga} {H : Hp} : ∀ {ds : List (Str × D)} {vs : List (Str × V)} {f : Str} {d : D}, IsF Γ H ds vs → getF ds f = some d → ∃ v, vs.lookup f = some v ∧ Is Γ H d v
  | [], _, _, _, _, e => by simp [getF] at e
  | (g, d0) :: r, _, f, d, ⟨v, s, e, h1, h2⟩, q => by
    subst e
    rw [getF] at q
    by_cases hg : g = f
    · rw [if_pos hg] at q
      cases q
      exact ⟨v, by rw [hg]; exact lookup_pos, h1⟩
    · rw [if_neg hg] at q
      rw [lookup_neg hg]
      exact getF_lookup h2 q
def sFldA (n : Nat) (f : Str) (i : Nat) (w : WF) (fe : EF) : SF := fun ρ => (w ρ).bind fun p => (wayD ρ i p).bind fun d => match d with
  | .ins c fs => (getF fs f).bind fun a => (fe ρ).bind fun b => (augAdd a b.1).bind fun z => if c = n ∧ fs.length < 999 then (putW ρ i p (.ins c (putFD f z fs))).map .nx else none
  | _ => none
theorem inop_add : InOp X .Add (ipI fun i j => i + j) := fun pins s σ H x y u v Q I r1 r2 h => ip_add pins s σ H x y u v Q I r1 r2 h
theorem pus_fldA (n : Nat) {f : Str} {i : Nat} {w : WF} {fe : EF} {tpos : Pos} (hc : Cls X.K (cm n)) (hn : NoAttr X.K (cm n) f) (hv : PuE cm X e2 fe) (hP : PuL cm X e i w) : PuS cm X (.AugAssign (.Attribute e f tpos) .Add e2 pos) (sFldA n f i w fe) := by
  obtain ⟨t, p, q⟩ := hv
  obtain ⟨t2, p2, q2⟩ := hP
  refine ⟨_, ps_fldaug p2 p inop_add, fun x B F ρ σ H r E ok hf hE => ?_⟩
  unfold sFldA at hf
  cases e3 : w ρ with
  | none => rw [e3] at hf; cases hf
  | some pth =>
    rw [e3] at hf
    simp only [Option.bind_some] at hf
    cases ew : wayD ρ i pth with
    | none => rw [ew] at hf; cases hf
    | some d =>
      rw [ew] at hf
      simp only [Option.bind_some] at hf
      split at hf
      · rename_i c fs
        cases ef : getF fs f with
        | none => rw [ef] at hf; cases hf
        | some av =>
          rw [ef] at hf
          simp only [Option.bind_some] at hf
          cases ee : fe ρ with
          | none => rw [ee] at hf; cases hf
          | some b =>
            rw [ee] at hf
            simp only [Option.bind_some] at hf
            cases ez : augAdd av b.1 with
            | none => rw [ez] at hf; cases hf
            | some z =>
              rw [ez] at hf
              simp only [Option.bind_some] at hf
              split at hf
              · rename_i hcn
                obtain ⟨rfl, hl⟩ := hcn
                obtain ⟨d0, ho0, _⟩ := wayD_some ew
                rw [putW, ho0] at hf
                cases hf
                unfold augAdd at ez
                split at ez
                · rename_i n k eb
                  cases ez
                  refine q2 x B F ρ σ H pth _ _ ok e3 ew fun v v0 B2 H2 g2 ok2 hv0 hg2 => ?_
                  obtain ⟨_, l, fq, rr, _, _, ho, _⟩ := ok2.part ew hv0 hg2
                  obtain ⟨a, dx, vs, fr, rfl, h1, h2, rfl⟩ := own_ins ho
                  obtain ⟨w0, hw, hiw⟩ := getF_lookup (Γ := gx X cm) (H := H2) (OwnF.isIn tupOf_same (fun _ _ => rfl) h2) ef
                  refine ⟨a, cm c, dx, vs, w0, rfl, h1, hc, hn, hw, ?_⟩
                  refine q x B2 F ρ σ H2 _ _ _ ok2 ee fun u B3 H3 g3 ok3 hu => ?_
                  have hu := hu.is ok3
                  rw [eb] at hu
                  cases hu
                  cases hiw
                  refine ⟨n, k, rfl, rfl, dx, vs, g3.hh _ _ h1, by rw [h2.length]; omega, ?_⟩
                  exact fld_write (Q := fun H => E.nx σ H) (u := .int (n + k)) (y := .int (n + k)) (fx := []) ok3 ew ho0 hv0 (vgets_gr g3 hg2) (g3.hh _ _ h1) ⟨rfl, rfl⟩ List.nodup_nil (fun _ h => nomatch h) fun H' F' ok' => hE B3 F' σ H' (g2.bb.trans g3.bb) ok'
                · cases ez
              · cases hf
      · cases hf
/-! ### P[k] += e -/
def rGetA (K : PySem.W.Frag) : V → V → Hp → VK → Prop := fun o i H Q => rIxL K o i H Q ∨ ∃ p v, o = .ref p ∧ DGet H p i (some v) ∧ Q v H
theorem get_any (hu : X.A.units + 1 < cLine) : PGet X (rGetA X.K) := by
  intro pins s σ H o i ov iv Q I ro ri h
  rcases h with h | ⟨p, v, rfl, g, q⟩
  · obtain ⟨p, xs, k, z, rfl, rfl, hq, he, q⟩ := h
    cases ro
    obtain ⟨t, rfl⟩ := ri
    obtain ⟨its, r, pl, hz⟩ := I.list hq
    obtain ⟨j, h1, h2, h3, h4, h5⟩ := atI_get he
    obtain ⟨w, ew, rw'⟩ := r.get h2
    have hl := r.length
    have hn := line63
    have fin : EP X pins σ Q w s := ⟨z, H, I, rw', q⟩
    by_cases h0 : 0 ≤ k
    · have hj : k.toNat = j := by
        rw [seqIndex_of h0 h5] at h1
        exact Option.some.inj h1
      exact wpAny_getItem_list pl.isList h0 (by omega) (by rw [hj]; simpa using ew) fin
    · have hj : (k + (its.toArray.size : Int)).toNat = j := by
        rw [seqIndex_neg (by omega) h4] at h1
        rw [List.size_toArray, ← hl]
        exact Option.some.inj h1
      exact wpAny_getItem_list_neg pl.isList (by omega) (by rw [List.size_toArray] <;> omega) (by omega) (by rw [hj]; simpa using ew) fin
  · cases ro
    exact d_getItem hu I g ri fun w' s3 I3 rw' => ⟨v, H, I3, rw', q⟩
def sAugP (i : Nat) (w : WF) (fk fe : EF) : SF := fun ρ => (w ρ).bind fun p => (wayD ρ i p).bind fun d => (fk ρ).bind fun k => (ixD d k.1).bind fun c => (fe ρ).bind fun b => (augAdd c b.1).bind fun z => (itemD d k.1 z).bind fun d' => (putW ρ i p d').map .nx
theorem get_own {Γ : Ga} {H : Hp} {d k c y z : D} {v u : V} {fp : List Addr} {Q : VK} (h : Own Γ H d v fp) (hk : Is Γ H k u) (e : ixD d k = some c) (hz : itemD d k y = some z) (hQ : ∀ w, Is Γ H c w → Q w H) : rGetA Γ.K v u H Q := by
  cases d with
  | lst ds =>
    obtain ⟨a, vs, fq, rfl, h1, h2, _⟩ := h
    cases k with
    | int i =>
      cases hk
      obtain ⟨w, e1, e2⟩ := atI_iss (Owns.isIn (R := H) tupOf_same (fun _ _ => rfl) h2) e
      exact .inl ⟨a, vs, i, w, rfl, rfl, SqL.of h1, e1, hQ w e2⟩
    | _ => simp [ixD] at e
  | dic kvs =>
    obtain ⟨a, vs, fq, rfl, h1, h2, _⟩ := h
    have e : ((keyOf k).bind fun k => getK kvs k) = some c := by cases k <;> exact e
    cases e1 : keyOf k with
    | none => rw [e1] at e; cases e
    | some kk =>
      rw [e1] at e
      simp only [Option.bind_some] at e
      cases keyOf_is e1 hk
      obtain ⟨w, g1, g2⟩ := (OwnK.isIn (R := H) tupOf_same (fun _ _ => rfl) h2).some e
      exact .inr ⟨a, w, rfl, by rw [← g1]; exact DGet.k h1, hQ w g2⟩
  | _ => simp [itemD] at hz
theorem pus_augP {i : Nat} {w : WF} {fk fe : EF} {k : Expr} {tpos : Pos} (hu : X.A.units + 1 < cLine) (hP : PuL cm X e i w) (hk : PuE cm X k fk) (hv : PuE cm X e2 fe)
    (ha : ∀ ov iv new, augStore k ov iv new = (do holding [new, ov, iv] (setItem ov iv new); release [new, ov, iv] []; pure .next) := by intros; rfl) : PuS cm X (.AugAssign (.Subscript e k tpos) .Add e2 pos) (sAugP i w fk fe) := by
  obtain ⟨t, p, q⟩ := hv
  obtain ⟨t2, p2, q2⟩ := hP
  obtain ⟨t3, p3, q3⟩ := hk
  refine ⟨_, ps_augS p2 p3 (get_any hu) p ip_add (set_any hu) ha, fun x B F ρ σ H r E ok hf hE => ?_⟩
  unfold sAugP at hf
  cases e3 : w ρ with
  | none => rw [e3] at hf; cases hf
  | some pth =>
    rw [e3] at hf
    simp only [Option.bind_some] at hf
    cases ew : wayD ρ i pth with
    | none => rw [ew] at hf; cases hf
    | some d =>
      rw [ew] at hf
      simp only [Option.bind_some] at hf
      cases ek : fk ρ with
      | none => rw [ek] at hf; cases hf
      | some kk =>
        rw [ek] at hf
        simp only [Option.bind_some] at hf
        cases ec : ixD d kk.1 with
        | none => rw [ec] at hf; cases hf
        | some c =>
          rw [ec] at hf
          simp only [Option.bind_some] at hf
          cases ee : fe ρ with
          | none => rw [ee] at hf; cases hf
          | some b =>
            rw [ee] at hf
            simp only [Option.bind_some] at hf
            cases ez : augAdd c b.1 with
            | none => rw [ez] at hf; cases hf
            | some z =>
              rw [ez] at hf
              simp only [Option.bind_some] at hf
              cases ei : itemD d kk.1 z with
              | none => rw [ei] at hf; cases hf
              | some d' =>
                rw [ei] at hf
                simp only [Option.bind_some] at hf
                obtain ⟨d0, ho0, _⟩ := wayD_some ew
                rw [putW, ho0] at hf
                cases hf
                unfold augAdd at ez
                split at ez
                · rename_i n m eb
                  cases ez
                  refine q2 x B F ρ σ H pth _ _ ok e3 ew fun v v0 B2 H2 g2 ok2 hv0 hg2 => ?_
                  refine q3 x B2 F ρ σ H2 _ _ _ ok2 ek fun ku B3 H3 g3 ok3 hku => ?_
                  have hg3 := vgets_gr g3 hg2
                  obtain ⟨_, l, fq, rr, _, _, ho, _⟩ := ok3.part ew hv0 hg3
                  refine get_own ho (hku.is ok3) ec ei fun w0 hw0 => ?_
                  cases hw0
                  refine q x B3 F ρ σ H3 _ _ _ ok3 ee fun u B4 H4 g4 ok4 hu4 => ?_
                  have hu4 := hu4.is ok4
                  rw [eb] at hu4
                  cases hu4
                  refine ⟨n, m, rfl, rfl, ?_⟩
                  exact item_write (Q := fun H => E.nx σ H) (y := .int (n + m)) (u := .int (n + m)) (fx := []) ok4 ok4 (Gr.refl _ _) ew ho0 hv0 (vgets_gr g4 hg3) (hku.is ok3 |>.mono g4.hh) ⟨rfl, rfl⟩ List.nodup_nil (fun _ h => nomatch h) ei fun H' F' ok' => hE B4 F' σ H' (g2.bb.trans (g3.bb.trans g4.bb)) ok'
                · cases ez
/-! ### P.pop() -/
def sPop (j i : Nat) (w : WF) : SF := fun ρ => (w ρ).bind fun p => (wayD ρ i p).bind fun d => match d with
  | .lst ds => (ds[ds.length - 1]?).bind fun y => if flat y = true then (putW ρ i p (.lst ds.dropLast)).bind fun ρ1 => (setS j y .new ρ1).map .nx else none
  | _ => none
theorem Owns.dropLast {Γ : Ga} {H : Hp} : ∀ {ds : List D} {vs : List V} {fp : List Addr}, Owns Γ H ds vs fp → fp.Nodup → ∃ fq, Owns Γ H ds.dropLast vs.dropLast fq ∧ fq.Nodup ∧ ∀ b ∈ fq, b ∈ fp
  | [], _, _, h, _ => by
    obtain ⟨rfl, rfl⟩ := h
    exact ⟨[], ⟨rfl, rfl⟩, List.nodup_nil, fun _ h => h⟩
  | [d], _, _, ⟨u, s, f1, f2, e, h1, h2, ef⟩, hn => by
    subst e ef
    obtain ⟨rfl, rfl⟩ := h2
    exact ⟨[], ⟨rfl, rfl⟩, List.nodup_nil, fun _ h => nomatch h⟩
  | d :: d2 :: r, _, _, ⟨u, s, f1, f2, e, h1, h2, ef⟩, hn => by
    subst e ef
    have hn' := List.nodup_append.mp hn
    obtain ⟨fq, o, n, m⟩ := Owns.dropLast h2 hn'.2.1
    obtain ⟨v2, s2, _, _, e2, _, _, _⟩ := h2
    subst e2
    refine ⟨f1 ++ fq, ⟨u, _, f1, fq, rfl, h1, o, rfl⟩, List.nodup_append.mpr ⟨hn'.1, n, fun a ha b hb e => hn'.2.2 a ha b (m b hb) e⟩, fun b hb => ?_⟩
    rcases List.mem_append.mp hb with hb | hb
    · simp [hb]
    · simp [m b hb]
theorem pus_pop (j : Nat) {x : Str} {i : Nat} {w : WF} {apos cpos pos' : Pos} (hN : X.N.Nodup) (hP : PuL cm X e i w) (hi : X.N[j]? = some x := by rfl) (hx : Loc X.env.scope x := by first | exact .inl rfl | exact .inr rfl)
    (hs : swapsWith (.Call (.Attribute e "pop" apos) [] [] cpos) (some (.Name x pos')) pos.line X.env = pure false := by rfl) (hf : X.fn x = true ∨ X.env.scope.names.lookup x = some .local := by first | exact .inl rfl | exact .inr rfl)
    (hbase : attributeBase e "pop" X.env (eval e X.env) = eval e X.env := by rfl) (hline : (apos.endLine == cpos.line) = true := by rfl) : PuS cm X (.Assign [.Name x pos'] (.Call (.Attribute e "pop" apos) [] [] cpos) pos) (sPop j i w) := by
  obtain ⟨t, p, q⟩ := hP
  refine ⟨_, ps_set hN hi hx (pe_bm0 PySem.F.plainAttrs_list PySem.F.slot_list_pop PySem.F.type_list_pop mt_pop p hbase hline) hs hf, fun x B F ρ σ H r E ok hf hE => ?_⟩
  unfold sPop at hf
  cases e1 : w ρ with
  | none => rw [e1] at hf; cases hf
  | some pth =>
    rw [e1] at hf
    simp only [Option.bind_some] at hf
    cases ew : wayD ρ i pth with
    | none => rw [ew] at hf; cases hf
    | some d =>
      rw [ew] at hf
      simp only [Option.bind_some] at hf
      split at hf
      · rename_i ds
        cases ey : ds[ds.length - 1]? with
        | none => rw [ey] at hf; cases hf
        | some y =>
          rw [ey] at hf
          simp only [Option.bind_some] at hf
          split at hf
          · rename_i hfl
            obtain ⟨d0, ho0, _⟩ := wayD_some ew
            rw [putW, ho0] at hf
            simp only [Option.map_some, Option.bind_some] at hf
            cases es : setS j y .new (setOwn ρ i (dreps d0 pth (.lst ds.dropLast))) with
            | none => rw [es] at hf; cases hf
            | some ρ2 =>
              rw [es] at hf
              cases hf
              refine q x B F ρ σ H pth _ _ ok e1 ew fun v v0 B1 H1 g1 ok1 hv0 hg1 => ?_
              obtain ⟨_, l, fq, rr, _, _, ho, _⟩ := ok1.part ew hv0 hg1
              obtain ⟨a, vs, fr, rfl, h1, h2, rfl⟩ := own_lst ho
              have hlv : vs.length = ds.length := h2.length
              obtain ⟨u, eu, hu⟩ := (Owns.isIn (R := H1) tupOf_same (fun _ _ => rfl) h2).get ey
              refine ⟨.inl ⟨rfl, _, SqL.of h1⟩, a, vs, u, rfl, rfl, h1, by rw [hlv]; exact eu, ?_⟩
              obtain ⟨F', ok3⟩ := ok1.writePart (y := .lst ds.dropLast) (u := .lst vs.dropLast) (fx := []) ew hv0 hg1 trivial (fun fq2 hq nq => by
                  obtain ⟨a', vs', fr', ea, k1', k2', ef⟩ := own_lst hq
                  cases ea
                  rw [h1] at k1'
                  cases k1'
                  cases ef
                  have hkeep : ∀ b, b ≠ a → (upd H1 a (.lst vs.dropLast)) b = H1 b := fun b hb => upd_ne hb
                  have tk : TupK H1 (upd H1 a (.lst vs.dropLast)) := TupK.upd (by intro xs z; rw [h1] at z; cases z)
                  rw [List.append_nil, List.nodup_cons] at nq
                  obtain ⟨fz, o, n, m⟩ := Owns.dropLast (k2'.keep tk fun b hb => hkeep b fun z => nq.1 (by rw [← z]; exact hb)) nq.2
                  refine ⟨a :: fz, ⟨a, _, fz, rfl, upd_same, o, rfl⟩, List.nodup_cons.mpr ⟨fun hb => nq.1 (m a hb), n⟩, fun b hb => ?_⟩
                  rcases List.mem_cons.mp hb with rfl | hb
                  · exact .inl (by simp)
                  · exact .inl (by simp [m b hb])) List.nodup_nil (fun _ h => nomatch h) ⟨_, h1, trivial⟩ (fun fq hq => by
                  obtain ⟨a', vs', fr', ea, _, _, ef⟩ := own_lst hq
                  cases ea
                  exact ⟨fr', ef⟩) d0 ho0
              have hu3 : Is (gx X cm) (upd H1 a (.lst vs.dropLast)) y u := Is.mono (fun b o e => by
                obtain ⟨e1, xs, rfl⟩ := tupOf_some e
                rw [upd_ne (fun z => by rw [z, h1] at e1; cases e1)]
                exact e1) (Is.ofFlat hfl hu)
              exact hE B1 _ _ _ g1.bb (ok3.setS es (show Is (gx X cm) B1 y u from Val.new ok3 (m := .own) (by simp [hfl]) hu3))
          · cases hf
      · cases hf
/-! ### list(xs) as a fresh thing -/
def nLstC (g : AF) : NF := fun ρ => (g ρ).bind fun as => match lstC (as.map (·.1)) with
  | some (.lst ds) => if flats ds = true then some (.lst ds) else none
  | _ => none
theorem pn_lstc {g : AF} {p : Pos} (hm : X.mg "list" = none) (ha : PuA cm X (e :: es) g) (hg : Gl X "list" := by rfl)
    (he : starEach (e :: es) X.env = (false, eval e X.env) :: starEach es X.env := by rfl) (hpl : (backTo pos (starEach es X.env)).any (·.1) = false := by rfl) : PuN cm X (.Call (.Name "list" p) (e :: es) [] pos) (nLstC g) := by
  obtain ⟨t, pa, qa⟩ := ha
  refine ⟨_, pe_callTy call_list_of hg hm (by decide +kernel) pa (by decide) (by decide) he hpl, fun x B F ρ σ H d Q ok hf hQ => ?_⟩
  unfold nLstC at hf
  cases e1 : g ρ with
  | none => rw [e1] at hf; cases hf
  | some as =>
    rw [e1] at hf
    simp only [Option.bind_some] at hf
    split at hf
    · rename_i ds el
      split at hf
      · rename_i hfl
        cases hf
        refine qa x B F ρ σ H as _ ok e1 fun vs B1 H1 g1 ok1 hvs => ?_
        have h := paired_iss ok1 hvs
        have fin : ∀ us, Iss (gx X cm) H1 ds us → ∀ l, H1 l = none → Q (.ref l) (upd H1 l (.lst us)) := fun us hus l hl => by
          obtain ⟨g2, ok2⟩ := ok1.laidH (o := .lst us) hl (fun xs z => nomatch z)
          refine hQ (.ref l) B1 _ [l] (g1.trans g2) ok2 ⟨l, us, [], rfl, upd_same, Owns.ofFlat hfl (hus.mono g2.hh), rfl⟩ (by simp) fun a ha => ?_
          rcases List.mem_cons.mp ha with rfl | ha
          · exact ⟨g1.hh.free hl, Same.free ok1.bh hl⟩
          · cases ha
        unfold lstC at el
        split at el
        · rename_i ds0 eas
          rw [eas] at h
          split at el
          · cases el
            obtain ⟨v, rfl, p, us, rfl, h1, h2⟩ := iss1 h
            exact ⟨p, us, rfl, .inl (SqL.of h1), fin us h2⟩
          · cases el
        · rename_i ds0 eas
          rw [eas] at h
          split at el
          · cases el
            obtain ⟨v, rfl, p, us, rfl, h1, h2⟩ := iss1 h
            exact ⟨p, us, rfl, .inr (SqT.of h1), fin us h2⟩
          · cases el
        · rename_i ns eas
          rw [eas] at h
          cases el
          obtain ⟨v, rfl, p, rfl, h1⟩ := iss1 h
          exact ⟨p, _, rfl, .inl h1, fin _ (Iss.scr _)⟩
        · cases el
      · cases hf
    · cases hf
end
end DL

/-! DL26: the functions of data reckoned by what holds behind (Wp). -/
namespace DL
open PySem L2
def Wp (g : SF) (ρ : Ev) (Φ : Fl → Prop) : Prop := ∃ r, g ρ = some r ∧ Φ r
theorem wp_se {g : SF} {ρ : Ev} {r : Fl} {Φ : Fl → Prop} (h : Se g ρ r) (h2 : Φ r) : Wp g ρ Φ := ⟨r, h, h2⟩
theorem Wp.imp {g : SF} {ρ : Ev} {Φ Ψ : Fl → Prop} (h : Wp g ρ Φ) (hi : ∀ r, Φ r → Ψ r) : Wp g ρ Ψ := by
  obtain ⟨r, h1, h2⟩ := h
  exact ⟨r, h1, hi r h2⟩
theorem wp_nx {g h : SF} {ρ ρ' : Ev} {Φ : Fl → Prop} (h1 : Se g ρ (.nx ρ')) (h2 : Wp h ρ' Φ) : Wp (bSeq g h) ρ Φ := by
  obtain ⟨r, h3, h4⟩ := h2
  exact ⟨r, se_seq h1 h3, h4⟩
theorem wp_seq {g h : SF} {ρ : Ev} {Φ : Fl → Prop} (h1 : Wp g ρ fun r => match r with
    | .nx ρ' => Wp h ρ' Φ
    | r => Φ r) : Wp (bSeq g h) ρ Φ := by
  obtain ⟨r, h2, h3⟩ := h1
  unfold Wp bSeq
  rw [h2]
  cases r with
  | nx ρ' => exact h3
  | rt d ρ' => exact ⟨_, rfl, h3⟩
  | bk ρ' => exact ⟨_, rfl, h3⟩
  | ct ρ' => exact ⟨_, rfl, h3⟩
/-- a part that always goes on -/
theorem wp_mid {g h : SF} {ρ : Ev} {Φ : Fl → Prop} (P : Ev → Prop) (h1 : Wp g ρ fun r => ∃ ρ', r = .nx ρ' ∧ P ρ') (h2 : ∀ ρ', P ρ' → Wp h ρ' Φ) : Wp (bSeq g h) ρ Φ := by
  obtain ⟨r, e, ρ', rfl, hp⟩ := h1
  exact wp_nx e (h2 ρ' hp)
theorem wp_end {g : SF} {ρ ρ' : Ev} {Φ : Fl → Prop} (h1 : Se g ρ (.nx ρ')) (h2 : Φ (.nx ρ')) : Wp g ρ Φ := ⟨_, h1, h2⟩
theorem wp_nil {ρ : Ev} {Φ : Fl → Prop} (h : Φ (.nx ρ)) : Wp bNil ρ Φ := ⟨_, rfl, h⟩
theorem wp_brk {ρ : Ev} {Φ : Fl → Prop} (h : Φ (.bk ρ)) : Wp sBreak ρ Φ := ⟨_, rfl, h⟩
theorem wp_ret {f : EF} {ρ : Ev} {d : D} {Φ : Fl → Prop} (h : Vf f ρ d) (h2 : flat d = true) (h3 : Φ (.rt d ρ)) : Wp (sRet f) ρ Φ := ⟨_, sf_ret h h2, h3⟩
theorem wp_retn {f : EF} {ρ : Ev} {d : D} {Φ : Fl → Prop} (h : Ve f ρ d .new) (h3 : Φ (.rt d ρ)) : Wp (sRet f) ρ Φ := ⟨_, sn_ret h, h3⟩
theorem wp_retOn {i : Nat} {ρ : Ev} {d : D} {Φ : Fl → Prop} (h : ρ[i]? = some (.on d)) (h3 : Φ (.rt d (ρ.set i (.fn d)))) : Wp (sRetOn i) ρ Φ := ⟨_, se_retOn h, h3⟩
theorem wp_if {c : Ev → Option Bool} {g h : SF} {ρ : Ev} {b : Bool} {Φ : Fl → Prop} (h1 : Te c ρ b) (ht : b = true → Wp g ρ Φ) (hf : b = false → Wp h ρ Φ) : Wp (sIf c g h) ρ Φ := by
  cases b with
  | true => obtain ⟨r, h2, h3⟩ := ht rfl; exact ⟨r, se_if_t h1 rfl h2, h3⟩
  | false => obtain ⟨r, h2, h3⟩ := hf rfl; exact ⟨r, se_if_f h1 rfl h2, h3⟩
theorem wp_if_t {c : Ev → Option Bool} {g h : SF} {ρ : Ev} {b : Bool} {Φ : Fl → Prop} (h1 : Te c ρ b) (hb : b = true) (h2 : Wp g ρ Φ) : Wp (sIf c g h) ρ Φ := wp_if h1 (fun _ => h2) fun z => by rw [hb] at z; cases z
theorem wp_if_f {c : Ev → Option Bool} {g h : SF} {ρ : Ev} {b : Bool} {Φ : Fl → Prop} (h1 : Te c ρ b) (hb : b = false) (h2 : Wp h ρ Φ) : Wp (sIf c g h) ρ Φ := wp_if h1 (fun z => by rw [hb] at z; cases z) fun _ => h2
theorem wp_g {c : Ev → Option Bool} {g h : SF} {ρ : Ev} {b : Bool} {Φ : Fl → Prop} (h1 : Te c ρ b) (ht : b = true → Wp (bSeq g h) ρ Φ) (hf : b = false → Wp h ρ Φ) : Wp (bSeq (sIf c g bNil) h) ρ Φ := by
  cases b with
  | true =>
    obtain ⟨r, h2, h3⟩ := ht rfl
    refine ⟨r, ?_, h3⟩
    unfold Te at h1
    rw [← h2]
    unfold bSeq sIf
    rw [h1]
    rfl
  | false => exact wp_nx (se_if_f h1 rfl se_nil) (hf rfl)
theorem wp_gr {c : Ev → Option Bool} {g h : SF} {ρ : Ev} {b : Bool} {Φ : Fl → Prop} (h1 : Te c ρ b) (ht : b = true → Wp g ρ fun r => ∃ d ρ', r = .rt d ρ' ∧ Φ r) (hf : b = false → Wp h ρ Φ) : Wp (bSeq (sIf c g bNil) h) ρ Φ := by
  refine wp_g h1 (fun hb => ?_) hf
  obtain ⟨r, h2, d, ρ', rfl, h3⟩ := ht hb
  exact ⟨_, se_seq_rt h2, h3⟩
theorem wp_now {g h : SF} {ρ : Ev} {Φ : Fl → Prop} (h1 : Wp g ρ fun r => ∃ d ρ', r = .rt d ρ' ∧ Φ r) : Wp (bSeq g h) ρ Φ := by
  obtain ⟨r, h2, d, ρ', rfl, h3⟩ := h1
  exact ⟨_, se_seq_rt h2, h3⟩
def FrK (P : Ev → Prop) (Ψ : Fl → Prop) : Fl → Prop
  | .nx ρ => P ρ
  | .ct ρ => P ρ
  | .bk ρ => Ψ (.nx ρ)
  | .rt d ρ => Ψ (.rt d ρ)
theorem forGo_wp {g : GF} {b : SF} {m : Md} (P : Nat → Ev → Prop) {Ψ : Fl → Prop} : ∀ {ds : List D} {ρ : Ev} (k : Nat), P k ρ → (∀ i d ρ, ds[i]? = some d → P (k + i) ρ → ∃ ρ1, g d (effm m d) ρ = some ρ1 ∧ Wp b ρ1 (FrK (P (k + i + 1)) Ψ)) → (∀ ρ', P (k + ds.length) ρ' → Ψ (.nx ρ')) →
    ∃ r, forGo g b m ds ρ = some r ∧ Ψ r
  | [], ρ, k, h0, _, he => ⟨_, rfl, he ρ h0⟩
  | d :: r, ρ, k, h0, h, he => by
    obtain ⟨ρ1, h1, fl, h2, h3⟩ := h 0 d ρ rfl h0
    have rec_ : ∀ ρ2, P (k + 1) ρ2 → ∃ r', forGo g b m r ρ2 = some r' ∧ Ψ r' := fun ρ2 hp => forGo_wp P (ds := r) (k + 1) hp (fun i d' ρ e p => by
      have q := h (i + 1) d' ρ (by simpa using e) (by rw [show k + (i + 1) = k + 1 + i by omega]; exact p)
      rw [show k + (i + 1) + 1 = k + 1 + i + 1 by omega] at q
      exact q) fun ρ' hp => he ρ' (by rw [List.length_cons, show k + (r.length + 1) = k + 1 + r.length by omega]; exact hp)
    rw [forGo, h1]
    simp only [Option.bind_some, h2]
    cases fl with
    | nx ρ2 => exact rec_ ρ2 h3
    | ct ρ2 => exact rec_ ρ2 h3
    | bk ρ2 => exact ⟨_, rfl, h3⟩
    | rt d ρ2 => exact ⟨_, rfl, h3⟩
theorem wp_for {f : IF} {g : GF} {b : SF} {ρ : Ev} {ds : List D} {m : Md} {Ψ : Fl → Prop} (P : Nat → Ev → Prop) (hx : Xe f ρ ds m) (hm : notOwn m = true) (h0 : P 0 ρ)
    (h : ∀ i d ρ, ds[i]? = some d → P i ρ → Sg g d (effm m d) ρ fun ρ1 => Wp b ρ1 (FrK (P (i + 1)) Ψ)) (he : ∀ ρ', P ds.length ρ' → Ψ (.nx ρ')) : Wp (sFor f g b) ρ Ψ := by
  obtain ⟨r, h1, h2⟩ := forGo_wp P (ds := ds) (ρ := ρ) (g := g) (b := b) (m := m) (Ψ := Ψ) 0 h0 (fun i d ρ e p => by
    rw [Nat.zero_add] at p ⊢
    exact h i d ρ e p) (fun ρ' hp => he ρ' (by rw [Nat.zero_add] at hp; exact hp))
  refine ⟨r, ?_, h2⟩
  unfold sFor Xe at *
  rw [hx]
  simp only [Option.bind_some, hm, if_true]
  exact h1
/-- a loop in a block, then the rest -/
theorem wp_forS {f : IF} {g : GF} {b h : SF} {ρ : Ev} {ds : List D} {m : Md} {Φ : Fl → Prop} (P : Nat → Ev → Prop) (hx : Xe f ρ ds m) (hm : notOwn m = true) (h0 : P 0 ρ)
    (hb : ∀ i d ρ, ds[i]? = some d → P i ρ → Sg g d (effm m d) ρ fun ρ1 => Wp b ρ1 (FrK (P (i + 1)) fun r => match r with
      | .nx ρ' => Wp h ρ' Φ
      | r => Φ r)) (he : ∀ ρ', P ds.length ρ' → Wp h ρ' Φ) : Wp (bSeq (sFor f g b) h) ρ Φ :=
  wp_seq (wp_for P hx hm h0 hb he)
theorem wp_while {c : Ev → Option Bool} {b : SF} {ρ : Ev} {Ψ : Fl → Prop} (M : Nat → Ev → Prop) {n : Nat} (h0 : M n ρ)
    (h : ∀ n ρ, M n ρ → ∃ k, Te c ρ k ∧ (k = true → Wp b ρ (FrK (fun ρ' => ∃ n', n' < n ∧ M n' ρ') Ψ)) ∧ (k = false → Ψ (.nx ρ))) : Wp (sWhile c b) ρ Ψ := by
  have key : ∀ n ρ, M n ρ → ∃ N r, whGo c b N ρ = some r ∧ Ψ r := by
    intro n
    induction n using Nat.strongRecOn with
    | ind n ih =>
      intro ρ hm
      obtain ⟨k, h1, ht, hf⟩ := h n ρ hm
      unfold Te at h1
      cases k with
      | false => exact ⟨1, .nx ρ, by rw [whGo, h1]; rfl, hf rfl⟩
      | true =>
        obtain ⟨fl, h2, h3⟩ := ht rfl
        cases fl with
        | nx ρ2 =>
          obtain ⟨n', hn, hm'⟩ := h3
          obtain ⟨N, r, h4, h5⟩ := ih n' hn ρ2 hm'
          exact ⟨N + 1, r, by rw [whGo, h1]; simp [h2, h4], h5⟩
        | ct ρ2 =>
          obtain ⟨n', hn, hm'⟩ := h3
          obtain ⟨N, r, h4, h5⟩ := ih n' hn ρ2 hm'
          exact ⟨N + 1, r, by rw [whGo, h1]; simp [h2, h4], h5⟩
        | bk ρ2 => exact ⟨1, _, by rw [whGo, h1]; simp [h2], h3⟩
        | rt d ρ2 => exact ⟨1, _, by rw [whGo, h1]; simp [h2], h3⟩
  obtain ⟨N, r, h1, h2⟩ := key n ρ h0
  exact ⟨r, sWhile_of h1, h2⟩
/-! ### defs -/
def RtK (Φ : D → Prop) : Fl → Prop
  | .rt d _ => Φ d
  | .nx _ => Φ .non
  | _ => False
theorem fn_wp {n k : Nat} {b : SF} {ds : List D} {Φ : D → Prop} (hl : ds.length = k) (h : Wp b (ent n ds) (RtK Φ)) : ∃ d, fnP n k b ds = some d ∧ Φ d := by
  obtain ⟨r, h1, h2⟩ := h
  unfold fnP
  rw [if_pos hl, h1]
  cases r with
  | nx ρ => exact ⟨_, rfl, h2⟩
  | rt d ρ => exact ⟨_, rfl, h2⟩
  | bk => exact h2.elim
  | ct => exact h2.elim
theorem fn_is {n k : Nat} {b : SF} {ds : List D} {d : D} (hl : ds.length = k) (h : Wp b (ent n ds) (RtK fun c => c = d)) : fnP n k b ds = some d := by
  obtain ⟨c, h1, rfl⟩ := fn_wp hl h
  exact h1
def RcK (ms : List Bool) (Φ : D → List D → Prop) : Fl → Prop
  | .rt d ρ => ∃ ds, outs ms ρ = some ds ∧ Φ d ds
  | .nx ρ => ∃ ds, outs ms ρ = some ds ∧ Φ .non ds
  | _ => False
theorem fnc_wp {n : Nat} {ms : List Bool} {b : SF} {ds : List D} {Φ : D → List D → Prop} (hl : ds.length = ms.length) (h : Wp b (entC ms n ds) (RcK ms Φ)) : ∃ d ds', fnC n ms b ds = some (d, ds') ∧ Φ d ds' := by
  obtain ⟨r, h1, h2⟩ := h
  unfold fnC
  rw [if_pos hl, h1]
  cases r with
  | nx ρ => obtain ⟨ds', h3, h4⟩ := h2; exact ⟨_, _, by simp [h3], h4⟩
  | rt d ρ => obtain ⟨ds', h3, h4⟩ := h2; exact ⟨_, _, by simp [h3], h4⟩
  | bk => exact h2.elim
  | ct => exact h2.elim
theorem fnc_is {n : Nat} {ms : List Bool} {b : SF} {ds ds' : List D} {d : D} (hl : ds.length = ms.length) (h : Wp b (entC ms n ds) (RcK ms fun c e => c = d ∧ e = ds')) : fnC n ms b ds = some (d, ds') := by
  obtain ⟨c, e, h1, rfl, rfl⟩ := fnc_wp hl h
  exact h1
/-! ### changing calls -/
def Vm (g : Ev → Option (D × Ev)) (ρ : Ev) (d : D) (ρ' : Ev) : Prop := g ρ = some (d, ρ')
def Ce (g : CF) (ρ : Ev) (as : List Ag) : Prop := g ρ = some as
theorem ce_nil {ρ : Ev} : Ce cNil ρ [] := rfl
theorem ce_own {i : Nat} {g : CF} {ρ : Ev} {d : D} {as : List Ag} (h : ownD ρ i = some d) (h2 : Ce g ρ as) : Ce (cOwn i g) ρ (.own i :: as) := by
  unfold Ce at *; unfold cOwn; rw [h]; simp [h2]
theorem ce_rd {f : EF} {g : CF} {ρ : Ev} {d : D} {m : Md} {as : List Ag} (h : Ve f ρ d m) (h2 : Ce g ρ as) : Ce (cRd f g) ρ (.rd d m :: as) := by
  unfold Ce Ve at *; unfold cRd; rw [h]; simp [h2]
theorem ce_ins {n : Nat} {m : Str} {i : Nat} {g : CF} {ρ : Ev} {fs : List (Str × D)} {as : List Ag} (h : ownD ρ i = some (.ins n fs)) (hn : getF fs m = none) (h2 : Ce g ρ as) : Ce (insC n m i g) ρ (.own i :: as) := by
  unfold Ce at *; unfold insC; rw [h]; simp [hn, h2]
theorem vm_call {ms : List Bool} {f : List D → Option (D × List D)} {g : CF} {ρ ρ' : Ev} {as : List Ag} {ds ds' : List D} {r : D} (h : Ce g ρ as) (hc : (decide (osl as).Nodup && kindC ρ as && decide (as.map Ag.isOwn = ms)) = true) (hd : dsOf ρ as = some ds) (hf : f ds = some (r, ds')) (hb : backC ρ as ds' = ρ') : Vm (callC ms f g) ρ r ρ' := by
  unfold Ce at h
  unfold Vm callC
  rw [h]
  simp only [Option.bind_some, hc, if_true, hd, hf, hb]
theorem se_exM {g : Ev → Option (D × Ev)} {ρ ρ' : Ev} {d : D} (h : Vm g ρ d ρ') : Se (sExM g) ρ (.nx ρ') := by
  unfold Vm at h; unfold Se sExM; rw [h]; rfl
theorem se_setM {i : Nat} {g : Ev → Option (D × Ev)} {ρ ρ' ρ2 : Ev} {d : D} (h : Vm g ρ d ρ') (h2 : setS i d .new ρ' = some ρ2) : Se (sSetM i g) ρ (.nx ρ2) := by
  unfold Vm at h; unfold Se sSetM; rw [h]; simp [h2]
theorem wp_retM {g : Ev → Option (D × Ev)} {ρ ρ' : Ev} {d : D} {Φ : Fl → Prop} (h : Vm g ρ d ρ') (h2 : Φ (.rt d ρ')) : Wp (sRetM g) ρ Φ := ⟨.rt d ρ', by unfold Vm at h; unfold sRetM; rw [h]; rfl, h2⟩
/-! ### ways -/
theorem wayD_of {ρ : Ev} {i : Nat} {p : List Stp} {d e : D} (h : ownD ρ i = some d) (h2 : dgets d p = some e) : wayD ρ i p = some e := by unfold wayD; rw [h]; exact h2
theorem putW_of {ρ : Ev} {i : Nat} {p : List Stp} {d e y : D} (h : ownD ρ i = some d) (h2 : dreps d p y = e) : putW ρ i p y = some (setOwn ρ i e) := by unfold putW; rw [h, ← h2]; rfl
def Wy (w : WF) (ρ : Ev) (p : List Stp) : Prop := w ρ = some p
theorem wy_n {ρ : Ev} : Wy wN ρ [] := rfl
theorem wy_ix {i : Nat} {w : WF} {f : EF} {ρ : Ev} {p : List Stp} {d k : D} {s : Stp} (h : Wy w ρ p) (h1 : wayD ρ i p = some d) (h2 : Vf f ρ k) (h3 : stpOf d k = some s) : Wy (wIx i w f) ρ (p ++ [s]) := by
  obtain ⟨m, h2⟩ := h2
  unfold Wy Ve at *; unfold wIx; rw [h]; simp [h1, h2, h3]
theorem wy_fld {n : Nat} {f : Str} {i : Nat} {w : WF} {ρ : Ev} {p : List Stp} {fs : List (Str × D)} (h : Wy w ρ p) (h1 : wayD ρ i p = some (.ins n fs)) : Wy (wFld n f i w) ρ (p ++ [.fd f]) := by
  unfold Wy at *; unfold wFld; rw [h]; simp [h1]
theorem se_appW {i : Nat} {w : WF} {f : NF} {ρ ρ' : Ev} {p : List Stp} {ds : List D} {y : D} (h1 : Wy w ρ p) (h2 : wayD ρ i p = some (.lst ds)) (h3 : Ne f ρ y) (hl : ds.length < 16777216) (h4 : putW ρ i p (.lst (ds ++ [y])) = some ρ') : Se (sApp i w f) ρ (.nx ρ') := se_app h1 h2 h3 hl h4
theorem se_augP {i : Nat} {w : WF} {fk fe : EF} {ρ ρ' : Ev} {p : List Stp} {d k c b z d' : D} (h1 : Wy w ρ p) (h2 : wayD ρ i p = some d) (hk : Vf fk ρ k) (hc : ixD d k = some c) (he : Vf fe ρ b) (hz : augAdd c b = some z) (hi : itemD d k z = some d') (h4 : putW ρ i p d' = some ρ') : Se (sAugP i w fk fe) ρ (.nx ρ') := by
  obtain ⟨m, hk⟩ := hk
  obtain ⟨m2, he⟩ := he
  unfold Wy Ve Se at *
  unfold sAugP
  rw [h1]
  simp [h2, hk, hc, he, hz, hi, h4]
theorem se_fldA {n : Nat} {f : Str} {i : Nat} {w : WF} {fe : EF} {ρ ρ' : Ev} {p : List Stp} {fs : List (Str × D)} {a b z : D} (h1 : Wy w ρ p) (h2 : wayD ρ i p = some (.ins n fs)) (ha : getF fs f = some a) (he : Vf fe ρ b) (hz : augAdd a b = some z) (hl : fs.length < 999) (h4 : putW ρ i p (.ins n (putFD f z fs)) = some ρ') : Se (sFldA n f i w fe) ρ (.nx ρ') := by
  obtain ⟨m2, he⟩ := he
  unfold Wy Ve Se at *
  unfold sFldA
  rw [h1]
  simp [h2, ha, he, hz, hl, h4]
def Ye (g : YF) (ρ : Ev) (d : D) (ρ' : Ev) : Prop := g ρ = some (d, ρ')
theorem ye_n {f : NF} {ρ : Ev} {d : D} (h : Ne f ρ d) : Ye (yN f) ρ d ρ := by unfold Ne at h; unfold Ye yN; rw [h]; rfl
theorem ye_mv {j : Nat} {ρ : Ev} {d : D} (h : ρ[j]? = some (.on d)) : Ye (yMv j) ρ d (ρ.set j .emp) := by unfold Ye yMv; rw [h]
theorem se_fldY {n : Nat} {f : Str} {i : Nat} {w : WF} {g : YF} {ρ ρ1 ρ' : Ev} {p : List Stp} {fs : List (Str × D)} {y : D} (h0 : Ye g ρ y ρ1) (h1 : Wy w ρ1 p) (h2 : wayD ρ1 i p = some (.ins n fs)) (hl : fs.length < 1000) (h4 : putW ρ1 i p (.ins n (putFD f y fs)) = some ρ') : Se (sFldY n f i w g) ρ (.nx ρ') := by
  unfold Ye Wy Se at *
  unfold sFldY
  rw [h0]
  simp [h1, h2, hl, h4]
theorem ne_dict {ks : List Key} {f : Ev → Option (List D)} {ρ : Ev} {ds : List D} (h : f ρ = some ds) : Ne (nDict ks f) ρ (.dic (List.zip ks ds)) := by unfold Ne nDict; rw [h]; rfl
theorem ne_call {f : List D → Option D} {g : AF} {ρ : Ev} {ds : List D} {d : D} (h1 : Af g ρ ds) (h : f ds = some d) : Ne (nCall f g) ρ d := by
  obtain ⟨as, h1, rfl⟩ := h1
  unfold Ae at h1
  unfold Ne nCall
  rw [h1]
  exact h
theorem ne_make {n m : Nat} {f : List D → Option (D × List D)} {g : AF} {ρ : Ev} {ds es : List D} {d : D} (h1 : Af g ρ ds) (h2 : flats ds = true) (h3 : ds.length = m) (h : f (.ins n [] :: ds) = some (.non, d :: es)) : Ne (nMake n m f g) ρ d := by
  obtain ⟨as, h1, rfl⟩ := h1
  unfold Ae at h1
  unfold Ne nMake
  rw [h1]
  simp only [Option.bind_some]
  rw [if_pos (by simpa using h3), h]
  rfl
/-- the arguments may be lists made here -/
theorem ne_makeF {n m : Nat} {f : List D → Option (D × List D)} {g : AF} {ρ : Ev} {ds es : List D} {d : D} (h1 : Af g ρ ds) (h3 : ds.length = m) (h : f (.ins n [] :: ds) = some (.non, d :: es)) : Ne (nMake n m f g) ρ d := by
  obtain ⟨as, h1, rfl⟩ := h1
  unfold Ae at h1
  unfold Ne nMake
  rw [h1]
  simp only [Option.bind_some]
  rw [if_pos (by simpa using h3), h]
  rfl
theorem ne_makeN {n m : Nat} {f : List D → Option (D × List D)} {g : AF} {ρ : Ev} {as : List (D × Md)} {es : List D} {d : D} (h1 : Ae g ρ as) (h2 : okNew as = true) (h3 : as.length = m) (h : f (.ins n [] :: as.map (·.1)) = some (.non, d :: es)) : Ne (nMake n m f g) ρ d := by
  unfold Ae at h1
  unfold Ne nMake
  rw [h1]
  simp only [Option.bind_some]
  rw [if_pos h3, h]
  rfl
theorem ne_lstc {g : AF} {ρ : Ev} {ds : List D} (h1 : Af g ρ [.lst ds]) (h2 : flats ds = true) : Ne (nLstC g) ρ (.lst ds) := by
  obtain ⟨as, h1, h3⟩ := h1
  unfold Ae at h1
  unfold Ne nLstC
  rw [h1]
  simp only [Option.bind_some, h3, lstC, h2, if_true]
theorem fnn_is {n k : Nat} {b : NF} {ds : List D} {d : D} (hl : ds.length = k) (h : Ne b (ent n ds) d) : fnN n k b ds = some d := by
  unfold fnN; rw [if_pos hl]; exact h
/-! ### the defs of the top -/
theorem DefAt.calC {P : Program} {w : World} {K : PySem.W.Frag} {mg : Str → Option Value} {base : Heap} {cm : Nat → Addr} {x : Str} {st : Stmt} {ps : List Str} {k : Nat} {ms : List Bool} {fn : List D → Option (D × List D)} (D : DefAt K mg x st ps)
    (h : ∀ {f : Addr} {fd : FuncData}, Fun K x x st f fd → FnOk P w K mg base CX0 k f fd ps (spC K cm w ms fn)) : CalC P w K mg base cm k x ms fn := by
  obtain ⟨f, fd, F, hm, kp, hb⟩ := D
  exact ⟨f, fd, ps, h F, hm, kp, hb⟩
theorem DefAt.calN {P : Program} {w : World} {K : PySem.W.Frag} {mg : Str → Option Value} {base : Heap} {cm : Nat → Addr} {x : Str} {st : Stmt} {ps : List Str} {k : Nat} {fn : List D → Option D} (D : DefAt K mg x st ps)
    (h : ∀ {f : Addr} {fd : FuncData}, Fun K x x st f fd → FnOk P w K mg base CX0 k f fd ps (spN K cm w fn)) : CalN P w K mg base cm k x fn := by
  obtain ⟨f, fd, F, hm, kp, hb⟩ := D
  exact ⟨f, fd, ps, h F, hm, kp, hb⟩
end DL

/-! DL27: == and in, of data that stand for things of a type. -/
namespace DL
open PySem L2
/-- f writes a as data; two that are good are == where they are the same -/
def Enc {α : Type} [DecidableEq α] (k : Nat) (f : α → D) (P : α → Prop) : Prop :=
  ∃ py : α → PyData, (∀ a, toPy (f a) = some (py a)) ∧ (∀ a, P a → dk k (f a) = true) ∧ ∀ a b, P a → P b → PyData.eqv (py a) (py b) = decide (a = b)
theorem dk_le : ∀ {k j : Nat} {d : D}, k ≤ j → dk k d = true → dk j d = true
  | k, j, .non, _, _ => by cases j <;> rfl
  | k, j, .bl _, _, _ => by cases j <;> rfl
  | k, j, .int _, _, _ => by cases j <;> rfl
  | k, j, .str x, _, h => by cases k <;> cases j <;> simpa [dk] using h
  | k + 1, j + 1, .tup ds, hl, h => by
    simp only [dk, List.all_eq_true] at h ⊢
    exact fun d hd => dk_le (by omega) (h d hd)
  | k + 1, j + 1, .lst ds, hl, h => by
    simp only [dk, List.all_eq_true] at h ⊢
    exact fun d hd => dk_le (by omega) (h d hd)
  | 0, _, .tup _, _, h => by simp [dk] at h
  | 0, _, .lst _, _, h => by simp [dk] at h
  | _ + 1, 0, .tup _, hl, _ => by omega
  | _ + 1, 0, .lst _, hl, _ => by omega
  | k, _, .dic _, _, h => by cases k <;> simp [dk] at h
  | k, _, .ins _ _, _, h => by cases k <;> simp [dk] at h
  | k, _, .scr _, _, h => by cases k <;> simp [dk] at h
  | k, _, .wtp _, _, h => by cases k <;> simp [dk] at h
  | k, _, .dn _ _, _, h => by cases k <;> simp [dk] at h
  | k, _, .adr _, _, h => by cases k <;> simp [dk] at h
section
variable {α β : Type} [DecidableEq α] [DecidableEq β] {k j : Nat} {f : α → D} {g : β → D} {P : α → Prop} {Q : β → Prop}
theorem Enc.le (h : Enc k f P) (hj : k ≤ j) : Enc j f P := by
  obtain ⟨py, h1, h2, h3⟩ := h
  exact ⟨py, h1, fun a ha => dk_le hj (h2 a ha), h3⟩
theorem Enc.weak {P' : α → Prop} (h : Enc k f P) (hp : ∀ a, P' a → P a) : Enc k f P' := by
  obtain ⟨py, h1, h2, h3⟩ := h
  exact ⟨py, h1, fun a ha => h2 a (hp a ha), fun a b ha hb => h3 a b (hp a ha) (hp b hb)⟩
theorem Enc.comap (h : Enc k f P) (m : β → α) (hm : ∀ a b, Q a → Q b → m a = m b → a = b) (hq : ∀ b, Q b → P (m b)) : Enc k (fun b => f (m b)) Q := by
  obtain ⟨py, h1, h2, h3⟩ := h
  refine ⟨fun b => py (m b), fun b => h1 _, fun b hb => h2 _ (hq b hb), fun a b ha hb => ?_⟩
  rw [h3 _ _ (hq a ha) (hq b hb)]
  by_cases q : a = b
  · subst q; simp
  · have : m a ≠ m b := fun e => q (hm a b ha hb e)
    simp [q, this]
theorem enc_int : Enc 0 D.int (fun _ => True) := ⟨PyData.int, fun a => by simp [toPy], fun a _ => rfl, fun a b _ _ => by simp [PyData.eqv]; rfl⟩
theorem enc_nat : Enc 0 (fun n : Nat => D.int n) (fun _ => True) := enc_int.comap (fun n : Nat => (n : Int)) (fun a b _ _ h => by omega) fun _ _ => trivial
theorem enc_bl : Enc 0 D.bl (fun _ => True) := ⟨PyData.bool, fun a => by simp [toPy], fun a _ => rfl, fun a b _ _ => by cases a <;> cases b <;> simp [PyData.eqv]⟩
theorem enc_tx : Enc 0 (fun c => D.str (tx c)) (fun c => okC c = true) := ⟨fun c => .str (tx c), fun a => by simp [toPy], fun a h => by simpa [dk] using tx_ok h, fun a b _ _ => by
  simp only [PyData.eqv]
  rw [tx_eq]
  by_cases q : a = b
  · subst q; simp
  · simp [q]⟩
theorem enc_o : Enc 0 oD (fun o => okO o = true) := ⟨oP, fun o => by cases o <;> simp [toPy, oD, oP], fun o h => by
    cases o with
    | none => rfl
    | some c => simpa [dk, oD] using tx_ok h, fun a b _ _ => by
    cases a with
    | none => cases b <;> simp [oP, PyData.eqv]
    | some a =>
      cases b with
      | none => simp [oP, PyData.eqv]
      | some b =>
        simp only [oP, PyData.eqv]
        rw [tx_eq]
        by_cases q : a = b
        · subst q; simp
        · simp [q]⟩
theorem enc_pair (h : Enc k f P) (h' : Enc k g Q) : Enc (k + 1) (fun p : α × β => D.tup [f p.1, g p.2]) (fun p => P p.1 ∧ Q p.2) := by
  obtain ⟨py, h1, h2, h3⟩ := h
  obtain ⟨qy, k1, k2, k3⟩ := h'
  refine ⟨fun p => .tuple [py p.1, qy p.2], fun p => by simp [toPy, toPys, h1, k1], fun p hp => ?_, fun p q hp hq => ?_⟩
  · simp [dk, h2 _ hp.1, k2 _ hp.2]
  · simp only [PyData.eqv, PyData.eqvAll, h3 _ _ hp.1 hq.1, k3 _ _ hp.2 hq.2, Bool.and_true]
    obtain ⟨a, b⟩ := p
    obtain ⟨c, d⟩ := q
    by_cases e1 : a = c <;> by_cases e2 : b = d <;> simp [e1, e2]
theorem toPys_map (h1 : ∃ py : α → PyData, ∀ a, toPy (f a) = some (py a)) : ∃ py : α → PyData, (∀ a, toPy (f a) = some (py a)) ∧ ∀ l : List α, toPys (l.map f) = some (l.map py) := by
  obtain ⟨py, h⟩ := h1
  refine ⟨py, h, fun l => ?_⟩
  induction l with
  | nil => rfl
  | cons a r ih => simp [toPys, h, ih]
theorem toPys_of {py : α → PyData} (h : ∀ a, toPy (f a) = some (py a)) : ∀ l : List α, toPys (l.map f) = some (l.map py)
  | [] => by simp [toPys]
  | a :: r => by simp [toPys, h, toPys_of h r]
theorem eqvAll_map {py : α → PyData} (h3 : ∀ a b, P a → P b → PyData.eqv (py a) (py b) = decide (a = b)) : ∀ {l m : List α}, (∀ a ∈ l, P a) → (∀ a ∈ m, P a) → PyData.eqvAll (l.map py) (m.map py) = decide (l = m)
  | [], [], _, _ => by simp [PyData.eqvAll]
  | [], _ :: _, _, _ => by simp [PyData.eqvAll]
  | _ :: _, [], _, _ => by simp [PyData.eqvAll]
  | a :: l, b :: m, hl, hm => by
    have ih := eqvAll_map (l := l) (m := m) h3 (fun x hx => hl x (List.mem_cons_of_mem _ hx)) (fun x hx => hm x (List.mem_cons_of_mem _ hx))
    simp only [List.map_cons, PyData.eqvAll, h3 a b (hl a (by simp)) (hm b (by simp)), ih]
    by_cases e1 : a = b <;> by_cases e2 : l = m <;> simp [e1, e2]
theorem enc_lst (h : Enc k f P) : Enc (k + 1) (fun l : List α => D.lst (l.map f)) (fun l => ∀ a ∈ l, P a) := by
  obtain ⟨py, h1, h2, h3⟩ := h
  refine ⟨fun l => .list (l.map py), fun l => by simp [toPy, toPys_of h1], fun l hl => ?_, fun l m hl hm => ?_⟩
  · simp only [dk, List.all_eq_true]
    intro d hd
    simp only [List.mem_map] at hd
    obtain ⟨a, ha, rfl⟩ := hd
    exact h2 a (hl a ha)
  · simp only [PyData.eqv, eqvAll_map h3 hl hm]
theorem Enc.eqD (h : Enc k f P) {a b : α} (ha : P a) (hb : P b) (hk : k ≤ 64 := by omega) : eqD (f a) (f b) = some (decide (a = b)) := by
  obtain ⟨py, h1, h2, h3⟩ := h
  obtain ⟨p', e1, c1, d1⟩ := dk_py (h2 a ha)
  obtain ⟨q', e2, c2, d2⟩ := dk_py (h2 b hb)
  rw [h1] at e1 e2
  cases e1; cases e2
  simp only [DL.eqD, h1, Option.bind_some, shaped_of c1 d1 hk, shaped_of c2 d2 hk, and_self, if_true, h3 a b ha hb]
theorem Enc.eq (h : Enc k f P) {a b : α} (ha : P a) (hb : P b) (hk : k ≤ 64 := by omega) : eqDD (f a) (f b) = some (.bl (decide (a = b))) := by simp [eqDD, h.eqD ha hb hk]
theorem Enc.ne (h : Enc k f P) {a b : α} (ha : P a) (hb : P b) (hk : k ≤ 64 := by omega) : neDD (f a) (f b) = some (.bl (!decide (a = b))) := by simp [neDD, h.eqD ha hb hk]
/-- a list is empty -/
theorem Enc.inB (h : Enc k f P) {a : α} {l : List α} (ha : P a) (hl : ∀ b ∈ l, P b) (hk : k ≤ 63 := by omega) : inB (f a) (.lst (l.map f)) = some (l.contains a) := by
  have hd := enc_lst h
  obtain ⟨py, h1, h2, h3⟩ := h
  obtain ⟨p', e1, c1, d1⟩ := dk_py (h2 a ha)
  obtain ⟨qy, k1, k2, _⟩ := hd
  have hdk : dk (k + 1) (.lst (l.map f)) = true := k2 l hl
  obtain ⟨q', e2, c2, d2⟩ := dk_py hdk
  rw [h1] at e1
  cases e1
  have e3 : toPy (.lst (l.map f)) = some (.list (l.map py)) := by simp [toPy, toPys_of h1]
  rw [e3] at e2
  cases e2
  unfold DL.inB
  simp only [h1, toPys_of h1, Option.bind_some, shaped_of c1 d1 (by omega), shaped_of c2 d2 (by omega), and_self, if_true, List.any_map]
  congr 1
  rw [List.contains_eq_any_beq]
  clear e3 hdk c2 d2 k1 k2
  induction l with
  | nil => rfl
  | cons b r ih =>
    simp only [List.any_cons, Function.comp]
    rw [h3 b a (hl b (by simp)) ha, ih fun c hc => hl c (by simp [hc])]
    by_cases q : a = b
    · subst q; simp
    · have : ¬ b = a := fun e => q e.symm
      have q2 : (a == b) = false := by simpa using q
      simp [this, q2]
theorem Enc.in_ (h : Enc k f P) {a : α} {l : List α} (ha : P a) (hl : ∀ b ∈ l, P b) (hk : k ≤ 63 := by omega) : inD (f a) (.lst (l.map f)) = some (.bl (l.contains a)) := in_of (h.inB ha hl hk)
theorem Enc.nin (h : Enc k f P) {a : α} {l : List α} (ha : P a) (hl : ∀ b ∈ l, P b) (hk : k ≤ 63 := by omega) : ninD (f a) (.lst (l.map f)) = some (.bl (!l.contains a)) := nin_of (h.inB ha hl hk)
theorem Enc.inT (h : Enc k f P) {a : α} {l : List α} (ha : P a) (hl : ∀ b ∈ l, P b) {b : Bool} (hb : b = true ↔ a ∈ l) (hk : k ≤ 63 := by omega) : DL.inB (f a) (.lst (l.map f)) = some b := by
  rw [h.inB ha hl hk]
  congr 1
  rw [Bool.eq_iff_iff, hb, List.contains_iff_mem]
theorem Enc.ninT (h : Enc k f P) {a : α} {l : List α} (ha : P a) (hl : ∀ b ∈ l, P b) {b : Bool} (hb : b = true ↔ a ∉ l) (hk : k ≤ 63 := by omega) : ninD (f a) (.lst (l.map f)) = some (.bl b) := by
  rw [nin_of (h.inT ha hl (b := !b) (by cases b <;> simp_all) hk)]
  simp
/-- != [] -/
theorem Enc.neNil (h : Enc k f P) {l : List α} (hl : ∀ b ∈ l, P b) (hk : k ≤ 63 := by omega) : neDD (.lst (l.map f)) (.lst []) = some (.bl (!l.isEmpty)) := by
  have := (enc_lst h).ne (a := l) (b := []) hl (by simp) (by omega)
  rw [show D.lst [] = (fun l : List α => D.lst (l.map f)) [] from rfl]
  rw [this]
  cases l <;> simp
theorem Enc.eqNil (h : Enc k f P) {l : List α} (hl : ∀ b ∈ l, P b) (hk : k ≤ 63 := by omega) : eqDD (.lst (l.map f)) (.lst []) = some (.bl l.isEmpty) := by
  have := (enc_lst h).eq (a := l) (b := []) hl (by simp) (by omega)
  rw [show D.lst [] = (fun l : List α => D.lst (l.map f)) [] from rfl]
  rw [this]
  cases l <;> simp
end
/-- a comprehension over things of a type -/
theorem vn_lcT {α : Type} {f : IF} {vs : List Nat} {g : GF} {t : Ev → Option Bool} {e : EF} {ρ : Ev} {m : Md} {fa : α → D} {l : List α} {p : α → Bool} {F : α → D} (hx : Xe f ρ (l.map fa) m) (hn : l.length ≤ 16777216)
    (h : ∀ a ∈ l, Sg g (fa a) (effm m (fa a)) (wipeE ρ vs) fun ρ1 => Te t ρ1 (p a) ∧ (p a = true → Vf e ρ1 (F a))) (hf : ∀ a ∈ l, flat (F a) = true) : Ve (eLc f vs g t e) ρ (.lst ((l.filter p).map F)) .new := by
  refine ve_lc hx (by simpa using hn) ?_
  generalize wipeE ρ vs = ρ0 at h
  clear hx hn
  induction l with
  | nil => rfl
  | cons a r ih =>
    obtain ⟨ρ1, h1, h2, h3⟩ := h a (by simp)
    unfold Te at h2
    have ih' := ih (fun b hb => hf b (by simp [hb])) fun b hb => h b (by simp [hb])
    rw [List.map_cons, lcGo, h1]
    simp only [Option.bind_some, h2]
    by_cases q : p a = true
    · obtain ⟨n, h4⟩ := h3 q
      unfold Ve at h4
      simp only [q, if_true, h4, Option.bind_some, hf a (by simp), Bool.true_or, ih', Option.map_some, List.filter_cons, List.map_cons]
    · simp only [Bool.not_eq_true] at q
      simp [q, ih', List.filter_cons]
theorem vn_lcM {α : Type} {f : IF} {vs : List Nat} {g : GF} {e : EF} {ρ : Ev} {m : Md} {fa : α → D} {l : List α} {F : α → D} (hx : Xe f ρ (l.map fa) m) (hn : l.length ≤ 16777216)
    (h : ∀ a ∈ l, Sg g (fa a) (effm m (fa a)) (wipeE ρ vs) fun ρ1 => Vf e ρ1 (F a)) (hf : ∀ a ∈ l, flat (F a) = true) : Ve (eLc f vs g (fun _ => some true) e) ρ (.lst (l.map F)) .new := by
  have := vn_lcT (t := fun _ => some true) (p := fun _ => true) (F := F) hx hn (fun a ha => by
    obtain ⟨ρ1, h1, h2⟩ := h a ha
    exact ⟨ρ1, h1, rfl, fun _ => h2⟩) hf
  rwa [List.filter_eq_self.mpr (fun _ _ => rfl)] at this
/-- a source of items: whatever its mode -/
theorem xe_of {f : EF} {ρ : Ev} {d : D} {ds : List D} (h : Vf f ρ d) (h2 : itemsD d = some ds) : ∃ m, Xe (iE f) ρ ds m := by
  obtain ⟨m, h⟩ := h
  exact ⟨m, xe_seq h h2⟩
theorem wipeE_two {ρ : Ev} {i j : Nat} (hi : i < ρ.length) (hj : j < ρ.length) : (wipeE ρ [i, j])[i]? = some .emp ∧ (wipeE ρ [i, j])[j]? = some .emp := by
  simp only [wipeE]
  constructor
  · by_cases q : i = j
    · subst q; rw [List.getElem?_set_self (by simpa using hi)]
    · first
      | rw [List.getElem?_set_ne (Ne.symm q), List.getElem?_set_self hi]
      | rw [List.getElem?_set_self (by simpa using hi)]
  · by_cases q : i = j
    · subst q; rw [List.getElem?_set_self (by simpa using hi)]
    · first
      | rw [List.getElem?_set_self (by simpa using hj)]
      | rw [List.getElem?_set_ne q, List.getElem?_set_self hj]
/-- [.. for a, b in pairs if ..] -/
theorem vn_lc2 {α : Type} {f : IF} {i j : Nat} {t : Ev → Option Bool} {e : EF} {ρ : Ev} {fa ga gb : α → D} {l : List α} {p : α → Bool} {F : α → D} (hx : ∃ m, Xe f ρ (l.map fa) m) (hn : l.length ≤ 16777216) (hi : i < ρ.length) (hj : j < ρ.length) (hij : i ≠ j)
    (hfa : ∀ a ∈ l, fa a = .tup [ga a, gb a] ∧ flat (ga a) = true ∧ flat (gb a) = true) (h : ∀ a ∈ l, Te t (((wipeE ρ [i, j]).set i (.fn (ga a))).set j (.fn (gb a))) (p a) ∧ (p a = true → Vf e (((wipeE ρ [i, j]).set i (.fn (ga a))).set j (.fn (gb a))) (F a))) (hf : ∀ a ∈ l, flat (F a) = true) :
    Ve (eLc f [i, j] (gT 2 (gsCons i (gsCons j gsNil))) t e) ρ (.lst ((l.filter p).map F)) .new := by
  obtain ⟨m, hx⟩ := hx
  obtain ⟨w1, w2⟩ := wipeE_two hi hj
  refine vn_lcT hx hn (fun a ha => ?_) hf
  obtain ⟨e1, f1, f2⟩ := hfa a ha
  rw [e1]
  exact sg_two w1 rfl f1 (by rw [List.getElem?_set_ne hij]; exact w2) rfl f2 (h a ha)
theorem vn_lc2M {α : Type} {f : IF} {i j : Nat} {e : EF} {ρ : Ev} {fa ga gb : α → D} {l : List α} {F : α → D} (hx : ∃ m, Xe f ρ (l.map fa) m) (hn : l.length ≤ 16777216) (hi : i < ρ.length) (hj : j < ρ.length) (hij : i ≠ j)
    (hfa : ∀ a ∈ l, fa a = .tup [ga a, gb a] ∧ flat (ga a) = true ∧ flat (gb a) = true) (h : ∀ a ∈ l, Vf e (((wipeE ρ [i, j]).set i (.fn (ga a))).set j (.fn (gb a))) (F a)) (hf : ∀ a ∈ l, flat (F a) = true) :
    Ve (eLc f [i, j] (gT 2 (gsCons i (gsCons j gsNil))) (fun _ => some true) e) ρ (.lst (l.map F)) .new := by
  have := vn_lc2 (t := fun _ => some true) (p := fun _ => true) (F := F) hx hn hi hj hij hfa (fun a ha => ⟨rfl, fun _ => h a ha⟩) hf
  rwa [List.filter_eq_self.mpr (fun _ _ => rfl)] at this
/-- [.. for x in xs if ..] -/
theorem vn_lc1 {α : Type} {f : IF} {i : Nat} {t : Ev → Option Bool} {e : EF} {ρ : Ev} {fa : α → D} {l : List α} {p : α → Bool} {F : α → D} (hx : ∃ m, Xe f ρ (l.map fa) m) (hn : l.length ≤ 16777216) (hi : i < ρ.length)
    (hfa : ∀ a ∈ l, flat (fa a) = true) (h : ∀ a ∈ l, Te t ((wipeE ρ [i]).set i (.fn (fa a))) (p a) ∧ (p a = true → Vf e ((wipeE ρ [i]).set i (.fn (fa a))) (F a))) (hf : ∀ a ∈ l, flat (F a) = true) :
    Ve (eLc f [i] (gN i) t e) ρ (.lst ((l.filter p).map F)) .new := by
  obtain ⟨m, hx⟩ := hx
  refine vn_lcT hx hn (fun a ha => ?_) hf
  have w : (wipeE ρ [i])[i]? = some .emp := by
    simp only [wipeE]
    rw [List.getElem?_set_self hi]
  exact sg_flat w rfl (hfa a ha) (h a ha)
theorem vn_lc1M {α : Type} {f : IF} {i : Nat} {e : EF} {ρ : Ev} {fa : α → D} {l : List α} {F : α → D} (hx : ∃ m, Xe f ρ (l.map fa) m) (hn : l.length ≤ 16777216) (hi : i < ρ.length)
    (hfa : ∀ a ∈ l, flat (fa a) = true) (h : ∀ a ∈ l, Vf e ((wipeE ρ [i]).set i (.fn (fa a))) (F a)) (hf : ∀ a ∈ l, flat (F a) = true) :
    Ve (eLc f [i] (gN i) (fun _ => some true) e) ρ (.lst (l.map F)) .new := by
  have := vn_lc1 (t := fun _ => some true) (p := fun _ => true) (F := F) hx hn hi hfa (fun a ha => ⟨rfl, fun _ => h a ha⟩) hf
  rwa [List.filter_eq_self.mpr (fun _ _ => rfl)] at this
theorem rtk_eq {d : D} {ρ : Ev} : RtK (fun c => c = d) (.rt d ρ) := rfl
theorem rtk_now {d : D} {ρ : Ev} : ∃ d' ρ', Fl.rt d ρ = .rt d' ρ' ∧ RtK (fun c => c = d) (.rt d ρ) := ⟨_, _, rfl, rfl⟩
theorem rtk_now2 {d : D} {ρ : Ev} : ∃ d' ρ', Fl.rt d ρ = .rt d' ρ' ∧ ∃ d' ρ', Fl.rt d ρ = .rt d' ρ' ∧ RtK (fun c => c = d) (.rt d ρ) := ⟨_, _, rfl, _, _, rfl, rfl⟩
theorem effm_new {c : D} : effm .new c = .new := by unfold effm; split <;> rfl
theorem xe_ixn {f g : EF} {ρ : Ev} {a k d : D} {ds : List D} (h : Ve f ρ a .new) (h2 : Vf g ρ k) (h3 : ixD a k = some d) (h4 : itemsD d = some ds) : Xe (iE (eIx ixD f g)) ρ ds .new := by
  obtain ⟨m, h2⟩ := h2
  have := ve_ix h h2 h3
  rw [effm_new] at this
  exact xe_seq this h4
theorem ds_nil {ρ : Ev} : dsOf ρ [] = some [] := rfl
theorem ds_own {ρ : Ev} {i : Nat} {d : D} {r : List Ag} {ds : List D} (h : ownD ρ i = some d) (h2 : dsOf ρ r = some ds) : dsOf ρ (.own i :: r) = some (d :: ds) := by rw [dsOf, h, h2]; rfl
theorem ds_new {ρ : Ev} {d : D} {r : List Ag} {ds : List D} (h2 : dsOf ρ r = some ds) : dsOf ρ (.rd d .new :: r) = some (d :: ds) := by rw [dsOf, if_pos (by simp [notOwn]), h2]; rfl
theorem ds_par {ρ : Ev} {d : D} {r : List Ag} {ds : List D} (h2 : dsOf ρ r = some ds) : dsOf ρ (.rd d .par :: r) = some (d :: ds) := by rw [dsOf, if_pos (by simp [notOwn]), h2]; rfl
theorem ds_flat {ρ : Ev} {d : D} {m : Md} {r : List Ag} {ds : List D} (f : flat d = true) (h2 : dsOf ρ r = some ds) : dsOf ρ (.rd d m :: r) = some (d :: ds) := by rw [dsOf, if_pos (by simp [f]), h2]; rfl
theorem enc_S : Enc 0 D.str (fun x => PyData.strOk x = true) := ⟨PyData.str, fun a => by simp [toPy], fun a h => by simpa [dk] using h, fun a b _ _ => by
  simp only [PyData.eqv]
  by_cases q : a = b
  · subst q; simp
  · simp [q]⟩
end DL

/-! DL28: classes and methods that the top has written. -/
namespace DL
open PySem L2
/-- the classes' addresses by number -/
def clsL (l : List Addr) : Nat → Addr := fun n => l.getD n 0
structure FactC (K : PySem.W.Frag) (C : Addr) : Prop where
  pg : PySem.W.plainGet K C Str.empty = true
  hd : PySem.W.hasDictIn K C = true
  po : PySem.W.plainOver K C = true
  sa : PySem.W.findIn K (.ref C) "__setattr__" = some (some (.builtin "object.__setattr__"))
  mks : PySem.W.makesIn K C = true
  kc : PySem.W.keepIn K (.ref C) = true
theorem FactC.cls {K : PySem.W.Frag} {C : Addr} (z : FactC K C) : Cls K C := ⟨z.pg, z.hd, z.po, z.sa⟩
def FactM (K : PySem.W.Frag) (C : Addr) (m qual : Str) (st : Stmt) : Prop :=
  ∃ (f : Addr) (oc : Value) (od an : Option Addr) (osl : Array (Option Value)) (kV doc pm cdv ct : Value), PySem.W.findIn K (.ref C) m = some (some (.ref f)) ∧ PySem.W.isFn K (.ref f) = true ∧
    K.lookup f = some ⟨oc, od, .func (PySem.W.fnOf m qual (defArgs st) (defBody st) (defScope st) .none kV doc pm an cdv ct), osl⟩ ∧ PySem.W.codeIn K cdv qual = true ∧ PySem.W.keepIn K (.ref f) = true
theorem factM_mk {K : PySem.W.Frag} {C : Addr} {m qual : Str} {st : Stmt} {f : Addr} {oc : Value} {od an : Option Addr} {osl : Array (Option Value)} {kV doc pm cdv ct : Value} (a : PySem.W.findIn K (.ref C) m = some (some (.ref f))) (i : PySem.W.isFn K (.ref f) = true)
    (l : K.lookup f = some ⟨oc, od, .func (PySem.W.fnOf m qual (defArgs st) (defBody st) (defScope st) .none kV doc pm an cdv ct), osl⟩) (c : PySem.W.codeIn K cdv qual = true) (k : PySem.W.keepIn K (.ref f) = true) : FactM K C m qual st :=
  ⟨f, oc, od, an, osl, kV, doc, pm, cdv, ct, a, i, l, c, k⟩
/-- a method and how its parameters are bound -/
def MetAt (K : PySem.W.Frag) (C : Addr) (m qual : Str) (st : Stmt) (ps : List Str) : Prop :=
  ∃ (f : Addr) (fd : FuncData), Fun K m qual st f fd ∧ Meth K C m f ∧ Binds K fd ps []
theorem FactM.at_ {K : PySem.W.Frag} {C : Addr} {m qual : Str} {st : Stmt} {ps : List Str} (z : FactM K C m qual st)
    (hb : ∀ (kV doc pm : Value) (an : Option Addr) (cdv ct : Value) (us : List Value), us.length = ps.length → bindArgs (PySem.W.fnOf m qual (defArgs st) (defBody st) (defScope st) .none kV doc pm an cdv ct) ⟨us, []⟩ = pure (ps.zip us)) : MetAt K C m qual st ps := by
  obtain ⟨f, oc, od, an, osl, kV, doc, pm, cdv, ct, a, i, l, c, k⟩ := z
  have F := fun_mk (st := st) l c k
  exact ⟨f, _, F, ⟨a, i, k⟩, F.binds hb⟩
section
variable {P : Program} {w : World} {K : PySem.W.Frag} {mg : Str → Option Value} {base : Heap} {cm : Nat → Addr} {n k : Nat} {m qual : Str} {st : Stmt} {ps : List Str}
theorem MetAt.met {fn : List D → Option D} (z : MetAt K (cm n) m qual st ps) (c : Cls K (cm n)) (h : ∀ {f : Addr} {fd : FuncData}, Fun K m qual st f fd → FnOk P w K mg base CX0 k f fd ps (spP K cm w fn)) : MetP P w K mg base cm k n m fn := by
  obtain ⟨f, fd, F, hm, hb⟩ := z
  exact ⟨f, fd, ps, h F, c, hm, hb⟩
theorem MetAt.metC {ms : List Bool} {fn : List D → Option (D × List D)} (z : MetAt K (cm n) m qual st ps) (c : Cls K (cm n)) (h : ∀ {f : Addr} {fd : FuncData}, Fun K m qual st f fd → FnOk P w K mg base CX0 k f fd ps (spC K cm w ms fn)) : MetC P w K mg base cm k n m ms fn := by
  obtain ⟨f, fd, F, hm, hb⟩ := z
  exact ⟨f, fd, ps, h F, c, hm, hb⟩
theorem MetAt.mak {x : Str} {ms : List Bool} {fn : List D → Option (D × List D)} (z : MetAt K (cm n) "__init__" qual st ps) (c : FactC K (cm n)) (hx : mg x = some (.ref (cm n))) (h : ∀ {f : Addr} {fd : FuncData}, Fun K "__init__" qual st f fd → FnOk P w K mg base CX0 k f fd ps (spC K cm w ms fn)) : MakC P w K mg base cm k n x ms fn := by
  obtain ⟨f, fd, F, hm, hb⟩ := z
  exact ⟨⟨f, fd, ps, h F, ⟨c.mks, hm.at_, hm.fn, c.kc⟩, hb⟩, hx⟩
end
end DL

/-! DL29: sorted(ints), list(range(n)). -/
namespace DL
open PySem L2
section
variable {cm : Nat → Addr} {X : Cx} {e : Expr} {es : List Expr} {pos : Pos} {fe : EF}
def intsOf : List D → Option (List Int)
  | [] => some []
  | .int i :: r => (intsOf r).map fun l => i :: l
  | _ => none
theorem intsOf_map : ∀ ns : List Int, intsOf (ns.map .int) = some ns
  | [] => rfl
  | i :: r => by rw [List.map_cons, intsOf, intsOf_map r]; rfl
theorem intsOf_eq : ∀ {ds : List D} {ns : List Int}, intsOf ds = some ns → ds = ns.map .int
  | [], ns, h => by cases h; rfl
  | d :: r, ns, h => by
    cases d with
    | int i =>
      rw [intsOf] at h
      cases e : intsOf r with
      | none => rw [e] at h; cases h
      | some l => rw [e] at h; cases h; rw [intsOf_eq e]; rfl
    | _ => cases h
theorem iss_ints {Γ : Ga} {H : Hp} : ∀ {ns : List Int} {us : List V}, Iss Γ H (ns.map .int) us → us = ns.map V.int
  | [], us, h => h
  | i :: r, us, h => by
    obtain ⟨v, t, rfl, h1, h2⟩ := h
    cases h1
    rw [iss_ints h2]; rfl
def leI (a b : Int) : Bool := decide (a ≤ b)
def srtI (ns : List Int) : List Int := ns.mergeSort leI
theorem srt_un : ∀ {l m : List Int}, l.Pairwise (· ≤ ·) → m.Pairwise (· ≤ ·) → l.Perm m → l = m
  | [], m, _, _, h => (List.nil_perm.mp h).symm
  | a :: r, [], _, _, h => by have := h.length_eq; simp at this
  | a :: r, b :: s, h1, h2, h => by
    rw [List.pairwise_cons] at h1 h2
    have hab : a ≤ b := by
      rcases List.mem_cons.mp (h.mem_iff.mpr (List.mem_cons_self (a := b) (l := s))) with q | q
      · omega
      · exact h1.1 _ q
    have hba : b ≤ a := by
      rcases List.mem_cons.mp (h.mem_iff.mp (List.mem_cons_self (a := a) (l := r))) with q | q
      · omega
      · exact h2.1 _ q
    have e : a = b := by omega
    subst e
    rw [srt_un h1.2 h2.2 ((List.perm_cons a).mp h)]
theorem srtI_perm (ns : List Int) : (srtI ns).Perm ns := List.mergeSort_perm ns leI
theorem srtI_pw (ns : List Int) : (srtI ns).Pairwise (· ≤ ·) := by
  have := List.pairwise_mergeSort (le := leI) (fun a b c h1 h2 => by simp [leI] at *; omega) (fun a b => by simp [leI]; omega) ns
  exact this.imp fun h => by simpa [leI] using h
theorem srtI_eq {ns l : List Int} (h : l.Perm ns) (hp : l.Pairwise (· ≤ ·)) : l = srtI ns := srt_un hp (srtI_pw ns) (h.trans (srtI_perm ns).symm)
def srtD : List D → Option D
  | [.lst ds] => (intsOf ds).map fun ns => .lst ((srtI ns).map .int)
  | _ => none
theorem srt_ints {ns l : List Int} (h : l.Perm ns) (hp : l.Pairwise (· ≤ ·)) : srtD [.lst (ns.map .int)] = some (.lst (l.map .int)) := by
  rw [srtD, intsOf_map, srtI_eq h hp]; rfl
theorem pu_sorted {g : AF} {p : Pos} (hm : X.mg "sorted" = none) (ha : PuA cm X (e :: es) g) (hg : Gl X "sorted" := by rfl)
    (he : starEach (e :: es) X.env = (false, eval e X.env) :: starEach es X.env := by rfl) (hpl : (backTo pos (starEach es X.env)).any (·.1) = false := by rfl) : PuE cm X (.Call (.Name "sorted" p) (e :: es) [] pos) (eCall srtD g) :=
  pu_cb (fun t pa => pe_callB cr_sortedI hg hm (by decide +kernel) pa (by decide) (by decide) he hpl) (fun H ds d vs Q e h hQ => by
    unfold srtD at e
    split at e
    · rename_i ds0
      cases ei : intsOf ds0 with
      | none => rw [ei] at e; cases e
      | some ns =>
        rw [ei] at e
        cases e
        obtain ⟨v, rfl, p, us, rfl, h1, h2⟩ := iss1 h
        rw [intsOf_eq ei] at h2
        have hu := iss_ints h2
        subst hu
        exact ⟨p, ns, rfl, SqL.of h1, fun ns' q hp hs hq => by
          rw [srtI_eq hp hs]
          exact hQ _ _ (born_lst hq (flats_map_int _) (Iss.scr _))⟩
    · cases e) ha
def lrgD : D → Option D
  | .int n => if 0 ≤ n ∧ n ≤ 16777216 then some (.lst (rangeL n)) else none
  | _ => none
theorem pu_lrg {p p2 pos2 : Pos} (hml : X.mg "list" = none) (hmr : X.mg "range" = none) (ha : PuE cm X e fe) (hc : X.calm = true := by rfl) (hg : Gl X "list" := by rfl) (hg2 : Gl X "range" := by rfl)
    (na : starEach [e] X.env = (false, eval e X.env) :: starEach [] X.env := by rfl) (na2 : starEach [.Call (.Name "range" p2) [e] [] pos2] X.env = (false, eval (.Call (.Name "range" p2) [e] [] pos2) X.env) :: starEach [] X.env := by rfl) :
    PuE cm X (.Call (.Name "list" p) [.Call (.Name "range" p2) [e] [] pos2] [] pos) (e1 lrgD fe) :=
  pu_op1 (r := fun v H Q => ∃ n, v = .int n ∧ RgOk 0 n ∧ ∀ q, H q = none → Q (.ref q) (upd H q (.lst (rgV 0 n)))) (fun _ pa => pe_listRg hc hg hml (prg_1 hg2 hmr pa na) na2) (fun H d c v Q e h hQ => by
    unfold lrgD at e
    split at e
    · rename_i n
      split at e
      · rename_i hn
        cases e
        cases h
        refine ⟨n, rfl, RgOk.of_le (by omega) hn.2 (by omega) hn.1, fun q hq => ?_⟩
        have e1 : rangeL n = ((List.range n.toNat).map fun i : Nat => (i : Int)).map .int := by simp [rangeL, Function.comp]
        have e2 : rgV 0 n = ((List.range n.toNat).map fun i : Nat => (i : Int)).map V.int := by simp [rgV, Function.comp]
        rw [e2]
        refine hQ _ _ ?_
        rw [e1]
        exact born_lst hq (flats_map_int _) (Iss.scr _)
      · cases e
    · cases e) ha
end
end DL

/-! DL30: chains, d.get, sorted texts, a fresh list from a call, own lists of frozen things. -/
namespace DL
open PySem L2
section
variable {cm : Nat → Addr} {X : Cx} {pos : Pos} {e : Expr}
/-! ### an expression as a statement -/
def sExE (f : EF) : SF := fun ρ => (f ρ).map fun _ => .nx ρ
theorem pus_exE {f : EF} {pos2 : Pos} (he : PuE cm X e f) (hs : swapsWith e none pos2.line X.env = pure false := by rfl) : PuS cm X (.Expr e pos2) (sExE f) := by
  obtain ⟨t, p, q⟩ := he
  refine ⟨_, ps_expr p hs, fun x B F ρ σ H r E ok hf hE => ?_⟩
  unfold sExE at hf
  cases e1 : f ρ with
  | none => rw [e1] at hf; cases hf
  | some a =>
    rw [e1] at hf
    cases hf
    exact q x B F ρ σ H a.1 a.2 _ ok e1 fun v B' H' g ok' _ => hE B' F σ H' g.bb ok'
/-! ### a <= b <= c -/
def eCh (p q : Int → Int → Bool) (f g h : EF) : EF := fun ρ => (f ρ).bind fun a => (g ρ).bind fun b => match a.1, b.1 with
  | .int i, .int j => if p i j = true then (h ρ).bind fun c => match c.1 with
    | .int k => some (.bl (q j k), .new)
    | _ => none else some (.bl false, .new)
  | _, _ => none
def Rd1 (cm : Nat → Addr) (X : Cx) (t : TE) (f : EF) : Prop := ∀ (x : Fx) (B : Hp) (F : Nat → List Addr) (ρ : Ev) (σ : St) (H : Hp) (d : D) (m : Md) (Q : VK), Ok (gx X cm) x B F ρ σ H → f ρ = some (d, m) →
    (∀ v B' H', Gr B H B' H' → Ok (gx X cm) x B' F ρ σ H' → Val (gx X cm) x m B' H' d v → Q v H') → t σ H Q
theorem chain_r {p q : Int → Int → Bool} {fa fb fc : EF} {ta tb tc : TE} (qa : Rd1 cm X ta fa) (qb : Rd1 cm X tb fb) (qc : Rd1 cm X tc fc) : Rd1 cm X (tChain (rI0 fun i j => .bl (p i j)) (rI0 fun i j => .bl (q i j)) ta tb tc) (eCh p q fa fb fc) := by
  intro x B F ρ σ H d m Q ok hf hQ
  unfold eCh at hf
  cases e1 : fa ρ with
  | none => rw [e1] at hf; cases hf
  | some a =>
    cases e2 : fb ρ with
    | none => rw [e1, e2] at hf; cases hf
    | some b =>
      rw [e1, e2] at hf
      simp only [Option.bind_some] at hf
      obtain ⟨da, ma⟩ := a
      obtain ⟨db, mb⟩ := b
      have hi : ∃ i j, da = .int i ∧ db = .int j := by
        cases da <;> first
          | (cases db <;> first
            | exact ⟨_, _, rfl, rfl⟩
            | cases hf)
          | cases hf
      obtain ⟨i, j, rfl, rfl⟩ := hi
      refine qa x B F ρ σ H _ ma _ ok e1 fun v B1 H1 g1 ok1 v1 => ?_
      refine qb x B1 F ρ σ H1 _ mb _ ok1 e2 fun u B2 H2 g2 ok2 v2 => ?_
      have hv := (v1.mono g2).is ok2
      have hu := v2.is ok2
      cases hv; cases hu
      refine ⟨i, j, rfl, rfl, p i j, rfl, ?_⟩
      dsimp only at hf
      split at hf
      · rename_i hp
        rw [if_pos hp]
        cases e3 : fc ρ with
        | none => rw [e3] at hf; cases hf
        | some c =>
          rw [e3] at hf
          simp only [Option.bind_some] at hf
          obtain ⟨dc, mc⟩ := c
          have hk : ∃ k, dc = .int k := by cases dc <;> first | exact ⟨_, rfl⟩ | cases hf
          obtain ⟨k, rfl⟩ := hk
          refine qc x B2 F ρ σ H2 _ mc _ ok2 e3 fun w B3 H3 g3 ok3 v3 => ?_
          cases hf
          have hw := v3.is ok3
          cases hw
          exact ⟨j, k, rfl, rfl, hQ _ B3 H3 (g1.trans (g2.trans g3)) ok3 rfl⟩
      · rename_i hp
        rw [if_neg hp]
        cases hf
        exact hQ _ B2 H2 (g1.trans g2) ok2 rfl
/-- a reading as a test -/
theorem Rd1.test {t : TE} {f : EF} (h : Rd1 cm X t f) {x : Fx} {B : Hp} {F : Nat → List Addr} {ρ : Ev} {σ : St} {H : Hp} {k : Bool} {Q : Bool → Hp → Prop} (ok : Ok (gx X cm) x B F ρ σ H) (hf : tE f ρ = some k) (hQ : ∀ B' H', Gr B H B' H' → Ok (gx X cm) x B' F ρ σ H' → Q k H') : tTest t σ H Q := by
  obtain ⟨m, e⟩ := tE_some hf
  refine h x B F ρ σ H _ m _ ok e fun v B' H' g ok' hv => ?_
  cases hv.is ok'
  exact ⟨k, rfl, hQ B' H' g ok'⟩
theorem pu_chain {a b c : Expr} {op op' : CmpOp} {p q : Int → Int → Bool} {fa fb fc : EF} (ho : OpR X (compareOp op) (rI0 fun i j => .bl (p i j))) (ho' : OpR X (compareOp op') (rI0 fun i j => .bl (q i j))) (ha : PuE cm X a fa) (hb : PuE cm X b fb) (hc : PuE cm X c fc)
    (hm : lastMarks [op, op'] [b, c] = false := by with_unfolding_all rfl) : PuE cm X (.Compare a [op, op'] [b, c] pos) (eCh p q fa fb fc) := by
  obtain ⟨ta, pa, qa⟩ := ha
  obtain ⟨tb, pb, qb⟩ := hb
  obtain ⟨tc, pc, qc⟩ := hc
  exact ⟨_, pe_chain ho ho' pa pb pc hm, chain_r qa qb qc⟩
theorem put_chain {a b c : Expr} {op op' : CmpOp} {p q : Int → Int → Bool} {fa fb fc : EF} (ho : OpR X (compareOp op) (rI0 fun i j => .bl (p i j))) (ho' : OpR X (compareOp op') (rI0 fun i j => .bl (q i j))) (ha : PuE cm X a fa) (hb : PuE cm X b fb) (hc : PuE cm X c fc)
    (hm : lastMarks [op, op'] [b, c] = false := by with_unfolding_all rfl) : PuT cm X (.Compare a [op, op'] [b, c] pos) (tE (eCh p q fa fb fc)) := by
  obtain ⟨ta, pa, qa⟩ := ha
  obtain ⟨tb, pb, qb⟩ := hb
  obtain ⟨tc, pc, qc⟩ := hc
  exact ⟨_, pt_chain ho ho' pa pb pc hm, fun x B F ρ σ H k Q ok hf hQ => (chain_r qa qb qc).test ok hf hQ⟩
/-! ### d.get(k, x), flat values -/
def getDD : List D → Option D
  | [.dic kvs, k, x] => (keyOf k).bind fun k => if flat ((getK kvs k).getD x) = true then some ((getK kvs k).getD x) else none
  | _ => none
theorem pu_get {o e f : Expr} {apos cpos : Pos} {fo fe ff : EF} (hu : X.A.units + 1 < cLine) (ho : PuE cm X o fo) (he : PuE cm X e fe) (hf' : PuE cm X f ff) (m : M2 X o "get" apos e f cpos := by exact ⟨rfl, rfl, rfl, rfl⟩) :
    PuE cm X (.Call (.Attribute o "get" apos) [e, f] [] cpos) (eCall getDD (aCons fo (aCons fe (aCons ff aNil)))) := by
  obtain ⟨ta, pa, qa⟩ := ho
  obtain ⟨tb, pb, qb⟩ := he
  obtain ⟨tc, pc, qc⟩ := hf'
  refine ⟨_, pe_dget2 hu pa pb pc m, fun x B F ρ σ H d md Q ok hf hQ => ?_⟩
  obtain ⟨as, h1, h2, rfl⟩ := eCall_some hf
  unfold aCons aNil at h1
  cases e1 : fo ρ with
  | none => simp [e1] at h1
  | some a =>
    cases e2 : fe ρ with
    | none => simp [e1, e2] at h1
    | some b =>
      cases e3 : ff ρ with
      | none => simp [e1, e2, e3] at h1
      | some c =>
        simp [e1, e2, e3] at h1
        subst h1
        obtain ⟨da, ma⟩ := a
        obtain ⟨db, mb⟩ := b
        obtain ⟨dc, mc⟩ := c
        simp only [List.map_cons, List.map_nil] at h2
        unfold getDD at h2
        split at h2
        · rename_i kvs k z heq
          simp only [List.cons.injEq, and_true] at heq
          obtain ⟨rfl, rfl, rfl⟩ := heq
          cases ek : keyOf db with
          | none => simp [ek] at h2
          | some key =>
            simp only [ek, Option.bind_some] at h2
            split at h2
            · rename_i hfl
              cases h2
              refine qa x B F ρ σ H _ ma _ ok e1 fun v B1 H1 g1 ok1 v1 => ?_
              obtain ⟨p, vs, rfl, k1, k2⟩ := v1.is ok1
              refine ⟨p, rfl, .inl ⟨_, .inl k1⟩, ?_⟩
              refine qb x B1 F ρ σ H1 db mb _ ok1 e2 fun u B2 H2 g2 ok2 v2 => ?_
              refine qc x B2 F ρ σ H2 dc mc _ ok2 e3 fun w B3 H3 g3 ok3 v3 => ?_
              have hk := keyOf_is ek ((v2.mono g3).is ok3)
              subst hk
              have k1' : H3 p = some (.dK vs) := g3.hh _ _ (g2.hh _ _ k1)
              have k2' := (k2.mono g2.hh).mono g3.hh
              refine ⟨_, DGet.k k1', hQ _ B3 H3 (g1.trans (g2.trans g3)) ok3 ?_⟩
              refine Val.new (m := .own) ok3 (by rw [hfl]; rfl) ?_
              cases eg : getK kvs key with
              | none =>
                have := k2'.val key
                rw [eg] at this
                rw [show valV vs key = none from this]
                exact v3.is ok3
              | some d0 =>
                obtain ⟨w', q1, q2⟩ := k2'.some eg
                rw [q1]
                exact q2
            · cases h2
        · cases h2
end
end DL

/-! DL31: sorted texts, a fresh list from a call, own lists of frozen things. -/
namespace DL
open PySem L2
/-! ### sorted(texts) -/
def leS (a b : Str) : Bool := !Spec.ltCps b.cps.toList a.cps.toList
theorem leS_iff {a b : Str} : leS a b = true ↔ a.cps.toList ≤ b.cps.toList := by
  unfold leS
  rw [PyProof.Rows.ltCps_eq]
  simp
theorem str_ext {a b : Str} (h : a.cps.toList = b.cps.toList) : a = b := by
  obtain ⟨⟨x⟩⟩ := a
  obtain ⟨⟨y⟩⟩ := b
  simp at h
  rw [h]
theorem leS_anti {a b : Str} (h : leS a b = true) (h2 : leS b a = true) : a = b := str_ext (List.le_antisymm (leS_iff.mp h) (leS_iff.mp h2))
theorem leS_trans {a b c : Str} (h : leS a b = true) (h2 : leS b c = true) : leS a c = true := leS_iff.mpr (List.le_trans (leS_iff.mp h) (leS_iff.mp h2))
theorem leS_total (a b : Str) : (leS a b || leS b a) = true := by
  rw [Bool.or_eq_true]
  rcases List.le_total a.cps.toList b.cps.toList with h | h
  · exact .inl (leS_iff.mpr h)
  · exact .inr (leS_iff.mpr h)
theorem rising_pw : ∀ {l : List Str} {p : Str}, PyProof.Rows.risingS p l = true → (p :: l).Pairwise (fun a b => leS a b = true)
  | [], p, _ => by simp
  | x :: r, p, h => by
    rw [PyProof.Rows.risingS, Bool.and_eq_true] at h
    have ih := rising_pw h.2
    have hp : leS p x = true := h.1
    rw [List.pairwise_cons]
    refine ⟨fun a ha => ?_, ih⟩
    rcases List.mem_cons.mp ha with rfl | ha
    · exact hp
    · exact leS_trans hp ((List.pairwise_cons.mp ih).1 a ha)
theorem sortedS_pw {l : List Str} (h : PyProof.Rows.sortedS l = true) : l.Pairwise (fun a b => leS a b = true) := by
  cases l with
  | nil => exact List.Pairwise.nil
  | cons x r => exact rising_pw h
theorem srtS_un : ∀ {l m : List Str}, l.Pairwise (fun a b => leS a b = true) → m.Pairwise (fun a b => leS a b = true) → l.Perm m → l = m
  | [], m, _, _, h => (List.nil_perm.mp h).symm
  | a :: r, [], _, _, h => by have := h.length_eq; simp at this
  | a :: r, b :: s, h1, h2, h => by
    rw [List.pairwise_cons] at h1 h2
    have hab : a = b := by
      have m1 : a ∈ b :: s := h.mem_iff.mp (by simp)
      have m2 : b ∈ a :: r := h.mem_iff.mpr (by simp)
      rcases List.mem_cons.mp m1 with e | m1
      · exact e
      · rcases List.mem_cons.mp m2 with e | m2
        · exact e.symm
        · exact leS_anti (h1.1 b m2) (h2.1 a m1)
    subst hab
    rw [srtS_un h1.2 h2.2 (List.Perm.cons_inv h)]
def srtSL (xs : List Str) : List Str := xs.mergeSort leS
theorem srtSL_perm (xs : List Str) : (srtSL xs).Perm xs := List.mergeSort_perm xs leS
theorem srtSL_pw (xs : List Str) : (srtSL xs).Pairwise (fun a b => leS a b = true) := List.pairwise_mergeSort (le := leS) (fun a b c h1 h2 => leS_trans h1 h2) leS_total xs
theorem srtSL_eq {xs l : List Str} (h : l.Perm xs) (hp : PyProof.Rows.sortedS l = true) : l = srtSL xs := srtS_un (sortedS_pw hp) (srtSL_pw xs) (h.trans (srtSL_perm xs).symm)
theorem srtSL_congr {xs ys : List Str} (h : xs.Perm ys) : srtSL xs = srtSL ys := srtS_un (srtSL_pw xs) (srtSL_pw ys) ((srtSL_perm xs).trans (h.trans (srtSL_perm ys).symm))
def srtSD : List D → Option D
  | [.lst ds] => (strsOf ds).bind fun xs => if xs.length < 64 then some (.lst ((srtSL xs).map .str)) else none
  | _ => none
theorem flats_map_str (xs : List Str) : flats (xs.map D.str) = true := by
  induction xs with
  | nil => rfl
  | cons x r ih => rw [List.map_cons, flats, ih]; rfl
theorem Iss.strs {Γ : Ga} {H : Hp} : ∀ xs : List Str, Iss Γ H (xs.map D.str) (xs.map V.str)
  | [] => rfl
  | _ :: r => ⟨_, _, rfl, rfl, Iss.strs r⟩
section
variable {cm : Nat → Addr} {X : Cx} {pos : Pos} {e : Expr} {es : List Expr}
theorem pu_sortedS {g : AF} {p : Pos} (hm : X.mg "sorted" = none) (ha : PuA cm X (e :: es) g) (hg : Gl X "sorted" := by rfl)
    (he : starEach (e :: es) X.env = (false, eval e X.env) :: starEach es X.env := by rfl) (hpl : (backTo pos (starEach es X.env)).any (·.1) = false := by rfl) : PuE cm X (.Call (.Name "sorted" p) (e :: es) [] pos) (eCall srtSD g) :=
  pu_cb (fun t pa => pe_callB cr_sortedS hg hm (by decide +kernel) pa (by decide) (by decide) he hpl) (fun H ds d vs Q e h hQ => by
    unfold srtSD at e
    split at e
    · rename_i ds0
      cases ei : strsOf ds0 with
      | none => rw [ei] at e; cases e
      | some xs =>
        rw [ei] at e
        simp only [Option.bind_some] at e
        split at e
        · rename_i hl
          cases e
          obtain ⟨v, rfl, p, us, rfl, h1, h2⟩ := iss1 h
          have hu := strsOf_is ei h2
          subst hu
          refine ⟨p, xs, rfl, SqL.of h1, hl, fun ys q hp hs hq => ?_⟩
          rw [srtSL_eq hp hs]
          exact hQ _ _ (born_lst hq (flats_map_str _) (Iss.strs _))
        · cases e
    · cases e) ha
/-! ### a fresh list of flat things from a call -/
def nCallF (f : List D → Option D) (g : AF) : NF := fun ρ => (g ρ).bind fun as => (f (as.map (·.1))).bind fun d => match d with
  | .lst ds => if flats ds = true then some (.lst ds) else none
  | _ => none
theorem own_born {Γ : Ga} {H H' : Hp} {ds : List D} {v : V} (b : Born Γ H H' (.lst ds) v) (f : flats ds = true) : ∃ a, v = .ref a ∧ Own Γ H' (.lst ds) v [a] ∧ H a = none := by
  obtain ⟨e, R, er, hn, a, vs, rfl, h1, h2⟩ := b
  refine ⟨a, rfl, ⟨a, vs, [], rfl, er _ _ h1, Owns.ofFlat f (h2.mono er), rfl⟩, ?_⟩
  rcases hn a _ h1 with ⟨xs, q⟩ | q
  · cases q
  · exact q
theorem pn_callF {k j : Nat} {x : Str} {f : List D → Option D} {g : AF} {p : Pos} (C : CalP X.prog X.w X.K X.mg X.base cm k x f) (hr : Room j X.A) (hk : k ≤ j) (ha : PuA cm X (e :: es) g) (hg : Gl X x := by rfl)
    (hdb : (x == ("__debug__" : Str)) = false := by decide) (he : starEach (e :: es) X.env = (false, eval e X.env) :: starEach es X.env := by rfl) (hpl : (backTo pos (starEach es X.env)).any (·.1) = false := by rfl) :
    PuN cm X (.Call (.Name x p) (e :: es) [] pos) (nCallF f g) := by
  obtain ⟨fa, fd, ps, F, hm, kp, hb⟩ := C
  obtain ⟨t, pa, qa⟩ := ha
  refine ⟨_, pe_call F (hr.mono hk) hg hm kp hb .nil pass0 pa hdb he hpl, fun x B F ρ σ H d Q ok hf hQ => ?_⟩
  unfold nCallF at hf
  cases e1 : g ρ with
  | none => rw [e1] at hf; cases hf
  | some as =>
    rw [e1] at hf
    simp only [Option.bind_some] at hf
    cases e2 : f (as.map (·.1)) with
    | none => rw [e2] at hf; cases hf
    | some r =>
      rw [e2] at hf
      simp only [Option.bind_some] at hf
      split at hf
      · rename_i ds
        split at hf
        · rename_i hfl
          cases hf
          refine qa x B F ρ σ H as _ ok e1 fun vs B1 H1 g1 ok1 hvs => ?_
          rw [List.append_nil]
          refine ⟨_, _, paired_iss ok1 hvs, e2, fun v H2 bn => ?_⟩
          obtain ⟨a, rfl, ho, hn⟩ := own_born bn hfl
          obtain ⟨B2, g2, ok2, h2⟩ := own_new ok1 bn.1 ho (fun b hb => by rw [List.mem_singleton.mp hb]; exact hn)
          exact hQ (.ref a) B2 H2 [a] (g1.trans g2) ok2 ho (by simp) fun b hb => ⟨g1.hh.free (h2 b hb).1, (h2 b hb).2⟩
        · cases hf
      · cases hf
/-! ### own lists of frozen things -/
def olize (ρ : Ev) (i : Nat) : Option Ev := match ρ[i]? with
  | some (.on (.lst [])) => some (ρ.set i (.ol []))
  | _ => none
theorem Ok.toOl {Γ : Ga} {x : Fx} {B : Hp} {F : Nat → List Addr} {ρ : Ev} {σ : St} {H : Hp} (o : Ok Γ x B F ρ σ H) {i : Nat} (h : ρ[i]? = some (.on (.lst []))) : Ok Γ x B F (ρ.set i (.ol [])) σ H := by
  have hlt := (List.getElem?_eq_some_iff.mp h).1
  refine ⟨o.kp, o.bh, o.tup, o.born, o.bk, o.dom, o.fk, o.dj, o.nd, fun j hj => o.out j (by rwa [List.length_set] at hj), by rw [List.length_set]; exact o.len, fun j s hs => ?_⟩
  by_cases q : j = i
  · subst q
    rw [List.getElem?_set_self hlt] at hs
    cases hs
    obtain ⟨v, q1, ⟨a, vs, fq, rfl, h1, ⟨rfl, rfl⟩, ef⟩, q3⟩ := o.at_ j _ h
    exact ⟨a, [], q1, ef, h1, rfl, q3 a (by rw [ef]; simp)⟩
  · rw [List.getElem?_set_ne (Ne.symm q)] at hs
    exact o.at_ j s hs
noncomputable def bOl (i : Nat) (g : SF) : SF := fun ρ => (olize ρ i).bind g
theorem pub_ol (i : Nat) {sts : List Stmt} {g : SF} (h : PuB cm X sts g) : PuB cm X sts (bOl i g) := by
  obtain ⟨t, p, q⟩ := h
  refine ⟨t, p, fun x B F ρ σ H r E ok hf hE => ?_⟩
  unfold bOl olize at hf
  split at hf
  · rename_i e
    exact q x B F _ σ H r E (ok.toOl e) hf hE
  · cases hf
theorem Ok.writeOl {Γ : Ga} {x : Fx} {B : Hp} {F : Nat → List Addr} {ρ : Ev} {σ : St} {H : Hp} (o : Ok Γ x B F ρ σ H) {i : Nat} {ds : List D} {y : D} {u : V} {a : Addr} {vs : List V} (h : ρ[i]? = some (.ol ds)) (hv : σ[i]? = some (some (.ref a))) (ha : H a = some (.lst vs)) (hu : Is Γ B y u) :
    Ok Γ x B F (ρ.set i (.ol (ds ++ [y]))) σ (upd H a (.lst (vs ++ [u]))) := by
  have hlt := (List.getElem?_eq_some_iff.mp h).1
  obtain ⟨a', vs', q1, q2, q3, q4, q5⟩ := o.at_ i _ h
  rw [hv] at q1
  cases q1
  rw [ha] at q3
  cases q3
  have hm : a ∈ F i := by rw [q2]; simp
  obtain ⟨k1, k2, k3⟩ := o.fk i a hm
  have tk : TupK H (upd H a (.lst (vs ++ [u]))) := TupK.upd (by intro xs z; rw [ha] at z; cases z)
  have hkk : ∀ j, j ≠ i → ∀ b ∈ F j, (upd H a (.lst (vs ++ [u]))) b = H b := fun j hj b hb => upd_ne fun z => hj (o.dj j i b hb (by rw [z]; exact hm))
  refine ⟨fun b w e => by rw [upd_ne (fun z => by rw [z, k1] at e; cases e)]; exact o.kp b w e, fun b w e => by rw [upd_ne (fun z => by rw [z, k2] at e; cases e)]; exact o.bh b w e, fun b xs e => ?_, o.born, o.bk, fun b e => ?_, o.fk, o.dj, o.nd, fun j hj => o.out j (by rwa [List.length_set] at hj), by rw [List.length_set]; exact o.len, fun j s hs => ?_⟩
  · by_cases z : b = a
    · subst z; rw [upd_same] at e; cases e
    · rw [upd_ne z] at e; exact o.tup b xs e
  · by_cases z : b = a
    · subst z; rw [upd_same] at e; cases e
    · rw [upd_ne z] at e; exact o.dom b e
  · by_cases q : j = i
    · subst q
      rw [List.getElem?_set_self hlt] at hs
      cases hs
      exact ⟨a, vs ++ [u], hv, q2, upd_same, q4.snoc hu, q5⟩
    · rw [List.getElem?_set_ne (Ne.symm q)] at hs
      have r := o.at_ j s hs
      cases s with
      | ow => obtain ⟨v', r1, r2, r3⟩ := r; exact ⟨v', r1, r2.keep tk (hkk j q), r3⟩
      | on => obtain ⟨v', r1, r2, r3⟩ := r; exact ⟨v', r1, r2.keep tk (hkk j q), r3⟩
      | ol => obtain ⟨b, ws, r1, r2, r3, r4, r5⟩ := r; exact ⟨b, ws, r1, r2, (hkk j q b (by rw [r2]; simp)).trans r3, r4, r5⟩
      | _ => exact r
/-- P.append(e), e made here -/
def sAppO (i : Nat) (f : EF) : SF := fun ρ => match ρ[i]? with
  | some (.ol ds) => (f ρ).bind fun y => if (flat y.1 || isNew y.2) = true ∧ ds.length < 16777216 then some (.nx (ρ.set i (.ol (ds ++ [y.1])))) else none
  | _ => none
theorem pus_appO (i : Nat) {x : Str} {xpos apos : Pos} {pos2 : Pos} {e2 : Expr} {f : EF} (hv : PuE cm X e2 f) (hN : X.N[i]? = some x := by rfl) (hvi : Vis X.env.scope x := by first | exact Or.inl rfl | exact Or.inr (Or.inl rfl) | exact Or.inr (Or.inr rfl))
    (hd : (x == ("__debug__" : Str)) = false := by decide) (hcd : (x == ("__classdict__" : Str)) = false := by decide) (hs : swapsWith (.Call (.Attribute (.Name x xpos) "append" apos) [e2] [] pos) none pos2.line X.env = pure false := by rfl)
    (hbase : attributeBase (.Name x xpos) "append" X.env (eval (.Name x xpos) X.env) = eval (.Name x xpos) X.env := by rfl)
    (hfew : ((backTo pos (starEach [e2] X.env)).all (fun x => !x.1) && (backToKw pos (keywordEach [] X.env)).all (fun x => x.1.isSome)
      && decide ([e2].length + ([] : List Keyword).length + (if ([] : List Keyword).isEmpty then 0 else 1) < 30)) = true := by rfl)
    (hline : (apos.endLine == pos.line) = true := by rfl) (hst : starEach [e2] X.env = (false, eval e2 X.env) :: starEach [] X.env := by rfl) (hplain : (backTo pos (starEach [] X.env)).any (·.1) = false := by rfl) :
    PuS cm X (.Expr (.Call (.Attribute (.Name x xpos) "append" apos) [e2] [] pos) pos2) (sAppO i f) := by
  obtain ⟨t2, p2, q2⟩ := hv
  refine ⟨_, ps_expr (pe_bm PySem.F.plainAttrs_list PySem.F.slot_list_append PySem.F.type_list_append mt_append (pe_var hN hvi hd hcd) (pa_cons p2 pa_nil hst) hbase hfew hline hst hplain) hs, fun x B F ρ σ H r E ok hf hE => ?_⟩
  unfold sAppO at hf
  split at hf
  · rename_i ds hρ
    cases en : f ρ with
    | none => rw [en] at hf; cases hf
    | some y =>
      rw [en] at hf
      simp only [Option.bind_some] at hf
      split at hf
      · rename_i hc
        obtain ⟨hnew, hlen⟩ := hc
        cases hf
        obtain ⟨a, vs, q1, q3, q4, q5, q6⟩ := ok.at_ i _ hρ
        refine ⟨.ref a, q1, .inl ⟨rfl, _, SqL.of q4⟩, ?_⟩
        refine q2 x B F ρ σ H y.1 y.2 _ ok en fun u B2 H2 g2 ok2 hu => ?_
        have h1' := g2.hh _ _ q4
        have hlv : vs.length = ds.length := q5.length
        refine ⟨a, vs, u, rfl, rfl, h1', by rw [line_eq]; omega, ?_⟩
        exact hE B2 F σ _ g2.bb (ok2.writeOl hρ q1 h1' (Val.new ok2 hnew hu))
      · cases hf
  · cases hf
end
end DL

/-! DL32: xs[a:c] = ys, c may lie behind the end. -/
namespace DL
open PySem L2 PySem.Spec PyProof.Rows
theorem bnd_cut {a c n : Nat} (hac : a ≤ c) (han : a ≤ n) : sliceBounds (some (a : Int)) (some (c : Int)) none n = ((a : Int), ((min c n : Nat) : Int), 1) := by
  have h1 : ¬ ((a : Int) < 0) := by omega
  have h2 : ¬ ((c : Int) < 0) := by omega
  simp only [sliceBounds, Option.getD_none, h1, h2, if_false, show (1 : Int) > 0 by decide, if_true]
  congr 1
  · omega
  · congr 1; omega
section
variable {prog : Program} {w : World} {A : Around} {E : Value → Shared → Prop} {s : Shared}
set_option maxRecDepth 100000 in
theorem setSl {l b sl : Addr} {items new : Array Value} {n n2 : Nat} {vl vu : Value} {a c : Nat} {Q : Unit → Shared → Prop} (e : s.heap.get? l = some { cls := .type "list", data := .seq items n })
    (e2 : s.heap.get? b = some { cls := .type "list", data := .seq new n2 }) (hne : l ≠ b) (hs : s.heap.IsSliceOf sl vl vu .none) (pl : IsPart vl (some (a : Int))) (pu : IsPart vu (some (c : Int))) (hac : a ≤ c) (han : a ≤ items.size)
    (hsz : items.size + new.size ≤ sizeLine) (h : Q () { s with heap := s.heap.update l (Obj.mapSeq fun xs => xs.extract 0 a ++ new ++ xs.extract (min c items.size) xs.size) }) : wpAny (model prog w) A (setItem (.ref l) (.ref sl) (.ref b)) Q E s := by
  have hl := PySem.IsL.isList e; have hb := PySem.IsL.isList e2
  obtain ⟨os, hos, hcs, hds⟩ := id hs
  have hTs : s.TypeIs (.ref sl) "slice" := ⟨os, hos, hcs⟩; have hsame : Builtin.List.listSameRef (.ref l) (.ref b) = false := beq_eq_false_iff_ne.mpr hne
  have hmax : (max (a : Int) ((min c items.size : Nat) : Int)).toNat = min c items.size := by omega
  have hz' : ((fun xs : Array Value => xs.extract 0 a ++ new ++ xs.extract (min c items.size) xs.size) items).size ≤ sizeLine + 1 := by simp only [Array.size_append, Array.size_extract]; omega
  unfold setItem; (try with_reducible refine wpAny_holding ?_); (first | refine wpAny_bind (wpAny_pure ?_) | skip)
  refine wpAny_bind (wpAny_sequenceKey hl.typeIs (by decide) (wpAny_bind (wpAny_callSpecial?_slot (name := Str.ofString "__setitem__") hl.typeIs F.slot_list_setitem (wpAny_call_entry F.slot_list_setitem hl.typeIs F.entry_list_setitem ?_ (PySem.args_list_setitem _ _ _)))))
  show wpAny _ _ (Builtin.List.listSubscript? (.ref sl) >>= _) _ _ s; refine wpAny_bind ?_; unfold Builtin.List.listSubscript?
  refine wpAny_bind (wpAny_specialOf hTs slice_no_index ?_); simp only [Option.isNone_none, if_true]; refine wpAny_pure ?_
  show wpAny _ _ (typeOf (.ref sl) >>= _) _ _ s; refine wpAny_bind (wpAny_typeOf hTs ?_)
  (first | rw [if_neg (by decide)] | refine PySem.W.KFB.if_not (by decide) ?_); rw [listSliceParts_eq]
  refine wpAny_bind (wpAny_bind (wpAny_field hos hds (x := .none) rfl (wpAny_bind (wpAny_listPart .none ?_)))); rw [if_neg (show ¬ ((rawPart none == rawInt 0) = true) from Bool.false_ne_true)]
  refine wpAny_bind (wpAny_field hos hds (x := vl) rfl (wpAny_bind (wpAny_listPart pl (wpAny_bind (wpAny_field hos hds (x := vu) rfl (wpAny_bind (wpAny_listPart pu (wpAny_pure ?_))))))))
  (first | simp only [hsame, Bool.false_eq_true, if_false] | refine PySem.W.KFB.if_not hsame ?_ | (dsimp only; rw [if_neg (by rw [hsame]; exact Bool.false_ne_true)]))
  refine wpAny_bind (m := Builtin.List.listAllItems (.ref b) "must assign iterable to extended slice") ?_; unfold Builtin.List.listAllItems; refine wpAny_bind (wpAny_typeOf hb.typeIs ?_)
  (first | refine PySem.W.KFB.if_so (by decide) ?_ | rw [if_pos (by decide)] | simp only [beq_self_eq_true, Bool.true_or, if_true]); unfold Builtin.List.listItems
  refine wpAny_bind (wpAny_seqItems e2 rfl (wpAny_pure (wpAny_bind (wpAny_bind (wpAny_seqItems e rfl (wpAny_pure ?_))))))
  refine wpAny_bind (wpAny_of_eq ((sliceIndices_raw (some (a : Int)) (some (c : Int)) none items.size (by simp)).trans (congrArg (pure : Int × Int × Int → Sem (Int × Int × Int)) (bnd_cut hac han))) ?_)
  show wpAny _ _ (if ((1 : Int) == 1) = true then _ else _) _ _ s; rw [if_pos (by decide)]; refine wpAny_bind (wpAny_rule ?_)
  (first | simp only [notLongL hsz, Bool.false_eq_true, if_false] | refine PySem.W.KFB.if_not (notLongL hsz) ?_); (first | refine wpAny_bind (wpAny_pure ?_) | skip)
  show wpAny _ _ (updateSeq l (fun xs => xs.extract 0 ((a : Int)).toNat ++ new ++ xs.extract (max (a : Int) ((min c items.size : Nat) : Int)).toNat xs.size) >>= _) _ _ s
  rw [hmax, Int.toNat_natCast]; refine wpAny_bind (wpAny_updateSeq (hz := Nat.le_trans (Nat.le_add_right _ _) hsz) (_hz' := hz') e rfl (wpAny_bind (wpAny_letGo ?_)))
  first | exact wpAny_bind (wpAny_pure (wpAny_pure ⟨.none, rfl, wpAny_pure h⟩)) | exact wpAny_pure ⟨.none, rfl, wpAny_pure h⟩
end
section
variable {X : Cx}
theorem set_sl {pins : List (Addr × Obj)} {s : Shared} {σ : L2.St} {H : Hp} {l b sl : Addr} {xs ys : List V} {a c : Int} {vl vu : Value} {Q : Unit → Shared → Prop} (I : Inv X pins σ H s) (hH : H l = some (.lst xs)) (hB : H b = some (.lst ys)) (hne : l ≠ b)
    (hs : s.heap.IsSliceOf sl vl vu .none) (ra : RelV (.int a) vl) (rc : RelV (.int c) vu) (h0 : 0 ≤ a) (hac : a ≤ c) (han : a ≤ xs.length) (hz : xs.length + ys.length ≤ sizeLine)
    (h : ∀ s', Inv X pins σ (upd H l (.lst (xs.take a.toNat ++ ys ++ xs.drop c.toNat))) s' → Q () s') : wpAny (model X.prog X.w) X.A (setItem (.ref l) (.ref sl) (.ref b)) Q X.xe s := by
  obtain ⟨ta, rfl⟩ := ra; obtain ⟨tc, rfl⟩ := rc
  obtain ⟨z, its, n, r, hl, e⟩ := I.lstM hH; obtain ⟨z2, its2, n2, r2, hl2, e2⟩ := I.lstM hB
  obtain ⟨a', rfl⟩ := Int.eq_ofNat_of_zero_le h0; obtain ⟨c', rfl⟩ := Int.eq_ofNat_of_zero_le (Int.le_trans h0 hac)
  simp only [Int.toNat_natCast] at h
  have hlen : its.length = xs.length := r.length.symm
  have hlen2 : its2.length = ys.length := r2.length.symm
  have hd : its.drop (min c' its.length) = its.drop c' := by
    by_cases q : c' ≤ its.length
    · rw [Nat.min_eq_left q]
    · rw [Nat.min_eq_right (by omega), List.drop_length, List.drop_eq_nil_of_le (by omega)]
  refine setSl (a := a') (c := c') e e2 hne hs (.int _ _) (.int _ _) (by omega) (by rw [List.size_toArray]; omega) (by rw [List.size_toArray, List.size_toArray]; omega) (h _ ?_)
  rw [List.size_toArray]
  refine I.lset (its' := its.take a' ++ its2 ++ its.drop (min c' its.length)) (t' := s.toks) hH e (splice_eq its its2 a' _) ?_ ?_
  · rw [hd]; exact Vals.append (Vals.append (r.take _) r2) (r.drop _)
  · rw [List.length_append, List.length_append, List.length_take, List.length_drop]
    omega
def gSlA (to tl th : TE) : TG := fun v σ H Q => to σ H fun x H1 => tl σ H1 fun l H2 => th σ H2 fun u H3 => ∃ p b xs ys a c, x = .ref p ∧ v = .ref b ∧ l = .int a ∧ u = .int c ∧ H3 p = some (.lst xs) ∧ H3 b = some (.lst ys) ∧ p ≠ b ∧ 0 ≤ a ∧ a ≤ c ∧ a ≤ xs.length ∧ xs.length + ys.length ≤ sizeLine ∧
  Q σ (upd H3 p (.lst (xs.take a.toNat ++ ys ++ xs.drop c.toNat)))
theorem pg_slA {o lo hi : Expr} {to tl th : TE} {p2 pos : Pos} (ho : PE X o to) (hl : PE X lo tl) (hh : PE X hi th)
    (ha : ∀ v, assign (.Subscript o (.Slice (some lo) (some hi) none p2) pos) X.env v = (do let ov ← holding [v] (eval o X.env); let iv ← holding [v, ov] (eval (.Slice (some lo) (some hi) none p2) X.env); standAt pos; holding [v, ov, iv] (setItem ov iv v); release [iv, v, ov] []) := by intro _; rfl) :
    PG X (.Subscript o (.Slice (some lo) (some hi) none p2) pos) (gSlA to tl th) := by
  refine ⟨fun pins s σ H v u Q I r h => ?_⟩
  rw [ha]
  refine wpAny_bind (wpAny_holding (thn (ho.run pins s σ H _ I h) fun ov s1 ⟨x, H1, I1, r1, q1⟩ => wpAny_bind (wpAny_holding (wpAny_Slice ?_))))
  rw [evalPart_some]
  refine thn (hl.run pins s1 σ H1 _ I1 q1) fun vl s2 ⟨l, H2, I2, pl, q2⟩ => ?_
  rw [evalPart_some]
  refine thn (hh.run pins s2 σ H2 _ I2 q2) fun vu s3 ⟨u', H3, I3, pu, p, b, xs, ys, a, c, ex, ev, el, eu, k1, k2, k3, k4, k5, k6, k7, q3⟩ => ?_
  subst ex ev el eu
  rw [evalPart_none]
  refine wpAny_pure ?_
  have I4 : Inv X pins σ H3 { s3 with heap := s3.heap.push { cls := .type "slice", data := .fields #[vl, vu, .none] } } := I3.kept (t' := s3.toks) fun b ob q => Heap.get?_push_of_some _ q
  cases r1
  cases r
  exact wpAny_bind (wpAny_standAt (wpAny_bind (wpAny_holding (set_sl I4 k1 k2 k3 (Heap.IsSliceOf.new ..) pl pu k4 k5 k6 k7 fun s5 I5 => wpAny_release ⟨σ, _, I5, q3⟩))))
end
end DL

/-! DL33: own lists with a slice stored, written dicts of tuples of texts, zip of tuples. -/
namespace DL
open PySem L2
section
variable {cm : Nat → Addr} {X : Cx} {pos : Pos}
/-- P[a:c] = [..] -/
def sSlA (i : Nat) (fl fh : EF) (f : NF) : SF := fun ρ => (f ρ).bind fun y => (fl ρ).bind fun l => (fh ρ).bind fun u => match y, l.1, u.1, ρ[i]? with
  | .lst es, .int a, .int c, some (.on (.lst ds)) => if 0 ≤ a ∧ a ≤ c ∧ a ≤ ds.length ∧ ds.length + es.length ≤ 16777216 ∧ flats ds = true ∧ flats es = true then some (.nx (ρ.set i (.on (.lst (ds.take a.toNat ++ es ++ ds.drop c.toNat))))) else none
  | _, _, _, _ => none
theorem flats_app : ∀ {ds es : List D}, flats ds = true → flats es = true → flats (ds ++ es) = true
  | [], es, _, h => h
  | d :: r, es, h, h2 => by rw [flats, Bool.and_eq_true] at h; rw [List.cons_append, flats, Bool.and_eq_true]; exact ⟨h.1, flats_app h.2 h2⟩
theorem pus_slA (i : Nat) {x : Str} {xpos p2 pos' : Pos} {lo hi e2 : Expr} {fl fh : EF} {nf : NF} (hv : PuN cm X e2 nf) (hlo : PuE cm X lo fl) (hhi : PuE cm X hi fh) (hN : X.N[i]? = some x := by rfl) (hvi : Vis X.env.scope x := by first | exact Or.inl rfl | exact Or.inr (Or.inl rfl) | exact Or.inr (Or.inr rfl))
    (hd : (x == ("__debug__" : Str)) = false := by decide) (hcd : (x == ("__classdict__" : Str)) = false := by decide)
    (hs : swapsWithSole [.Subscript (.Name x xpos) (.Slice (some lo) (some hi) none p2) pos'] e2 pos.line X.env = pure false := by rfl) (hw : swappedStores [.Subscript (.Name x xpos) (.Slice (some lo) (some hi) none p2) pos'] e2 X.env = pure none := by rfl)
    (h1 : (assignEach [.Subscript (.Name x xpos) (.Slice (some lo) (some hi) none p2) pos'] X.env).map (·.2) = [assign (.Subscript (.Name x xpos) (.Slice (some lo) (some hi) none p2) pos') X.env] := by rfl)
    (ha : ∀ v, assign (.Subscript (.Name x xpos) (.Slice (some lo) (some hi) none p2) pos') X.env v = (do let ov ← holding [v] (eval (.Name x xpos) X.env); let iv ← holding [v, ov] (eval (.Slice (some lo) (some hi) none p2) X.env); standAt pos'; holding [v, ov, iv] (setItem ov iv v); release [iv, v, ov] []) := by intro _; rfl) :
    PuS cm X (.Assign [.Subscript (.Name x xpos) (.Slice (some lo) (some hi) none p2) pos'] e2 pos) (sSlA i fl fh nf) := by
  obtain ⟨t2, pe2, q2⟩ := hv
  obtain ⟨tl, pl, ql⟩ := hlo
  obtain ⟨th, ph, qh⟩ := hhi
  refine ⟨_, ps_asg pe2 (pg_slA (pe_var hN hvi hd hcd) pl ph ha) hs hw h1, fun z B F ρ σ H r E ok hf hE => ?_⟩
  unfold sSlA at hf
  cases en : nf ρ with
  | none => rw [en] at hf; cases hf
  | some y =>
    cases el : fl ρ with
    | none => rw [en, el] at hf; cases hf
    | some l =>
      cases eh : fh ρ with
      | none => rw [en, el, eh] at hf; cases hf
      | some u =>
        rw [en, el, eh] at hf
        simp only [Option.bind_some] at hf
        obtain ⟨dl, ml⟩ := l
        obtain ⟨dh, mh⟩ := u
        split at hf
        · rename_i es a c ds e1 e2' hρ
          split at hf
          · rename_i hc
            obtain ⟨c1, c2, c3, c4, c5, c6⟩ := hc
            cases hf
            dsimp only at e1 e2'
            subst e1 e2'
            refine q2 z B F ρ σ H _ _ ok en fun v B1 H1 fp g1 ok1 ov nv lv => ?_
            obtain ⟨b, ys, fq, rfl, kb, ko, rfl⟩ := ov
            obtain ⟨v0, s1, ⟨p, xs, fr, rfl, kp, kx, ef⟩, s3⟩ := ok1.at_ i _ hρ
            refine ⟨.ref p, s1, ?_⟩
            refine ql z B1 F ρ σ H1 _ ml _ ok1 el fun w1 B2 H2 g2 ok2 hw1 => ?_
            refine qh z B2 F ρ σ H2 _ mh _ ok2 eh fun w2 B3 H3 g3 ok3 hw2 => ?_
            have i1 := (hw1.mono g3).is ok3
            have i2 := hw2.is ok3
            have i1 : w1 = .int a := i1
            have i2 : w2 = .int c := i2
            have kp3 := g3.hh _ _ (g2.hh _ _ kp)
            have kb3 := g3.hh _ _ (g2.hh _ _ kb)
            have hm : p ∈ F i := by rw [ef]; simp
            have hpb : p ≠ b := by
              rintro rfl
              obtain ⟨u', hu', _⟩ := ok.box hm
              rw [(lv p (by simp)).1] at hu'
              cases hu'
            have hlx : xs.length = ds.length := kx.length
            have hly : ys.length = es.length := ko.length
            refine ⟨p, b, xs, ys, a, c, rfl, rfl, i1, i2, kp3, kb3, hpb, c1, c2, by rw [hlx]; exact c3, by rw [hlx, hly, line_eq]; exact c4, ?_⟩
            have tk : TupK H3 (upd H3 p (.lst (xs.take a.toNat ++ ys ++ xs.drop c.toNat))) := TupK.upd (by intro xs z; rw [kp3] at z; cases z)
            have hxs : Iss (gx X cm) (tupOf H3) ds xs := (Iss.ofFlat c5 (kx.isIn tupOf_same fun _ _ => rfl)).mono (tupOf_mono fun q ws e => g3.hh _ _ (g2.hh _ _ e))
            have hys : Iss (gx X cm) (tupOf H3) es ys := (Iss.ofFlat c6 (ko.isIn tupOf_same fun _ _ => rfl)).mono (tupOf_mono fun q ws e => g3.hh _ _ (g2.hh _ _ e))
            have hall : Iss (gx X cm) (upd H3 p (.lst (xs.take a.toNat ++ ys ++ xs.drop c.toNat))) (ds.take a.toNat ++ es ++ ds.drop c.toNat) (xs.take a.toNat ++ ys ++ xs.drop c.toNat) :=
              (((Iss.take _ hxs).append hys).append (Iss.drop _ hxs)).mono (tk.same.trans tupOf_same)
            have hfl : flats (ds.take a.toNat ++ es ++ ds.drop c.toNat) = true := flats_app (flats_app (flats_take _ c5) c6) (flats_drop _ c5)
            have how : ownD ρ i = some (.lst ds) := by unfold ownD; rw [hρ]
            have okw := ok3.write (H' := upd H3 p (.lst (xs.take a.toNat ++ ys ++ xs.drop c.toNat))) (d' := .lst (ds.take a.toNat ++ es ++ ds.drop c.toNat)) (fp := [p]) how s1 (fun q w hq e => by rw [upd_ne (fun z => hq (by rw [z]; exact hm))]; exact e)
              (fun q e => by
                by_cases z : q = p
                · subst z; rw [upd_same] at e; cases e
                · rwa [upd_ne z] at e)
              (fun q ws e => by
                by_cases z : q = p
                · subst z; rw [upd_same] at e; cases e
                · rwa [upd_ne z] at e) ⟨p, _, [], rfl, upd_same, Owns.ofFlat hfl hall, rfl⟩ (by simp) (fun q hq => .inl (by rw [List.mem_singleton.mp hq]; exact hm))
            rw [show setOwn ρ i (.lst (ds.take a.toNat ++ es ++ ds.drop c.toNat)) = ρ.set i (.on (.lst (ds.take a.toNat ++ es ++ ds.drop c.toNat))) by unfold setOwn; rw [hρ]] at okw
            exact hE B3 _ σ _ (g1.bb.trans (g2.bb.trans g3.bb)) okw
          · cases hf
        · cases hf
end
end DL

/-! DL34: a written dict whose values are tuples of texts; zip of such a tuple and another. -/
namespace DL
open PySem L2
def WTup (K : PySem.W.Frag) (t : Addr) (xs : List Str) : Prop := ∃ (o : Obj) (its : Array Value) (n : Nat), K.lookup t = some o ∧ o.cls = .type "tuple" ∧ o.data = .seq its n ∧ its.size ≤ sizeLine ∧ Vals (xs.map V.str) its.toList
def strsV : List Value → Option (List Str)
  | [] => some []
  | .str x _ :: r => (strsV r).map (x :: ·)
  | _ => none
theorem strsV_vals : ∀ {l : List Value} {xs : List Str}, strsV l = some xs → Vals (xs.map V.str) l
  | [], xs, h => by cases h; exact .nil
  | v :: r, xs, h => by
    cases v with
    | str x t =>
      simp only [strsV] at h
      cases q : strsV r with
      | none => rw [q] at h; cases h
      | some ys =>
        rw [q] at h
        cases h
        exact .cons ⟨t, rfl⟩ (strsV_vals q)
    | _ => simp [strsV] at h
theorem wtup_mk {K : PySem.W.Frag} {t : Addr} {xs : List Str} {dc : Option Addr} {its : Array Value} {n : Nat} {sl : Array (Option Value)} (h : K.lookup t = some ⟨.type "tuple", dc, .seq its n, sl⟩) (hz : (its.size ≤ 1000) ∧ strsV its.toList = some xs) : WTup K t xs :=
  ⟨_, its, n, h, rfl, rfl, by have := hz.1; rw [line_eq]; omega, strsV_vals hz.2⟩
def KEntT (K : PySem.W.Frag) (d : Addr) (p : Str × Option (List Str)) : Prop := match p.2 with
  | some l => ∃ t, PySem.W.nsIn K d p.1 = some (some (.ref t)) ∧ WTup K t l
  | none => PySem.W.nsIn K d p.1 = some none
abbrev TabT := List (Str × Option (List Str))
def KTabT0 (K : PySem.W.Frag) (w : World) (x : Str) (tab : TabT) : Prop :=
  ∃ d es n, PySem.W.nsIn K mainGlobals x = some (some (.ref d)) ∧ KDict K w d es n ∧ ∀ p ∈ tab, KEntT K d p
def KTabT (K : PySem.W.Frag) (w : World) (mg : Str → Option Value) (x : Str) (tab : TabT) : Prop :=
  ∃ d es n, mg x = some (.ref d) ∧ KDict K w d es n ∧ ∀ p ∈ tab, KEntT K d p
theorem KTabT0.at_ {K : PySem.W.Frag} {w : World} {x : Str} {tab : TabT} {h : Heap} {mg : Str → Option Value} (T : KTabT0 K w x tab) (X : K.In h) (G : h.Ns mainGlobals mg) : KTabT K w mg x tab := by
  obtain ⟨d, es, n, h1, h2, h3⟩ := T
  exact ⟨d, es, n, PySem.W.mg_of X G h1, h2, h3⟩
theorem kentTs_nil {K : PySem.W.Frag} {d : Addr} : ∀ p ∈ ([] : TabT), KEntT K d p := fun _ h => by cases h
theorem kentTs_cons {K : PySem.W.Frag} {d : Addr} {p : Str × Option (List Str)} {r : TabT} (h : KEntT K d p) (h2 : ∀ p ∈ r, KEntT K d p) : ∀ q ∈ p :: r, KEntT K d q := fun q hq => by
  rcases List.mem_cons.mp hq with rfl | hq
  · exact h
  · exact h2 q hq
theorem kentT_some {K : PySem.W.Frag} {d t : Addr} {x : Str} {l : List Str} (h : PySem.W.nsIn K d x = some (some (.ref t))) (h2 : WTup K t l) : KEntT K d (x, some l) := ⟨t, h, h2⟩
theorem kentT_none {K : PySem.W.Frag} {d : Addr} {x : Str} (h : PySem.W.nsIn K d x = some none) : KEntT K d (x, none) := h
theorem ktabT_mk {K : PySem.W.Frag} {w : World} {x : Str} {tab : TabT} {d : Addr} {es : Array DictEntry} {n : Nat} (h1 : PySem.W.nsIn K mainGlobals x = some (some (.ref d))) (h2 : K.lookup d = some ⟨.type "dict", none, .dict es n, #[]⟩) (hk : PySem.W.KeysLit w.params es.toList) (lo : (d == sysModules) = false) (h3 : ∀ p ∈ tab, KEntT K d p) : KTabT0 K w x tab :=
  ⟨d, es, n, h1, ⟨h2, hk, lo⟩, h3⟩
def tabGet (tab : TabT) (z : Str) : Option (Option (List Str)) := (tab.find? fun p => p.1 == z).map (·.2)
theorem tabGet_ent {K : PySem.W.Frag} {d : Addr} {tab : TabT} {z : Str} {r : Option (List Str)} (ht : ∀ p ∈ tab, KEntT K d p) (h : tabGet tab z = some r) : KEntT K d (z, r) := by
  unfold tabGet at h
  cases q : tab.find? (fun p => p.1 == z) with
  | none => rw [q] at h; cases h
  | some p =>
    rw [q] at h
    cases h
    have hz : p.1 = z := by
      have := List.find?_some q
      simpa using this
    subst hz
    exact ht p (List.mem_of_find?_eq_some q)
def tinD (tab : TabT) : D → Option D
  | .str z => (tabGet tab z).map fun r => .bl r.isSome
  | _ => none
def tninD (tab : TabT) : D → Option D
  | .str z => (tabGet tab z).map fun r => .bl (!r.isSome)
  | _ => none
def tixD (tab : TabT) : D → Option D
  | .str z => (tabGet tab z).bind fun r => r.map .wtp
  | _ => none
section
variable {cm : Nat → Addr} {X : Cx} {pos npos : Pos} {e : Expr} {fe : EF} {x : Str} {tab : TabT}
theorem pu_tin (T : KTabT X.K X.w X.mg x tab) (he : PuE cm X e fe) (hg : Gl X x := by rfl) (hd : (x == ("__debug__" : Str)) = false := by decide) (hm : behindInMarks .In (.Name x npos) = false := by rfl) : PuE cm X (.Compare e [.In] [.Name x npos] pos) (e1 (tinD tab) fe) := by
  obtain ⟨d, es, n, hmg, D, ht⟩ := T
  obtain ⟨te, pe, qe⟩ := he
  refine ⟨_, pe_cmpR (op_in_kd D) pe (pe_glob hg hmg (v := .ref d) rfl hd) hm, fun z B F ρ σ H c m Q ok hv hQ => ?_⟩
  obtain ⟨da, m1, ea, ed, rfl⟩ := e1_some hv
  refine qe z B F ρ σ H da m1 _ ok ea fun v B1 H1 g1 ok1 v1 => ?_
  have hi := v1.is ok1
  unfold tinD at ed
  split at ed
  · rename_i y
    cases hi
    cases q : tabGet tab y with
    | none => rw [q] at ed; cases ed
    | some r =>
      rw [q] at ed
      cases ed
      have k := tabGet_ent ht q
      cases r with
      | none => exact ⟨y, none, rfl, rfl, k, hQ _ B1 H1 g1 ok1 rfl⟩
      | some l => obtain ⟨t, k1, _⟩ := k; exact ⟨y, some (.ref t), rfl, rfl, k1, hQ _ B1 H1 g1 ok1 rfl⟩
  · cases ed
theorem pu_tnin (T : KTabT X.K X.w X.mg x tab) (he : PuE cm X e fe) (hg : Gl X x := by rfl) (hd : (x == ("__debug__" : Str)) = false := by decide) (hm : behindInMarks .NotIn (.Name x npos) = false := by rfl) : PuE cm X (.Compare e [.NotIn] [.Name x npos] pos) (e1 (tninD tab) fe) := by
  obtain ⟨d, es, n, hmg, D, ht⟩ := T
  obtain ⟨te, pe, qe⟩ := he
  refine ⟨_, pe_cmpR (op_notIn_kd D) pe (pe_glob hg hmg (v := .ref d) rfl hd) hm, fun z B F ρ σ H c m Q ok hv hQ => ?_⟩
  obtain ⟨da, m1, ea, ed, rfl⟩ := e1_some hv
  refine qe z B F ρ σ H da m1 _ ok ea fun v B1 H1 g1 ok1 v1 => ?_
  have hi := v1.is ok1
  unfold tninD at ed
  split at ed
  · rename_i y
    cases hi
    cases q : tabGet tab y with
    | none => rw [q] at ed; cases ed
    | some r =>
      rw [q] at ed
      cases ed
      have k := tabGet_ent ht q
      cases r with
      | none => exact ⟨y, none, rfl, rfl, k, hQ _ B1 H1 g1 ok1 rfl⟩
      | some l => obtain ⟨t, k1, _⟩ := k; exact ⟨y, some (.ref t), rfl, rfl, k1, hQ _ B1 H1 g1 ok1 rfl⟩
  · cases ed
theorem put_tin (T : KTabT X.K X.w X.mg x tab) (he : PuE cm X e fe) (hg : Gl X x := by rfl) (hd : (x == ("__debug__" : Str)) = false := by decide) (hm : behindInMarks .In (.Name x npos) = false := by rfl) : PuT cm X (.Compare e [.In] [.Name x npos] pos) (tE (e1 (tinD tab) fe)) := by
  obtain ⟨d, es, n, hmg, D, ht⟩ := T
  obtain ⟨te, pe, qe⟩ := he
  refine ⟨_, pt_cmpR (op_in_kd D) pe (pe_glob hg hmg (v := .ref d) rfl hd) hm, fun z B F ρ σ H k Q ok hf hQ => ?_⟩
  obtain ⟨m, e0⟩ := tE_some hf
  obtain ⟨da, m1, ea, ed, rfl⟩ := e1_some e0
  refine qe z B F ρ σ H da m1 _ ok ea fun v B1 H1 g1 ok1 v1 => ?_
  have hi := v1.is ok1
  unfold tinD at ed
  split at ed
  · rename_i y
    cases hi
    cases q : tabGet tab y with
    | none => rw [q] at ed; cases ed
    | some r =>
      rw [q] at ed
      cases ed
      have k := tabGet_ent ht q
      cases r with
      | none => exact ⟨y, none, rfl, rfl, k, _, rfl, hQ B1 H1 g1 ok1⟩
      | some l => obtain ⟨t, k1, _⟩ := k; exact ⟨y, some (.ref t), rfl, rfl, k1, _, rfl, hQ B1 H1 g1 ok1⟩
  · cases ed
theorem put_tnin (T : KTabT X.K X.w X.mg x tab) (he : PuE cm X e fe) (hg : Gl X x := by rfl) (hd : (x == ("__debug__" : Str)) = false := by decide) (hm : behindInMarks .NotIn (.Name x npos) = false := by rfl) : PuT cm X (.Compare e [.NotIn] [.Name x npos] pos) (tE (e1 (tninD tab) fe)) := by
  obtain ⟨d, es, n, hmg, D, ht⟩ := T
  obtain ⟨te, pe, qe⟩ := he
  refine ⟨_, pt_cmpR (op_notIn_kd D) pe (pe_glob hg hmg (v := .ref d) rfl hd) hm, fun z B F ρ σ H k Q ok hf hQ => ?_⟩
  obtain ⟨m, e0⟩ := tE_some hf
  obtain ⟨da, m1, ea, ed, rfl⟩ := e1_some e0
  refine qe z B F ρ σ H da m1 _ ok ea fun v B1 H1 g1 ok1 v1 => ?_
  have hi := v1.is ok1
  unfold tninD at ed
  split at ed
  · rename_i y
    cases hi
    cases q : tabGet tab y with
    | none => rw [q] at ed; cases ed
    | some r =>
      rw [q] at ed
      cases ed
      have k := tabGet_ent ht q
      cases r with
      | none => exact ⟨y, none, rfl, rfl, k, _, rfl, hQ B1 H1 g1 ok1⟩
      | some l => obtain ⟨t, k1, _⟩ := k; exact ⟨y, some (.ref t), rfl, rfl, k1, _, rfl, hQ B1 H1 g1 ok1⟩
  · cases ed
theorem WTup.sq {K : PySem.W.Frag} {t : Addr} {xs : List Str} {H : Hp} (h : WTup K t xs) : SqT K H t (xs.map V.str) := .inr h
theorem pu_tix (T : KTabT X.K X.w X.mg x tab) (he : PuE cm X e fe) (hg : Gl X x := by rfl) (hd : (x == ("__debug__" : Str)) = false := by decide) (hs : PlainIx e := by intro _ _; rfl) : PuE cm X (.Subscript (.Name x npos) e pos) (e1 (tixD tab) fe) := by
  obtain ⟨d, es, n, hmg, D, ht⟩ := T
  obtain ⟨te, pe, qe⟩ := he
  refine ⟨_, pe_ix ix_kdict (pe_glob hg hmg (v := .ref d) rfl hd) pe hs, fun z B F ρ σ H c m Q ok hv hQ => ?_⟩
  obtain ⟨da, m1, ea, ed, rfl⟩ := e1_some hv
  refine qe z B F ρ σ H da m1 _ ok ea fun v B1 H1 g1 ok1 v1 => ?_
  have hi := v1.is ok1
  unfold tixD at ed
  split at ed
  · rename_i y
    cases hi
    cases q : tabGet tab y with
    | none => rw [q] at ed; cases ed
    | some r =>
      rw [q] at ed
      simp only [Option.bind_some] at ed
      cases r with
      | none => cases ed
      | some l =>
        cases ed
        obtain ⟨t, k1, k2⟩ := tabGet_ent ht q
        exact ⟨d, y, .ref t, rfl, rfl, ⟨es, n, .ref t, D.at_, D.lit, k1, rfl⟩, hQ _ B1 H1 g1 ok1 ⟨t, rfl, k2.sq⟩⟩
  · cases ed
/-! ### zip(written texts, tuple) -/
def iZT (f g : EF) : IF := fun ρ => (f ρ).bind fun a => (g ρ).bind fun b => match a, b with
  | (.wtp xs, .new), (.tup es, .new) => if flats es = true then some (zipL (xs.map .str) es, .new) else none
  | _, _ => none
theorem src_zipT {Γ : Ga} {Rg : Hp} {a b : Addr} {xs : List Str} {us : List V} {es : List D} (h1 : SqT Γ.K Rg a (xs.map V.str)) (k1 : Rg b = some (.tup us)) (k2 : Iss Γ Rg es us) (f2 : flats es = true) : Src Γ Rg (zipL (xs.map .str) es) (RZ.ItzT Γ.K a b) where
  go := fun i H d s e => by
    obtain ⟨x, y, e1, e2, _⟩ := zipL_get e
    obtain ⟨v, e3, _⟩ := (Iss.strs (Γ := Γ) (H := Rg) xs).get e1
    obtain ⟨u, e4, _⟩ := k2.get e2
    exact ⟨xs.map V.str, us, v, u, same_sqT s h1, SqT.of (s _ _ k1), e3, e4⟩
  yld := fun i H d v H' s e y => by
    obtain ⟨p, q, e1, e2, rfl⟩ := zipL_get e
    obtain ⟨w, e3, w1⟩ := (Iss.strs (Γ := Γ) (H := Rg) xs).get e1
    obtain ⟨u, e4, u1⟩ := k2.get e2
    obtain ⟨T, z, z', rfl, hT, rfl, hz, hz'⟩ := y
    have q1 := hz _ (same_sqT s h1)
    rw [e3] at q1
    cases q1
    have q2 := hz' us (SqT.of (s _ _ k1))
    rw [e4] at q2
    cases q2
    have ff : flats [p, q] = true := by simp only [flats, flats_mem (flats_map_str xs) p (List.mem_of_getElem? e1), flats_mem f2 q (List.mem_of_getElem? e2)]; rfl
    exact .inr ⟨ff, born_tup hT ff ⟨_, _, rfl, w1.mono s, _, [], rfl, u1.mono s, rfl⟩⟩
  stop := fun i H s hl => ⟨xs.map V.str, us, same_sqT s h1, SqT.of (s _ _ k1), by
    rw [zipL_length] at hl
    have := k2.length
    simp only [List.length_map] at hl ⊢
    omega⟩
theorem pui_zipT {a b : Expr} {fa fb : EF} {p tpos : Pos} {elts : List Expr} {kk : Nat} (hm : X.mg "zip" = none) (he : PuE cm X a fa) (he2 : PuE cm X b fb) (hg : Gl X "zip" := by rfl)
    (hs : starEach [a, b] X.env = (false, eval a X.env) :: starEach [b] X.env := by rfl) (hpl : (backTo pos (starEach [b] X.env)).any (·.1) = false := by rfl) (hs2 : starEach [b] X.env = (false, eval b X.env) :: starEach [] X.env := by rfl) :
    PuI cm X (.Tuple elts kk tpos) (.Call (.Name "zip" p) [a, b] [] pos) (iZT fa fb) := by
  obtain ⟨t, pe, q⟩ := he
  obtain ⟨t2, pe2, q2⟩ := he2
  refine ⟨_, RZ.pi_zipA hg hm (pa_cons pe (pa_cons pe2 pa_nil hs2) hs) hs hpl, fun x B F ρ σ H ds m R ok hf hR => ?_⟩
  unfold iZT at hf
  cases ea : fa ρ with
  | none => rw [ea] at hf; cases hf
  | some a =>
    cases eb : fb ρ with
    | none => rw [ea, eb] at hf; cases hf
    | some b =>
      rw [ea, eb] at hf
      simp only [Option.bind_some] at hf
      split at hf
      · rename_i xs es
        split at hf
        · rename_i f
          cases hf
          refine q x B F ρ σ H _ _ _ ok ea fun v B1 H1 g1 ok1 hv => ?_
          refine q2 x B1 F ρ σ H1 _ _ _ ok1 eb fun u B2 H2 g2 ok2 hu => ?_
          obtain ⟨a, rfl, h1⟩ := hv.mono g2
          obtain ⟨b, us, rfl, k1, k2⟩ := hu
          exact ⟨a, b, xs.map V.str, us, rfl, .inr ⟨same_sqT ok2.bh h1, SqT.of (ok2.bh _ _ k1), hR _ B2 H2 (g1.trans g2) ok2 (src_zipT h1 k1 k2 f)⟩⟩
        · cases hf
      · cases hf
end
end DL

/-! DL35: instances that are made and then only read: their fields may be anything that stands. -/
namespace DL
open PySem L2
/-- within __init__: self is at a, the arguments stand in R -/
structure InitAt (Γ : Ga) (n : Nat) (σ : St) (H R : Hp) (a dx : Addr) (ds : List D) (fs : List (Str × D)) (ws : List (Str × V)) : Prop where
  self : σ[0]? = some (some (.ref a))
  args : ∃ us, Iss Γ R ds us ∧ ∀ (i : Nat) (u : V), us[i]? = some u → σ[i + 1]? = some (some u)
  at_ : H a = some (.ins (Γ.cm n) dx ws)
  keep : Same R H
  off : R a = none
  flds : IsF Γ R fs ws
theorem IsF.put {Γ : Ga} {R : Hp} {f : Str} {d : D} {v : V} (hd : Is Γ R d v) : ∀ {fs : List (Str × D)} {ws : List (Str × V)}, IsF Γ R fs ws → IsF Γ R (putFD f d fs) (putF f v ws)
  | [], _, h => by cases h; exact ⟨v, [], rfl, hd, rfl⟩
  | (g, x) :: r, _, ⟨u, s, e, h1, h2⟩ => by
    subst e
    by_cases q : g = f
    · rw [putFD, if_pos q, putF, if_pos q]; exact ⟨v, s, rfl, hd, h2⟩
    · rw [putFD, if_neg q, putF, if_neg q]; exact ⟨u, _, rfl, h1, IsF.put hd h2⟩
theorem IsF.length {Γ : Ga} {R : Hp} : ∀ {fs : List (Str × D)} {ws : List (Str × V)}, IsF Γ R fs ws → ws.length = fs.length
  | [], _, h => by cases h; rfl
  | (g, x) :: r, _, ⟨u, s, e, h1, h2⟩ => by subst e; rw [List.length_cons, List.length_cons, IsF.length h2]
theorem InitAt.put {Γ : Ga} {n : Nat} {σ : St} {H R : Hp} {a dx : Addr} {ds : List D} {fs : List (Str × D)} {ws : List (Str × V)} {f : Str} {d : D} {v : V} (h : InitAt Γ n σ H R a dx ds fs ws) (hd : Is Γ R d v) : InitAt Γ n σ (upd H a (.ins (Γ.cm n) dx (putF f v ws))) R a dx ds (putFD f d fs) (putF f v ws) where
  self := h.self
  args := h.args
  at_ := upd_same
  keep := fun b u e => by rw [upd_ne (fun z => by rw [z, h.off] at e; cases e)]; exact h.keep b u e
  off := h.off
  flds := h.flds.put hd
abbrev KF := List D → List (Str × D) → Option (List (Str × D))
def PuK (cm : Nat → Addr) (X : Cx) (n : Nat) (st : Stmt) (g : KF) : Prop :=
  ∃ t, PS X st t ∧ ∀ (R : Hp) (a dx : Addr) (σ : St) (H : Hp) (ds : List D) (fs : List (Str × D)) (ws : List (Str × V)) (fs' : List (Str × D)) (E : Ends), InitAt (gx X cm) n σ H R a dx ds fs ws → g ds fs = some fs' →
    (∀ ws' : List (Str × V), InitAt (gx X cm) n σ (upd H a (.ins (cm n) dx ws')) R a dx ds fs' ws' → E.nx σ (upd H a (.ins (cm n) dx ws'))) → t E σ H
def PuKs (cm : Nat → Addr) (X : Cx) (n : Nat) (sts : List Stmt) (g : KF) : Prop :=
  ∃ t, PSs X sts t ∧ ∀ (R : Hp) (a dx : Addr) (σ : St) (H : Hp) (ds : List D) (fs : List (Str × D)) (ws : List (Str × V)) (fs' : List (Str × D)) (E : Ends), InitAt (gx X cm) n σ H R a dx ds fs ws → g ds fs = some fs' →
    (∀ ws' : List (Str × V), InitAt (gx X cm) n σ (upd H a (.ins (cm n) dx ws')) R a dx ds fs' ws' → E.nx σ (upd H a (.ins (cm n) dx ws'))) → t E σ H
def kPar (f : Str) (i : Nat) : KF := fun ds fs => (ds[i]?).bind fun d => if fs.length < 1000 then some (putFD f d fs) else none
def kFld (f : Str) (i m : Nat) (g : Str) : KF := fun ds fs => (ds[i]?).bind fun d => (fldD m g d).bind fun c => if fs.length < 1000 then some (putFD f c fs) else none
def kSeq (g h : KF) : KF := fun ds fs => (g ds fs).bind fun fs' => h ds fs'
section
variable {cm : Nat → Addr} {X : Cx} {n : Nat} {pos : Pos}
theorem puk_par {f s x : Str} (i : Nat) {pos' sp xp : Pos} (hc : Cls X.K (cm n)) (hn : NoAttr X.K (cm n) f) (hs0 : X.N[0]? = some s := by rfl) (hi : X.N[i + 1]? = some x := by rfl)
    (hv0 : Vis X.env.scope s := by first | exact Or.inl rfl | exact Or.inr (Or.inl rfl) | exact Or.inr (Or.inr rfl)) (hv : Vis X.env.scope x := by first | exact Or.inl rfl | exact Or.inr (Or.inl rfl) | exact Or.inr (Or.inr rfl))
    (hd0 : (s == ("__debug__" : Str)) = false := by decide) (hcd0 : (s == ("__classdict__" : Str)) = false := by decide) (hd : (x == ("__debug__" : Str)) = false := by decide) (hcd : (x == ("__classdict__" : Str)) = false := by decide)
    (hs : swapsWith (.Name x xp) (some (.Attribute (.Name s sp) f pos')) pos.line X.env = pure false := by rfl) :
    PuK cm X n (.Assign [.Attribute (.Name s sp) f pos'] (.Name x xp) pos) (kPar f i) := by
  refine ⟨_, ps_fld (pe_var hs0 hv0 hd0 hcd0) (pe_var hi hv hd hcd) hs, fun R a dx σ H ds fs ws fs' E h hg hE => ?_⟩
  unfold kPar at hg
  cases e1 : ds[i]? with
  | none => rw [e1] at hg; cases hg
  | some d =>
    rw [e1] at hg
    simp only [Option.bind_some] at hg
    split at hg
    · rename_i hl
      cases hg
      obtain ⟨us, k1, k2⟩ := h.args
      obtain ⟨v, e2, hv2⟩ := k1.get e1
      refine ⟨v, k2 i v e2, .ref a, h.self, a, cm n, dx, ws, rfl, h.at_, hc, hn, by rw [h.flds.length]; exact hl, ?_⟩
      exact hE _ (h.put hv2)
    · cases hg
theorem puk_fld {f g s x : Str} (i m : Nat) {pos' sp xp ap : Pos} (hc : Cls X.K (cm n)) (hn : NoAttr X.K (cm n) f) (hcm : Cls X.K (cm m)) (hnm : NoAttr X.K (cm m) g) (hs0 : X.N[0]? = some s := by rfl) (hi : X.N[i + 1]? = some x := by rfl)
    (hv0 : Vis X.env.scope s := by first | exact Or.inl rfl | exact Or.inr (Or.inl rfl) | exact Or.inr (Or.inr rfl)) (hv : Vis X.env.scope x := by first | exact Or.inl rfl | exact Or.inr (Or.inl rfl) | exact Or.inr (Or.inr rfl))
    (hd0 : (s == ("__debug__" : Str)) = false := by decide) (hcd0 : (s == ("__classdict__" : Str)) = false := by decide) (hd : (x == ("__debug__" : Str)) = false := by decide) (hcd : (x == ("__classdict__" : Str)) = false := by decide)
    (hb : attributeBase (.Name x xp) g X.env (eval (.Name x xp) X.env) = eval (.Name x xp) X.env := by rfl)
    (hs : swapsWith (.Attribute (.Name x xp) g ap) (some (.Attribute (.Name s sp) f pos')) pos.line X.env = pure false := by rfl) :
    PuK cm X n (.Assign [.Attribute (.Name s sp) f pos'] (.Attribute (.Name x xp) g ap) pos) (kFld f i m g) := by
  refine ⟨_, ps_fld (pe_var hs0 hv0 hd0 hcd0) (pe_fld (pe_var hi hv hd hcd) hb) hs, fun R a dx σ H ds fs ws fs' E h hg hE => ?_⟩
  unfold kFld at hg
  cases e1 : ds[i]? with
  | none => rw [e1] at hg; cases hg
  | some d =>
    rw [e1] at hg
    simp only [Option.bind_some] at hg
    cases e2 : fldD m g d with
    | none => rw [e2] at hg; cases hg
    | some c =>
      rw [e2] at hg
      simp only [Option.bind_some] at hg
      split at hg
      · rename_i hl
        cases hg
        have hd : ∃ ss, d = .ins m ss ∧ getF ss g = some c := by
          cases d with
          | ins k ss =>
            simp only [fldD] at e2
            split at e2
            · rename_i q; subst q; exact ⟨ss, rfl, e2⟩
            · cases e2
          | _ => simp [fldD] at e2
        obtain ⟨ss, rfl, hg2⟩ := hd
        obtain ⟨us, k1, k2⟩ := h.args
        obtain ⟨v, e3, b, dy, ys, rfl, j1, j2⟩ := k1.get e1
        obtain ⟨v, l1, l2⟩ := j2.some hg2
        refine ⟨.ref b, k2 i _ e3, b, cm m, dy, ys, v, rfl, h.keep _ _ j1, hcm, hnm, l1, .ref a, h.self, a, cm n, dx, ws, rfl, h.at_, hc, hn, by rw [h.flds.length]; exact hl, ?_⟩
        exact hE _ (h.put l2)
      · cases hg
theorem puks_one {st : Stmt} {g : KF} (h : PuK cm X n st g) : PuKs cm X n [st] g := by
  obtain ⟨t, p, q⟩ := h
  exact ⟨t, pss_one p, q⟩
theorem puks_cons {st : Stmt} {sts : List Stmt} {g h : KF} (hs : PuK cm X n st g) (hb : PuKs cm X n sts h) : PuKs cm X n (st :: sts) (kSeq g h) := by
  obtain ⟨t, p, q⟩ := hs
  obtain ⟨u, p2, q2⟩ := hb
  refine ⟨_, pss_cons p p2, fun R a dx σ H ds fs ws fs' E h0 hg hE => ?_⟩
  unfold kSeq at hg
  cases e1 : g ds fs with
  | none => rw [e1] at hg; cases hg
  | some f1 =>
    rw [e1] at hg
    refine q R a dx σ H ds fs ws f1 _ h0 e1 fun ws' h1 => ?_
    refine q2 R a dx σ _ ds f1 ws' fs' E h1 hg fun ws2 h2 => ?_
    rw [upd_upd] at h2 ⊢
    exact hE ws2 h2
end
theorem start_at {N : List Str} {vs : List V} {i : Nat} {v : V} (h : vs[i]? = some v) : (L2.start N vs)[i]? = some (some v) := by
  unfold L2.start
  have := (List.getElem?_eq_some_iff.mp h).1
  rw [List.getElem?_append_left (by simpa using this), List.getElem?_map, h]; rfl
/-- __init__ of such a class: f of the arguments gives the fields -/
def spI (K : PySem.W.Frag) (cm : Nat → Addr) (w : World) (n : Nat) (f : List D → Option (List (Str × D))) : L2.Sp := fun vs H Q _ => ∃ a dx us R ds fs, vs = .ref a :: us ∧ H a = some (.ins (cm n) dx []) ∧ Same R H ∧ R a = none ∧ Iss ⟨K, cm, w⟩ R ds us ∧ f ds = some fs ∧
  ∀ ws, IsF ⟨K, cm, w⟩ R fs ws → Q .non (upd H a (.ins (cm n) dx ws))
def fnI (k : Nat) (g : KF) : List D → Option (List (Str × D)) := fun ds => if ds.length + 1 = k then g ds [] else none
theorem fn_init {P : Program} {w : World} {K : PySem.W.Frag} {mg : Str → Option Value} {base : Heap} {cm : Nat → Addr} {x qual : Str} {st : Stmt} {f : Addr} {fd : FuncData} {N ps : List Str} {k n : Nat} {g : KF} (F : Fun K x qual st f fd) (S : FnScope N ps (defScope st)) (hN : ps.length ≤ N.length)
    (hb : ∀ (cdv : Value) (A : Around) (outer : List Env) (s : Shared) (H : Hp) (E : XK), Room k (A.deeper (PyProof.Rows.envOfC qual (defScope st) s.heap.objs.size f cdv)) → PuKs cm (cxOf CX0 P w K mg base N qual (defScope st) f cdv A outer s H E).nox n (defBody st) g) :
    FnOk P w K mg base CX0 (k + 1) f fd ps (spI K cm w n (fnI ps.length g)) := by
  refine F.ok S (fun vs H Q E h => ?_) (fun cdv A outer s H vs Q E hr h => ?_)
  · obtain ⟨a, dx, us, R, ds, fs, rfl, _, _, _, h5, h6, _⟩ := h
    unfold fnI at h6
    split at h6
    · rename_i e
      rw [List.length_cons, h5.length, e]
    · cases h6
  · obtain ⟨a, dx, us, R, ds, fs, rfl, h2, h3, h4, h5, h6, h7⟩ := h
    unfold fnI at h6
    split at h6
    · rename_i e
      obtain ⟨t, p, q⟩ := hb cdv A outer s H E hr
      refine ⟨t, p, q R a dx _ _ ds [] [] fs _ ⟨?_, ⟨us, h5, fun i u hu => ?_⟩, h2, h3, h4, rfl⟩ h6 fun ws hw => h7 ws hw.flds⟩
      · exact start_at (N := N) (i := 0) rfl
      · exact start_at (N := N) (i := i + 1) (by simpa using hu)
    · cases h6
structure MakI (P : Program) (w : World) (K : PySem.W.Frag) (mg : Str → Option Value) (base : Heap) (cm : Nat → Addr) (k : Nat) (n : Nat) (x : Str) (f : List D → Option (List (Str × D))) : Prop where
  at_ : ∃ (fa : Addr) (fd : FuncData) (ps : List Str), FnOk P w K mg base CX0 k fa fd ps (spI K cm w n f) ∧ Mk K (cm n) fa ∧ Binds K fd ps []
  mg : mg x = some (.ref (cm n))
def eMakeI (n : Nat) (f : List D → Option (List (Str × D))) (g : AF) : EF := fun ρ => (g ρ).bind fun as => if okNew as = true then (f (as.map (·.1))).map fun fs => (.ins n fs, .new) else none
section
variable {cm : Nat → Addr} {X : Cx} {pos : Pos}
theorem pu_makeI {k j n : Nat} {x : Str} {e : Expr} {es : List Expr} {f : List D → Option (List (Str × D))} {g : AF} {p : Pos} (C : MakI X.prog X.w X.K X.mg X.base cm k n x f) (hr : Room j X.A) (hk : k + 1 ≤ j) (ha : PuA cm X (e :: es) g) (hg : Gl X x := by rfl)
    (hdb : (x == ("__debug__" : Str)) = false := by decide) (he : starEach (e :: es) X.env = (false, eval e X.env) :: starEach es X.env := by rfl) (hpl : (backTo pos (starEach es X.env)).any (·.1) = false := by rfl) :
    PuE cm X (.Call (.Name x p) (e :: es) [] pos) (eMakeI n f g) := by
  obtain ⟨⟨fa, fd, ps, F, M, hb⟩, hmg⟩ := C
  obtain ⟨t, pa, qa⟩ := ha
  refine ⟨_, pe_make M F (hr.mono hk) hg hmg hb .nil pass0 pa hdb he hpl, fun z B Fp ρ σ H d m Q ok hf hQ => ?_⟩
  unfold eMakeI at hf
  cases e1 : g ρ with
  | none => rw [e1] at hf; cases hf
  | some as =>
    rw [e1] at hf
    simp only [Option.bind_some] at hf
    split at hf
    · rename_i hnew
      cases e2 : f (as.map (·.1)) with
      | none => rw [e2] at hf; cases hf
      | some fs =>
        rw [e2] at hf
        cases hf
        refine qa z B Fp ρ σ H as _ ok e1 fun vs B1 H1 g1 ok1 hvs => ?_
        intro a dx ha hdx hne
        rw [List.append_nil]
        have hdx1 : upd H1 dx (.own a) a = none := by rw [upd_ne (Ne.symm hne)]; exact ha
        have s1 : Same H1 (upd H1 dx (.own a)) := same_upd hdx
        have s2 : Same (upd H1 dx (.own a)) (upd (upd H1 dx (.own a)) a (.ins (cm n) dx [])) := same_upd hdx1
        have hB1 : Iss (gx X cm) B1 (as.map (·.1)) vs := paired_issNew ok1 hnew hvs
        have hBa : B1 a = none := Same.free ok1.bh ha
        refine ⟨a, dx, vs, B1, as.map (·.1), fs, rfl, upd_same, (ok1.bh.trans s1).trans s2, hBa, hB1, e2, fun ws hw => ⟨rfl, ?_⟩⟩
        rw [upd_upd]
        have s3 : Same H1 (upd (upd H1 dx (.own a)) a (.ins (cm n) dx ws)) := s1.trans (same_upd hdx1)
        let H' : Hp := upd (upd H1 dx (.own a)) a (.ins (cm n) dx ws)
        let R2 : Hp := fun b => if b = a then some (.ins (cm n) dx ws) else none
        have hR2 : Same R2 H' := fun b u e => by
          by_cases q : b = a
          · have e1 : R2 b = some (HO.ins (cm n) dx ws) := if_pos q
            rw [e1] at e
            cases e
            rw [q]
            exact upd_same
          · have e1 : R2 b = none := if_neg q
            rw [e1] at e
            cases e
        have t : Same (tupOf H') H' := tupOf_same
        have b : Same B1 H' := ok1.bh.trans s3
        have bb : Same B1 (jn (tupOf H') B1 R2) := fun c u z => jn_at t b hR2 (.inr (.inl z))
        have nw : ∀ c u, jn (tupOf H') B1 R2 c = some u → (∃ xs, u = .tup xs) ∨ B1 c = some u ∨ H1 c = none := fun c u z => by
          rcases jn_cases z with z | z | z
          · exact .inl (tupOf_some z).2
          · exact .inr (.inl z)
          · have z : (if c = a then some (HO.ins (cm n) dx ws) else none) = some u := z
            split at z
            · rename_i q; subst q; exact .inr (.inr ha)
            · cases z
        have ok2 := ok1.grow s3 bb (fun c u z => by
          rcases jn_cases z with z | z | z
          · exact t c u z
          · exact b c u z
          · exact hR2 c u z) (fun c xs z => jn_at t b hR2 (.inl (tupOf_tup z))) nw
        refine hQ (.ref a) _ H' (g1.trans ⟨s3, bb, nw⟩) ok2 ?_
        exact ⟨a, dx, ws, rfl, jn_at t b hR2 (.inr (.inr (if_pos rfl))), hw.mono bb⟩
    · cases hf
end
end DL

/-! DL36: the new words reckoned with. -/
namespace DL
open PySem L2
section
variable {P : Program} {w : World} {K : PySem.W.Frag} {mg : Str → Option Value} {base : Heap} {cm : Nat → Addr} {n k : Nat} {qual : Str} {st : Stmt} {ps : List Str}
theorem MetAt.makI {x : Str} {fn : List D → Option (List (Str × D))} (z : MetAt K (cm n) "__init__" qual st ps) (c : FactC K (cm n)) (hx : mg x = some (.ref (cm n))) (h : ∀ {f : Addr} {fd : FuncData}, Fun K "__init__" qual st f fd → FnOk P w K mg base CX0 k f fd ps (spI K cm w n fn)) : MakI P w K mg base cm k n x fn := by
  obtain ⟨f, fd, F, hm, hb⟩ := z
  exact ⟨⟨f, fd, ps, h F, ⟨c.mks, hm.at_, hm.fn, c.kc⟩, hb⟩, hx⟩
end
theorem wp_froz {i : Nat} {g : SF} {ρ : Ev} {d : D} {Φ : Fl → Prop} (h : ρ[i]? = some (.on d)) (h2 : Wp g (ρ.set i (.fn d)) Φ) : Wp (bFroz i g) ρ Φ := by
  obtain ⟨r, h3, h4⟩ := h2
  exact ⟨r, by unfold bFroz froz; rw [h]; exact h3, h4⟩
theorem wp_ol {i : Nat} {g : SF} {ρ : Ev} {Φ : Fl → Prop} (h : ρ[i]? = some (.on (.lst []))) (h2 : Wp g (ρ.set i (.ol [])) Φ) : Wp (bOl i g) ρ Φ := by
  obtain ⟨r, h3, h4⟩ := h2
  exact ⟨r, by unfold bOl olize; rw [h]; exact h3, h4⟩
theorem se_exE {f : EF} {ρ : Ev} {d : D} (h : Vf f ρ d) : Se (sExE f) ρ (.nx ρ) := by
  obtain ⟨m, h⟩ := h
  unfold Ve at h; unfold Se sExE; rw [h]; rfl
theorem se_appO {i : Nat} {f : EF} {ρ : Ev} {ds : List D} {y : D} (h : ρ[i]? = some (.ol ds)) (hy : Ve f ρ y .new) (hl : ds.length < 16777216) : Se (sAppO i f) ρ (.nx (ρ.set i (.ol (ds ++ [y])))) := by
  unfold Ve at hy; unfold Se sAppO; rw [h]
  simp only [hy, Option.bind_some]
  rw [if_pos ⟨by simp [isNew], hl⟩]
theorem se_slA {i : Nat} {fl fh : EF} {f : NF} {ρ : Ev} {es ds : List D} {a c : Int} (hy : Ne f ρ (.lst es)) (ha : Vf fl ρ (.int a)) (hc : Vf fh ρ (.int c)) (h : ρ[i]? = some (.on (.lst ds))) (h1 : 0 ≤ a) (h2 : a ≤ c) (h3 : a ≤ ds.length) (h4 : ds.length + es.length ≤ 16777216) (h5 : flats ds = true) (h6 : flats es = true) :
    Se (sSlA i fl fh f) ρ (.nx (ρ.set i (.on (.lst (ds.take a.toNat ++ es ++ ds.drop c.toNat))))) := by
  obtain ⟨m1, ha⟩ := ha
  obtain ⟨m2, hc⟩ := hc
  unfold Ne at hy; unfold Ve at ha hc; unfold Se sSlA
  rw [hy]
  simp only [Option.bind_some, ha, hc, h]
  rw [if_pos ⟨h1, h2, h3, h4, h5, h6⟩]
theorem vf_ol {i : Nat} {ρ : Ev} {ds : List D} (h : ρ[i]? = some (.ol ds)) : Vf (eV i) ρ (.lst ds) := ⟨.own, by unfold Ve eV; rw [h]⟩
theorem ne_callF {f : List D → Option D} {g : AF} {ρ : Ev} {as es : List D} (h1 : Af g ρ as) (h : f as = some (.lst es)) (h2 : flats es = true) : Ne (nCallF f g) ρ (.lst es) := by
  obtain ⟨as', h1, rfl⟩ := h1
  unfold Ae at h1; unfold Ne nCallF
  rw [h1]
  simp only [Option.bind_some, h, h2, if_true]
theorem vn_makeI {n : Nat} {f : List D → Option (List (Str × D))} {g : AF} {ρ : Ev} {as : List (D × Md)} {fs : List (Str × D)} (h1 : Ae g ρ as) (h2 : okNew as = true) (h : f (as.map (·.1)) = some fs) : Ve (eMakeI n f g) ρ (.ins n fs) .new := by
  unfold Ae at h1; unfold Ve eMakeI
  rw [h1]
  simp only [Option.bind_some, h2, if_true, h, Option.map_some]
theorem vf_ch_f {p q : Int → Int → Bool} {f g h : EF} {ρ : Ev} {i j : Int} (h1 : Vf f ρ (.int i)) (h2 : Vf g ρ (.int j)) (hp : p i j = false) : Vf (eCh p q f g h) ρ (.bl false) := by
  obtain ⟨m1, h1⟩ := h1
  obtain ⟨m2, h2⟩ := h2
  refine ⟨.new, ?_⟩
  unfold Ve at *; unfold eCh
  rw [h1, h2]
  simp [hp]
theorem vf_ch_t {p q : Int → Int → Bool} {f g h : EF} {ρ : Ev} {i j k : Int} (h1 : Vf f ρ (.int i)) (h2 : Vf g ρ (.int j)) (h3 : Vf h ρ (.int k)) (hp : p i j = true) : Vf (eCh p q f g h) ρ (.bl (q j k)) := by
  obtain ⟨m1, h1⟩ := h1
  obtain ⟨m2, h2⟩ := h2
  obtain ⟨m3, h3⟩ := h3
  refine ⟨.new, ?_⟩
  unfold Ve at *; unfold eCh
  rw [h1, h2]
  simp [hp, h3]
theorem xe_zip {f g : EF} {ρ : Ev} {ds es : List D} (h1 : Ve f ρ (.lst ds) .new) (h2 : Ve g ρ (.lst es) .new) (f1 : flats ds = true) (f2 : flats es = true) : Xe (iZ f g) ρ (zipL ds es) .new := by
  unfold Xe Ve at *
  unfold iZ
  rw [h1, h2]
  simp [f1, f2, mmin]
theorem xe_zipT {f g : EF} {ρ : Ev} {xs : List Str} {es : List D} (h1 : Ve f ρ (.wtp xs) .new) (h2 : Ve g ρ (.tup es) .new) (f2 : flats es = true) : Xe (iZT f g) ρ (zipL (xs.map .str) es) .new := by
  unfold Xe Ve at *
  unfold iZT
  rw [h1, h2]
  simp [f2]
theorem zip_map {α β : Type} (f : α → D) (g : β → D) : ∀ (l : List α) (m : List β), zipL (l.map f) (m.map g) = (l.zip m).map fun q => .tup [f q.1, g q.2]
  | [], _ => by simp [zipL]
  | _ :: _, [] => by simp [zipL]
  | a :: l, b :: m => by simp [zipL, zip_map f g l m]
section
variable {cm : Nat → Addr} {X : Cx}
theorem pu_globI {x : Str} {i : Int} {pos : Pos} (h : ∃ t, X.mg x = some (.int i t)) (hg : Gl X x := by rfl) (hd : (x == ("__debug__" : Str)) = false := by decide) : PuE cm X (.Name x pos) (eC (.int i)) := by
  obtain ⟨t, h⟩ := h
  exact pu_glob (v := .int i) hg h ⟨t, rfl⟩ rfl hd
theorem pu_globS {x y : Str} {pos : Pos} (h : ∃ t, X.mg x = some (.str y t)) (hg : Gl X x := by rfl) (hd : (x == ("__debug__" : Str)) = false := by decide) : PuE cm X (.Name x pos) (eC (.str y)) := by
  obtain ⟨t, h⟩ := h
  exact pu_glob (v := .str y) hg h ⟨t, rfl⟩ rfl hd
end
theorem se_augI {i : Nat} {f : EF} {ρ : Ev} {a b c : Int} (h : ρ[i]? = some (.fn (.int a))) (hf : Vf f ρ (.int b)) (hc : a + b = c) : Se (sAug i augAdd f) ρ (.nx (ρ.set i (.fn (.int c)))) := by
  obtain ⟨m, hf⟩ := hf
  subst hc
  unfold Ve at hf; unfold Se sAug eV
  rw [h]
  simp only [Option.bind_some, hf, augAdd, setS, h]
  rfl
end DL

/-! DL37: comprehensions over enumerate(..) of a list whose items are not flat. -/
namespace DL
open PySem L2
def jn2 (R T : Hp) : Hp := fun a => match R a with
  | some o => some o
  | none => T a
theorem jn2_l {R T : Hp} : Same R (jn2 R T) := fun a o h => by unfold jn2; rw [h]
theorem jn2_r {R T : Hp} {a : Addr} (h : R a = none) : jn2 R T a = T a := by unfold jn2; rw [h]
theorem jn2_to {R T H : Hp} (h1 : Same R H) (h2 : Same T H) : Same (jn2 R T) H := fun a o h => by
  unfold jn2 at h
  split at h
  · rename_i u e; cases h; exact h1 a _ e
  · exact h2 a o h
structure Src2 (Γ : Ga) (Rg : Hp) (ds : List D) (J : It) : Prop where
  go : ∀ (i : Nat) (H : Hp) (d : D), Same Rg H → ds[i]? = some d → J.go i H
  yld : ∀ (i : Nat) (H : Hp) (d : D) (v : V) (H' : Hp), Same Rg H → ds[i]? = some d → J.yld i H v H' → Same H H' ∧ (∀ a u, H' a = some u → H a = some u ∨ ∃ xs, u = .tup xs) ∧ Is Γ (jn2 Rg (tupOf H')) d v
  stop : ∀ (i : Nat) (H : Hp), Same Rg H → ds.length ≤ i → J.stop i H
def PuI2 (cm : Nat → Addr) (X : Cx) (tg iter : Expr) (f : IF) : Prop :=
  ∃ wi, PI X tg iter wi ∧ ∀ (x : Fx) (B : Hp) (F : Nat → List Addr) (ρ : Ev) (σ : St) (H : Hp) (ds : List D) (m : Md) (R : It → Hp → Prop), Ok (gx X cm) x B F ρ σ H → f ρ = some (ds, m) →
    (∀ J B' H', Gr B H B' H' → Ok (gx X cm) x B' F ρ σ H' → Src2 (gx X cm) (rgOf x m B' H') ds J → R J H') → wi σ H R
section
variable {Γ : Ga} {x x2 : Fx} {B B' : Hp} {F F2 : Nat → List Addr} {ρ ρ2 : Ev} {σ σ2 : St} {H H' : Hp}
theorem Ok.to2 (o : Ok Γ x B F ρ σ H) (g : Gr B H B' H') (o2 : Ok Γ x2 B' F2 ρ2 σ2 H') : Ok Γ x B' F ρ σ H' := o.grow g.hh g.bb o2.bh o2.tup g.new
/-- the tuples are kept, too -/
theorem Ok.tupK (o : Ok Γ x B F ρ σ H) : Ok Γ { x with Kp := jn2 x.Kp (tupOf H) } B F ρ σ H where
  kp := jn2_to o.kp tupOf_same
  bh := o.bh
  tup := o.tup
  born := o.born
  bk := fun a u e => by
    rcases o.bk a u e with h | h
    · exact .inl h
    · by_cases q : ∃ xs, u = .tup xs
      · exact .inl q
      · right
        show jn2 x.Kp (tupOf H) a = none
        rw [jn2_r h]
        cases z : tupOf H a with
        | none => rfl
        | some w =>
          obtain ⟨e1, xs, rfl⟩ := tupOf_some z
          rw [o.bh a u e] at e1
          cases e1
          exact absurd ⟨xs, rfl⟩ q
  dom := o.dom
  fk := fun i a h => by
    obtain ⟨h1, h2, h3⟩ := o.fk i a h
    obtain ⟨u, hu, bx⟩ := o.box h
    refine ⟨?_, h2, h3⟩
    show jn2 x.Kp (tupOf H) a = none
    rw [jn2_r h1]
    cases z : tupOf H a with
    | none => rfl
    | some w =>
      obtain ⟨e1, xs, rfl⟩ := tupOf_some z
      rw [hu] at e1
      cases e1
      exact bx.elim
  dj := o.dj
  nd := o.nd
  out := o.out
  len := o.len
  at_ := fun i s h => by
    have q := o.at_ i s h
    cases s with
    | fz => obtain ⟨q1, v, q2, q3, q4⟩ := q; exact ⟨q1, v, q2, q3.mono jn2_l, q4⟩
    | fa => obtain ⟨q1, v, q2, q3⟩ := q; exact ⟨q1, v, q2, q3.mono jn2_l⟩
    | _ => exact q
theorem Src2.item2 {ds : List D} {J : It} {m : Md} {B0 H0 : Hp} (S : Src2 Γ (rgOf x m B0 H0) ds J) (o : Ok Γ x B F ρ σ H) (g : Gr B0 H0 B H) {i : Nat} {d : D} {v : V} {H' : Hp} (e : ds[i]? = some d) (y : J.yld i H v H') :
    ∃ x3 B', Gr B H B' H' ∧ Ok Γ x3 B' F ρ σ H' ∧ Val Γ x3 (effm m d) B' H' d v := by
  have s : Same (rgOf x m B0 H0) H := by
    cases m with
    | own => exact g.hh
    | par => exact o.kp
    | new => exact g.bb.trans o.bh
  obtain ⟨hs, hn, hi⟩ := S.yld i H d v H' s e y
  have t : Same (tupOf H') H' := tupOf_same
  have b : Same B H' := o.bh.trans hs
  have nw : ∀ a u, jn (tupOf H') B B a = some u → (∃ xs, u = .tup xs) ∨ B a = some u ∨ H a = none := fun a u z => by
    rcases jn_cases z with z | z | z
    · exact .inl (tupOf_some z).2
    · exact .inr (.inl z)
    · exact .inr (.inl z)
  have bb : Same B (jn (tupOf H') B B) := fun a u z => jn_at t b b (.inr (.inl z))
  have o' : Ok Γ x (jn (tupOf H') B B) F ρ σ H' := o.grow hs bb (fun a u z => by
    rcases jn_cases z with z | z | z
    · exact t a u z
    · exact b a u z
    · exact b a u z) (fun a xs z => jn_at t b b (.inl (tupOf_tup z))) nw
  cases m with
  | own => exact ⟨x, _, ⟨hs, bb, nw⟩, o', Val.eff o' (show Is Γ H' d v from hi.mono (jn2_to (g.hh.trans hs) t))⟩
  | par => exact ⟨_, _, ⟨hs, bb, nw⟩, o'.tupK, Val.eff o'.tupK (show Is Γ (jn2 x.Kp (tupOf H')) d v from hi)⟩
  | new => exact ⟨x, _, ⟨hs, bb, nw⟩, o', Val.eff o' (show Is Γ (jn (tupOf H') B B) d v from hi.mono (jn2_to (g.bb.trans bb) fun a u z => jn_at t b b (.inl z)))⟩
theorem Src2.same {ds : List D} {J : It} {m : Md} {B0 H0 : Hp} (o : Ok Γ x B F ρ σ H) (g : Gr B0 H0 B H) : Same (rgOf x m B0 H0) H := by
  cases m with
  | own => exact g.hh
  | par => exact o.kp
  | new => exact g.bb.trans o.bh
end
def iEnX (f : EF) : IF := fun ρ => (f ρ).bind fun a => match a.1 with
  | .lst ds => some (enumL 0 ds, a.2)
  | _ => none
theorem src2_enum {Γ : Ga} {Rg : Hp} {a : Addr} {vs : List V} {ds : List D} (h1 : Rg a = some (.lst vs)) (h2 : Iss Γ Rg ds vs) : Src2 Γ Rg (enumL 0 ds) (Ite Γ.K a) where
  go := fun i H d s e => by
    rw [enumL_get] at e
    cases q : ds[i]? with
    | none => rw [q] at e; cases e
    | some d0 =>
      obtain ⟨v, e1, _⟩ := h2.get q
      exact ⟨vs, v, SqL.of (s _ _ h1), e1⟩
  yld := fun i H d v H' s e y => by
    rw [enumL_get] at e
    cases q : ds[i]? with
    | none => rw [q] at e; cases e
    | some d0 =>
      rw [q] at e
      cases e
      obtain ⟨w, e1, e2⟩ := h2.get q
      obtain ⟨T, z, rfl, hT, rfl, hz⟩ := y
      have z1 := hz vs (SqL.of (s _ _ h1))
      rw [e1] at z1
      cases z1
      refine ⟨same_upd hT, fun b u h => ?_, T, [.int ((i : Nat) : Int), w], rfl, ?_, ⟨_, _, rfl, by rw [Nat.zero_add]; rfl, w, [], rfl, e2.mono jn2_l, rfl⟩⟩
      · by_cases q : b = T
        · subst q; rw [upd_same] at h; cases h; exact .inr ⟨_, rfl⟩
        · rw [upd_ne q] at h; exact .inl h
      · rw [jn2_r (Same.free s hT)]
        exact tupOf_tup upd_same
  stop := fun i H s hl => ⟨vs, SqL.of (s _ _ h1), by rw [h2.length]; rw [enumL_length] at hl; exact hl⟩
section
variable {cm : Nat → Addr} {X : Cx} {pos : Pos}
theorem pui2_enum {e : Expr} {fe : EF} {p tpos : Pos} {elts : List Expr} {kk : Nat} (hm : X.mg "enumerate" = none) (he : PuE cm X e fe) (hg : Gl X "enumerate" := by rfl) (hs : starEach [e] X.env = [(false, eval e X.env)] := by rfl) (hs2 : starEach [e] X.env = (false, eval e X.env) :: starEach [] X.env := by rfl) :
    PuI2 cm X (.Tuple elts kk tpos) (.Call (.Name "enumerate" p) [e] [] pos) (iEnX fe) := by
  obtain ⟨t, pe, q⟩ := he
  refine ⟨_, pi_enum hg hm (pa_cons pe pa_nil hs2) hs, fun x B F ρ σ H ds m R ok hf hR => ?_⟩
  unfold iEnX at hf
  cases ea : fe ρ with
  | none => rw [ea] at hf; cases hf
  | some a =>
    rw [ea] at hf
    obtain ⟨a, ma⟩ := a
    cases a with
    | lst es =>
      simp only [Option.bind_some] at hf
      cases hf
      refine q x B F ρ σ H _ m _ ok ea fun v B' H' g ok' hv => ?_
      obtain ⟨a, vs, rfl, h1, h2⟩ := rg_is hv
      obtain ⟨a', vs', ea', k1, k2⟩ := hv.is ok'
      cases ea'
      exact ⟨a, vs', rfl, SqL.of k1, hR _ B' H' g ok' (src2_enum h1 h2)⟩
    | _ => simp at hf
end
section
variable {cm : Nat → Addr} {X : Cx} {pos : Pos} {elt tg iter : Expr} {ifs : List Expr} {scope : Scope} {own : List (Str × Nat)} {js : List Nat} {f : IF} {g : GF} {t : Ev → Option Bool} {e : EF}
theorem lc_hid2 {wi : TI} (q : ∀ (x : Fx) (B : Hp) (F : Nat → List Addr) (ρ : Ev) (σ : St) (H : Hp) (ds : List D) (m : Md) (R : It → Hp → Prop), Ok (gx X cm) x B F ρ σ H → f ρ = some (ds, m) →
      (∀ J B' H', Gr B H B' H' → Ok (gx X cm) x B' F ρ σ H' → Src2 (gx X cm) (rgOf x m B' H') ds J → R J H') → wi σ H R) (hjs : ∀ j ∈ js, j ∈ own.map (·.2))
    (x : Fx) (B : Hp) (F : Nat → List Addr) (ρ : Ev) (σ : St) (H : Hp) (d : D) (m0 : Md) (Q : VK) (ok : Ok (gx X cm) x B F ρ σ H) (hf : eLc f (own.map (·.2)) g t e ρ = some (d, m0))
    (hQ : ∀ p B' H' ys vs, Gr B H B' H' → Ok (gx X cm) x B' F ρ σ H' → d = .lst ys → m0 = .new → H p = none → B' p = none → H' p = some (.lst vs) → Iss (gx X cm) B' ys vs → Q (.ref p) H') : tLc wi (tGu (gx X cm) js g) (tPt (gx X cm) t) (tPu (gx X cm) e) (own.map (·.2)) σ H Q := by
  unfold eLc at hf
  cases ea : f ρ with
  | none => rw [ea] at hf; cases hf
  | some s =>
    rw [ea] at hf
    obtain ⟨ds, m⟩ := s
    simp only [Option.bind_some] at hf
    split at hf
    · rename_i hlen
      cases eys : lcGo g t e m (wipeE ρ (own.map (·.2))) ds with
      | none => rw [eys] at hf; cases hf
      | some ys =>
        rw [eys] at hf
        cases hf
        refine q x B F ρ σ H ds m _ ok ea fun J B1 H1 g1 ok1 S => ?_
        intro Dd hD
        have kD : x.Kp Dd = none := Same.free ok1.kp hD
        have fD : ∀ i, Dd ∉ F i := fun i hi => by
          obtain ⟨u, hu, _⟩ := ok1.box hi
          rw [hD] at hu
          cases hu
        have bD : B1 Dd = none := Same.free ok1.bh hD
        refine ⟨fun i mm H => mm = ds.length - i ∧ i ≤ ds.length ∧ ∃ B accV accD rest, H Dd = some (.lst accV) ∧ Iss (gx X cm) B accD accV ∧ accV.length ≤ i ∧ B Dd = none ∧ Ok (gx X cm) x B F ρ σ H ∧ Gr B1 H1 B H ∧
            lcGo g t e m (wipeE ρ (own.map (·.2))) (ds.drop i) = some rest ∧ accD ++ rest = ys, ?_, ?_⟩
        · have sm : Same H1 (upd H1 Dd (.lst [])) := same_upd hD
          have gg : Gr B1 H1 B1 (upd H1 Dd (.lst [])) := ⟨sm, Same.refl _, fun a u h => .inr (.inl h)⟩
          have ok2 : Ok (gx X cm) x B1 F ρ σ (upd H1 Dd (.lst [])) := ok1.grow sm (Same.refl _) (ok1.bh.trans sm) (fun a xs h => by
            by_cases z : a = Dd
            · subst z; rw [upd_same] at h; cases h
            · rw [upd_ne z] at h; exact ok1.tup a xs h) fun a u h => .inr (.inl h)
          exact ⟨ds.length, by simp, Nat.zero_le _, B1, [], [], ys, upd_same, rfl, Nat.le_refl _, bD, ok2, gg, by simpa using eys, rfl⟩
        · rintro i mm H2 ⟨rfl, hi, B2, accV, accD, rest, hacc, iacc, lacc, b2D, ok2, g2, erest, eacc⟩
          by_cases hlt : i < ds.length
          · have ed : ds[i]? = some ds[i] := List.getElem?_eq_getElem hlt
            rw [List.drop_eq_getElem_cons hlt] at erest
            obtain ⟨ρ1, k, h1, h2, h3⟩ := lcGo_cons erest
            refine .inr ⟨S.go i H2 _ (Src2.same (ds := ds) (J := J) ok2 g2) ed, fun H' => (i + 1 ≤ ds.length ∧ ∃ B accV accD rest, H' Dd = some (.lst accV) ∧ Iss (gx X cm) B accD accV ∧ accV.length ≤ i + 1 ∧ B Dd = none ∧ Ok (gx X cm) x B F ρ σ H' ∧ Gr B1 H1 B H' ∧
              lcGo g t e m (wipeE ρ (own.map (·.2))) (ds.drop (i + 1)) = some rest ∧ accD ++ rest = ys), fun H' h => ⟨ds.length - (i + 1), by omega, rfl, h⟩, fun v H3 y => ?_⟩
            obtain ⟨x3, B3, g3, ok3, hv⟩ := S.item2 ok2 g2 ed y
            obtain ⟨F', okb⟩ := ok3.wipe (own.map (·.2))
            refine ⟨x3, B3, F', _, ρ1, _, _, okb, hv, h1, fun F4 σ4 ok4 hs hl => ⟨?_, ?_⟩⟩
            · exact (wipe_eq (τ := L2.wipe σ (own.map (·.2))) hl fun j hj => hs j fun z => hj (hjs j z)).trans wipe_wipe
            · refine ⟨x3, B3, F4, ρ1, k, ok4, h2, fun B5 H5 g5 ok5 => ?_⟩
              have g25 : Gr B2 H2 B5 H5 := g3.trans g5
              rcases h3 with ⟨rfl, y1, m1, zs, h4, h5, h6, rfl⟩ | ⟨rfl, h6⟩
              · refine iteT ⟨x3, B5, F4, ρ1, y1, m1, ok5, h4, fun w B6 H6 g6 ok6 hw => ?_⟩
                have g26 : Gr B2 H2 B6 H6 := g25.trans g6
                have o6 : Ok (gx X cm) x B6 F ρ σ H6 := ok2.to2 g26 ok6
                have b6 : B6 Dd = none := hid_none ok6.bh g26 b2D hacc
                refine ⟨accV, g26.hh _ _ hacc, by rw [line_eq]; omega, hlt, B6, accV ++ [w], accD ++ [y1], zs, upd_same, (iacc.mono g26.bb).snoc (Val.new ok6 h5 hw), by rw [List.length_append, List.length_singleton]; omega, b6, o6.hid b6 kD fD (g26.hh _ _ hacc), ?_, h6, by rw [← eacc]; simp⟩
                have gg := g2.trans g26
                exact ⟨fun a u h => by rw [upd_ne (fun z => by rw [z, hD] at h; cases h)]; exact gg.hh a u h, gg.bb, gg.new⟩
              · exact iteF ⟨hlt, B5, accV, accD, rest, g25.hh _ _ hacc, iacc.mono g25.bb, by omega, hid_none ok5.bh g25 b2D hacc, ok2.to2 g25 ok5, g2.trans g25, h6, eacc⟩
          · have ei : i = ds.length := by omega
            subst ei
            rw [List.drop_length] at erest
            cases erest
            rw [List.append_nil] at eacc
            subst eacc
            refine .inl ⟨S.stop _ H2 (Src2.same (ds := ds) (J := J) ok2 g2) (Nat.le_refl _), ?_⟩
            exact hQ Dd B2 H2 _ accV (g1.trans g2) ok2 rfl rfl (g1.hh.free hD) b2D hacc iacc
    · cases hf
theorem lc_reads2 {wi : TI} (q : ∀ (x : Fx) (B : Hp) (F : Nat → List Addr) (ρ : Ev) (σ : St) (H : Hp) (ds : List D) (m : Md) (R : It → Hp → Prop), Ok (gx X cm) x B F ρ σ H → f ρ = some (ds, m) →
      (∀ J B' H', Gr B H B' H' → Ok (gx X cm) x B' F ρ σ H' → Src2 (gx X cm) (rgOf x m B' H') ds J → R J H') → wi σ H R) (hjs : ∀ j ∈ js, j ∈ own.map (·.2))
    (x : Fx) (B : Hp) (F : Nat → List Addr) (ρ : Ev) (σ : St) (H : Hp) (d : D) (m0 : Md) (Q : VK) (ok : Ok (gx X cm) x B F ρ σ H) (hf : eLc f (own.map (·.2)) g t e ρ = some (d, m0))
    (hQ : ∀ v B' H', Gr B H B' H' → Ok (gx X cm) x B' F ρ σ H' → Val (gx X cm) x m0 B' H' d v → Q v H') : tLc wi (tGu (gx X cm) js g) (tPt (gx X cm) t) (tPu (gx X cm) e) (own.map (·.2)) σ H Q := by
  refine lc_hid2 q hjs x B F ρ σ H d m0 Q ok hf fun Dd B2 H2 ys accV g2 ok2 ed em hD b2D hacc iacc => ?_
  subst ed em
  have nb : Same B2 (upd B2 Dd (.lst accV)) := same_upd b2D
  have bh2 : Same (upd B2 Dd (.lst accV)) H2 := fun a u h => by
    by_cases z : a = Dd
    · subst z; rw [upd_same] at h; cases h; exact hacc
    · rw [upd_ne z] at h; exact ok2.bh a u h
  have nw : ∀ a u, (upd B2 Dd (.lst accV)) a = some u → (∃ xs, u = .tup xs) ∨ B a = some u ∨ H a = none := fun a u h => by
    by_cases z : a = Dd
    · subst z; exact .inr (.inr hD)
    · rw [upd_ne z] at h; exact g2.new a u h
  refine hQ (.ref Dd) (upd B2 Dd (.lst accV)) H2 ⟨g2.hh, g2.bb.trans nb, nw⟩ ?_ ⟨Dd, accV, rfl, upd_same, iacc.mono nb⟩
  exact ok.grow g2.hh (g2.bb.trans nb) bh2 (fun a xs h => nb _ _ (ok2.tup a xs h)) nw
theorem pu_lc2 (hN : X.N.Nodup) (hi : PuI2 cm X tg iter f) (ok : BlkOk X.N X.env.scope scope own) (hg : ∀ (s : Shared) (H : Hp) (C : Addr) (cl : List (Str × Addr)) (fp : List Addr), PuG cm (X.blk s H scope (compEnvC scope cl C X.env) fp) tg js g)
    (ht : ∀ (s : Shared) (H : Hp) (C : Addr) (cl : List (Str × Addr)) (fp : List Addr), PuTs cm (X.blk s H scope (compEnvC scope cl C X.env) fp) ifs t)
    (he : ∀ (s : Shared) (H : Hp) (C : Addr) (cl : List (Str × Addr)) (fp : List Addr), PuE cm (X.blk s H scope (compEnvC scope cl C X.env) fp) elt e) (hjs : ∀ j ∈ js, j ∈ own.map (·.2) := by decide) (hc : X.calm = true := by rfl) (hs : ∀ x, foldedSetIterable iter X.env x = pure x := by intro _; rfl) :
    PuE cm X (.ListComp elt [⟨tg, iter, ifs, 0⟩] scope pos) (eLc f (own.map (·.2)) g t e) := by
  obtain ⟨wi, p, q⟩ := hi
  exact ⟨_, pe_lc hc hN p ok (fun s H C cl fp => (hg s H C cl fp).can) (fun s H C cl fp => (show PTs (X.blk s H scope (compEnvC scope cl C X.env) fp) ifs (tPt (gx X cm) t) from ht s H C cl fp)) (fun s H C cl fp => (he s H C cl fp).can) hs, lc_reads2 q hjs⟩
end
section
variable {cm : Nat → Addr} {X : Cx} {pos : Pos}
theorem pus_setLc2 (i : Nat) {y : Str} {py : Pos} {elt tg iter : Expr} {ifs : List Expr} {scope : Scope} {own : List (Str × Nat)} {js : List Nat} {spos : Pos} {fi : IF} {g : GF} {t : Ev → Option Bool} {e : EF} (hN : X.N.Nodup) (hi : PuI2 cm X tg iter fi) (ok : BlkOk X.N X.env.scope scope own)
    (hg : ∀ (s : Shared) (H : Hp) (C : Addr) (cl : List (Str × Addr)) (fp : List Addr), PuG cm (X.blk s H scope (compEnvC scope cl C X.env) fp) tg js g)
    (ht : ∀ (s : Shared) (H : Hp) (C : Addr) (cl : List (Str × Addr)) (fp : List Addr), PuTs cm (X.blk s H scope (compEnvC scope cl C X.env) fp) ifs t)
    (he : ∀ (s : Shared) (H : Hp) (C : Addr) (cl : List (Str × Addr)) (fp : List Addr), PuE cm (X.blk s H scope (compEnvC scope cl C X.env) fp) elt e)
    (hy : X.N[i]? = some y := by rfl) (hyl : X.env.scope.names.lookup y = some .local := by rfl) (hsw : swapsWith (.ListComp elt [⟨tg, iter, ifs, 0⟩] scope pos) (some (.Name y py)) spos.line X.env = pure true := by exact sw_true rfl rfl rfl (by decide +kernel))
    (hjs : ∀ j ∈ js, j ∈ own.map (·.2) := by decide) (hc : X.calm = true := by rfl) (hs : ∀ x, foldedSetIterable iter X.env x = pure x := by intro _; rfl) :
    PuS cm X (.Assign [.Name y py] (.ListComp elt [⟨tg, iter, ifs, 0⟩] scope pos) spos) (sSet i (eLc fi (own.map (·.2)) g t e)) := by
  obtain ⟨wi, p, q⟩ := hi
  exact ⟨_, ps_setLc hc hN hy hyl hsw p ok (fun s H C cl fp => (hg s H C cl fp).can) (fun s H C cl fp => (show PTs (X.blk s H scope (compEnvC scope cl C X.env) fp) ifs (tPt (gx X cm) t) from ht s H C cl fp)) (fun s H C cl fp => (he s H C cl fp).can) hs, set_reads (lc_reads2 q hjs)⟩
end
theorem xe_enX {f : EF} {ρ : Ev} {ds : List D} {m : Md} (h : Ve f ρ (.lst ds) m) : Xe (iEnX f) ρ (enumL 0 ds) m := by
  unfold Xe Ve at *
  unfold iEnX
  rw [h]
  rfl
end DL

/-! DL38: dicts with nested keys. -/
namespace DL
open PySem L2
section
variable {P : Program} {Γ : Ga} {H : Hp} {h : Heap}
mutual
theorem nk_is {w : World} (ok : HOk P w H h) : ∀ {d : D} {v : V} {u : Value}, flat d = true → Is Γ H d v → RelV v u → NestedIs h (nk d) u
  | .non, _, _, _, e, r => by cases e; cases r; exact .none
  | .bl b, _, _, _, e, r => by cases e; cases r; exact .bool rfl
  | .int i, _, _, _, e, r => by cases e; obtain ⟨t, rfl⟩ := r; exact .int i t
  | .str x, _, _, _, e, r => by cases e; obtain ⟨t, rfl⟩ := r; exact .text x t
  | .tup ds, v, u, f, ⟨a, vs, e, h1, h2⟩, r => by
    subst e
    cases (show u = Value.ref a from r)
    obtain ⟨_, its, rv, o, g1, g2, n, g3⟩ := (show ObjOk P w H h a (.tup vs) from ok a _ h1)
    exact .tup g1 g2 g3 (by simpa using nks_is ok (by rw [flat] at f; exact f) h2 rv)
  | .scr _, _, _, f, _, _ => by simp [flat] at f
  | .wtp _, _, _, f, _, _ => by simp [flat] at f
  | .lst _, _, _, f, _, _ => by simp [flat] at f
  | .dic _, _, _, f, _, _ => by simp [flat] at f
  | .ins _ _, _, _, f, _, _ => by simp [flat] at f
  | .dn _ _, _, _, f, _, _ => by simp [flat] at f
  | .adr _, _, _, f, _, _ => by simp [flat] at f
theorem nks_is {w : World} (ok : HOk P w H h) : ∀ {ds : List D} {vs : List V} {us : List Value}, flats ds = true → Iss Γ H ds vs → Vals vs us → NestedAll h (nks ds) us
  | [], _, _, _, e, r => by
    cases (show _ = [] from e)
    cases r
    exact .nil
  | d :: ds, _, _, f, ⟨v, r, e, h1, h2⟩, rv => by
    subst e
    rw [flats, Bool.and_eq_true] at f
    cases rv with
    | cons a b => exact .cons (nk_is ok f.1 h1 a) (nks_is ok f.2 h2 b)
end
theorem nkOk_flat {d : D} (k : nkOk d = true) : flat d = true := by
  cases d <;> simp [nkOk] at k
  rw [flat]; exact k.1
theorem nk_key {w : World} (ok : HOk P w H h) {d : D} {v : V} (k : nkOk d = true) (hi : Is Γ H d v) : ∃ b, v = .ref b ∧ (nestedKind P w).is h (nk d) b := by
  have f := nkOk_flat k
  cases d <;> simp [nkOk] at k
  rename_i ds
  obtain ⟨b, vs, rfl, h1, h2⟩ := id hi
  refine ⟨b, rfl, nk_is ok f hi rfl, ?_⟩
  rw [nk, NestedKey.depth]
  omega
theorem keys_all {w : World} (ok : HOk P w H h) : ∀ {ks : List D} {ys : List (NestedKey × Addr × V)} {xs : List (NestedKey × Addr × Value)}, ys.map (·.1) = nks ks → ks.all nkOk = true → Iss Γ H ks (ys.map fun y => .ref y.2.1) → Paired RelN ys xs →
    ∀ x ∈ xs, (nestedKind P w).is h x.1 x.2.1
  | _, [], _, _, _, _, r, x, hx => by cases r; cases hx
  | _, _ :: _, [], _, _, _, r, x, hx => by cases hx
  | [], _ :: _, _ :: _, e, _, _, _, x, hx => by simp [nks] at e
  | k :: ks, p :: ys, q :: xs, e, f, i, .cons a b, x, hx => by
    rw [List.map_cons, nks, List.cons.injEq] at e
    rw [List.all_cons, Bool.and_eq_true] at f
    obtain ⟨v, r, e1, i1, i2⟩ := i
    rw [List.map_cons, List.cons.injEq] at e1
    obtain ⟨e1, rfl⟩ := e1
    subst e1
    rcases List.mem_cons.mp hx with rfl | hx
    · obtain ⟨b', e2, e3⟩ := nk_key ok f.1 i1
      cases e2
      obtain ⟨a1, a2, a3⟩ := a
      rw [← a1, ← a2, e.1]
      exact e3
    · exact keys_all ok e.2 f.2 i2 b x hx
theorem dn_of {a : Addr} {ys : List (NestedKey × Addr × V)} {ks : List D} (ok : HOk P Γ.w H h) (e : H a = some (dnO Γ.w a ys)) (h2 : ys.map (·.1) = nks ks) (h3 : ks.all nkOk = true) (h5 : Iss Γ H ks (ys.map fun y => .ref y.2.1)) :
    ys.length ≤ sizeLine ∧ (a == sysModules) = false ∧ ∃ xs, Paired RelN ys xs ∧ h.DictOfH (nestedKind P Γ.w) a xs := by
  obtain ⟨⟨z, y, xs, r, o, es, ep, g1, g2, g3, g4, g5⟩, _, _⟩ := (show ObjOk P Γ.w H h a (.ext (dnP Γ.w a ys)) from ok a _ e)
  exact ⟨z, y, xs, r, o, es, ep, g1, g2, g3, g4, keys_all ok h2 h3 h5 r, g5⟩
theorem dnP_stay {w : World} {a : Addr} {ys : List (NestedKey × Addr × V)} {h1 h2 : Heap} (p : dnP w a ys h1) (k : ∀ o, h1.get? a = some o → h2.get? a = some o) : dnP w a ys h2 := by
  obtain ⟨z, y, xs, r, o, es, ep, g1, g⟩ := p
  exact ⟨z, y, xs, r, o, es, ep, k o g1, g⟩
theorem dn_new {w : World} {H' : Hp} {h' : Heap} {a : Addr} {ys : List (NestedKey × Addr × V)} {xs : List (NestedKey × Addr × Value)} (z : ys.length ≤ sizeLine) (y : (a == sysModules) = false) (r : Paired RelN ys xs) (d : h'.DictOfH (nestedKind P w) a xs) : ObjOk P w H' h' a (dnO w a ys) := by
  obtain ⟨o, es, ep, g1, g2, g3, g4, _, g5⟩ := d
  exact ⟨⟨z, y, xs, r, o, es, ep, g1, g2, g3, g4, g5⟩, ⟨o, g1⟩, fun _ _ p k => dnP_stay p k⟩
/-- what is held at a nested key -/
def getN : List D → List D → NestedKey → Option D
  | k :: ks, d :: ds, x => if nk k = x then some d else getN ks ds x
  | _, _, _ => none
theorem getN_val {x : NestedKey} : ∀ {ks ds : List D} {ys : List (NestedKey × Addr × V)} {xs : List (NestedKey × Addr × Value)}, ys.map (·.1) = nks ks → Iss Γ H ds (ys.map fun y => y.2.2) → Paired RelN ys xs →
    match getN ks ds x with
    | some d => ∃ v u b, atKey xs x = some (b, u) ∧ RelV v u ∧ Is Γ H d v ∧ d ∈ ds
    | none => atKey xs x = none
  | [], ds, [], _, e, i, r => by
    cases r
    rw [show getN [] ds x = none by cases ds <;> rfl]
    rfl
  | _ :: _, _, [], _, e, i, _ => by simp [nks] at e
  | [], _, _ :: _, _, e, _, _ => by simp [nks] at e
  | k :: ks, [], _ :: _, _, e, i, _ => by simp [Iss] at i
  | k :: ks, d :: ds, p :: ys, q :: xs, e, i, .cons a b => by
    rw [List.map_cons, nks, List.cons.injEq] at e
    obtain ⟨v, r, e1, i1, i2⟩ := i
    rw [List.map_cons, List.cons.injEq] at e1
    obtain ⟨e1, rfl⟩ := e1
    obtain ⟨a1, a2, a3⟩ := a
    rw [getN]
    by_cases hk : nk k = x
    · rw [if_pos hk]
      have : q.1 = x := by rw [← a1, e.1, hk]
      exact ⟨p.2.2, q.2.2, q.2.1, by simp [atKey, List.find?_cons, this], a3, e1 ▸ i1, by simp⟩
    · rw [if_neg hk]
      have hq : ¬ q.1 = x := fun z => hk (by rw [← e.1, a1, z])
      have e2 : atKey (q :: xs) x = atKey xs x := by simp [atKey, List.find?_cons, hq]
      have ih := getN_val (x := x) e.2 i2 b
      rw [e2]
      revert ih
      cases getN ks ds x with
      | none => exact fun z => z
      | some d' => exact fun ⟨v', u', b', z1, z2, z3, z4⟩ => ⟨v', u', b', z1, z2, z3, List.mem_cons_of_mem _ z4⟩
theorem getN_some {x : NestedKey} {ks ds : List D} {ys : List (NestedKey × Addr × V)} {xs : List (NestedKey × Addr × Value)} (e : ys.map (·.1) = nks ks) (i : Iss Γ H ds (ys.map fun y => y.2.2)) (r : Paired RelN ys xs) : (atKey xs x).isSome = (getN ks ds x).isSome := by
  have q := getN_val (x := x) e i r
  revert q
  cases getN ks ds x with
  | none => intro q; rw [show atKey xs x = none from q]; rfl
  | some d => intro ⟨v, u, b, q, _⟩; rw [q]; rfl
end
section
variable {cm : Nat → Addr} {X : Cx} {a b : Expr} {fa fb : EF} {pos : Pos}
def rInN (cm : Nat → Addr) (X : Cx) (neg : Bool) : R2 := fun v u H Q => ∃ d ks ds, nkOk d = true ∧ Is (gx X cm) H d v ∧ Is (gx X cm) H (.dn ks ds) u ∧ Q (.bl ((getN ks ds (nk d)).isSome ^^ neg)) H
def rIxN (cm : Nat → Addr) (X : Cx) : R2 := fun u v H Q => ∃ d ks ds c, nkOk d = true ∧ Is (gx X cm) H d v ∧ Is (gx X cm) H (.dn ks ds) u ∧ getN ks ds (nk d) = some c ∧ ∀ w, flat c = true → Is (gx X cm) H c w → Q w H
theorem op_inN (hu : X.A.units + 65 < cLine) : OpR X (compareOp .In) (rInN cm X false) := by
  intro pins s σ H x y v u Q I rx ry ⟨d, ks, ds, k, i, ⟨p, ys, ey, e1, e2, e3, e4, e5, e6⟩, q⟩
  subst ey
  cases ry
  obtain ⟨c, ex, kk⟩ := nk_key I.hok k i
  subst ex
  cases rx
  obtain ⟨z, y, xs, r, dd⟩ := dn_of (Γ := gx X cm) I.hok e1 e2 e3 e5
  refine wpAny_in_heap (knd := nestedKind X.prog X.w) (by show _ + 8 < _; rw [Around.in1_units]; omega) kk y dd ?_
  refine ⟨.bl _, H, I.tok _, rfl, ?_⟩
  rw [getN_some e2 e6 r]
  simpa using q
theorem op_ninN (hu : X.A.units + 65 < cLine) : OpR X (compareOp .NotIn) (rInN cm X true) := by
  intro pins s σ H x y v u Q I rx ry ⟨d, ks, ds, k, i, ⟨p, ys, ey, e1, e2, e3, e4, e5, e6⟩, q⟩
  subst ey
  cases ry
  obtain ⟨c, ex, kk⟩ := nk_key I.hok k i
  subst ex
  cases rx
  obtain ⟨z, y, xs, r, dd⟩ := dn_of (Γ := gx X cm) I.hok e1 e2 e3 e5
  refine PyProof.Rows.wpAny_notIn_heap (knd := nestedKind X.prog X.w) (by show _ + 8 < _; rw [Around.in1_units]; omega) kk y dd ?_
  refine ⟨.bl _, H, I.tok _, rfl, ?_⟩
  rw [getN_some e2 e6 r]
  simpa using q
theorem ix_dn (hu : X.A.units + 65 < cLine) : IxR X (rIxN cm X) := by
  intro value slice pins s σ H x y v u Q I rx ry ⟨d, ks, ds, c, k, i, ⟨p, ys, ey, e1, e2, e3, e4, e5, e6⟩, g, q⟩ hs
  subst ey
  cases rx
  obtain ⟨b, ex, kk⟩ := nk_key I.hok k i
  subst ex
  cases ry
  obtain ⟨z, y, xs, r, dd⟩ := dn_of (Γ := gx X cm) I.hok e1 e2 e3 e5
  have gv := getN_val (x := nk d) e2 e6 r
  rw [g] at gv
  obtain ⟨v', u', b', h1, h2, h3, h4⟩ := gv
  refine PyProof.Rows.tail_any dd.typeIs PySem.F.slot_dict_getitem.lookup (wpAny_getItem_heap (knd := nestedKind X.prog X.w) (by show _ + 8 < _; rw [Around.in1_units]; omega) kk dd h1 ?_) hs
  exact ⟨v', H, I.tok _, h2, q v' (flats_mem e4 _ h4) h3⟩
def inN (x c : D) : Option D := match c with
  | .dn ks ds => if nkOk x = true then some (.bl (getN ks ds (nk x)).isSome) else none
  | _ => none
def ninN (x c : D) : Option D := match c with
  | .dn ks ds => if nkOk x = true then some (.bl (!(getN ks ds (nk x)).isSome)) else none
  | _ => none
def ixN' (c x : D) : Option D := match c with
  | .dn ks ds => if nkOk x = true then getN ks ds (nk x) else none
  | _ => none
theorem ok_inN : OkOp (gx X cm) (rInN cm X false) inN := by
  intro H x y d v u Q e hx hy hQ
  unfold inN at e
  split at e
  · split at e
    · rename_i ks ds k
      cases e
      exact ⟨x, ks, ds, k, hx, hy, by simpa using hQ _ _ (.atom rfl)⟩
    · cases e
  · cases e
theorem ok_ninN : OkOp (gx X cm) (rInN cm X true) ninN := by
  intro H x y d v u Q e hx hy hQ
  unfold ninN at e
  split at e
  · split at e
    · rename_i ks ds k
      cases e
      exact ⟨x, ks, ds, k, hx, hy, by simpa using hQ _ _ (.atom rfl)⟩
    · cases e
  · cases e
theorem ok_ixN : OkOp (gx X cm) (rIxN cm X) ixN' := by
  intro H x y d v u Q e hx hy hQ
  unfold ixN' at e
  split at e
  · split at e
    · rename_i ks ds k
      exact ⟨y, ks, ds, d, k, hy, hx, e, fun w f i => hQ w H (Born.flat f i)⟩
    · cases e
  · cases e
theorem pu_inN (hu : X.A.units + 65 < cLine) (ha : PuE cm X a fa) (hb : PuE cm X b fb) (hm : behindInMarks .In b = false := by rfl) : PuE cm X (.Compare a [.In] [b] pos) (e2 inN fa fb) := pu_cmp (op_inN hu) ok_inN ha hb hm
theorem pu_ninN (hu : X.A.units + 65 < cLine) (ha : PuE cm X a fa) (hb : PuE cm X b fb) (hm : behindInMarks .NotIn b = false := by rfl) : PuE cm X (.Compare a [.NotIn] [b] pos) (e2 ninN fa fb) := pu_cmp (op_ninN hu) ok_ninN ha hb hm
theorem put_inN (hu : X.A.units + 65 < cLine) (ha : PuE cm X a fa) (hb : PuE cm X b fb) (hm : behindInMarks .In b = false := by rfl) : PuT cm X (.Compare a [.In] [b] pos) (tE (e2 inN fa fb)) := put_cmp (op_inN hu) ok_inN ha hb hm
theorem put_ninN (hu : X.A.units + 65 < cLine) (ha : PuE cm X a fa) (hb : PuE cm X b fb) (hm : behindInMarks .NotIn b = false := by rfl) : PuT cm X (.Compare a [.NotIn] [b] pos) (tE (e2 ninN fa fb)) := put_cmp (op_ninN hu) ok_ninN ha hb hm
theorem pu_ixN (hu : X.A.units + 65 < cLine) (ha : PuE cm X a fa) (hb : PuE cm X b fb) (hs : PlainIx b := by intro _ _; rfl) : PuE cm X (.Subscript a b pos) (e2 ixN' fa fb) :=
  pu_op2 (t := tOp (rIxN cm X)) (fun _ _ pa pb => pe_ix (ix_dn hu) pa pb hs) ok_ixN ha hb
/-! ### stores -/
def rSetN (cm : Nat → Addr) (X : Cx) : TSet := fun o i v H Q => ∃ a b ys k ks ds, o = .ref a ∧ i = .ref b ∧ H a = some (dnO X.w a ys) ∧ ys.map (·.1) = nks ks ∧ ks.all nkOk = true ∧ Iss (gx X cm) H ks (ys.map fun y => .ref y.2.1) ∧ Iss (gx X cm) H ds (ys.map fun y => y.2.2) ∧
  nkOk k = true ∧ Is (gx X cm) H k i ∧ getN ks ds (nk k) = none ∧ ks.length < 16777216 ∧ Q (upd H a (dnO X.w a (ys ++ [(nk k, b, v)])))
theorem nks_length : ∀ ks : List D, (nks ks).length = ks.length
  | [] => rfl
  | _ :: r => by rw [nks, List.length_cons, List.length_cons, nks_length r]
theorem set_dn (hu : X.A.units + 65 < cLine) : PSet X (rSetN cm X) := by
  intro pins s σ H o i v ov iv u Q I ro ri rv ⟨a, b, ys, k, ks, ds, eo, ei, e1, e2, e3, e5, e6, hk, ik, hn, hl, q⟩
  subst eo
  cases ro
  obtain ⟨b', eb, kk⟩ := nk_key I.hok hk ik
  subst ei
  cases eb
  cases ri
  obtain ⟨z, y, xs, r, dd⟩ := dn_of (Γ := gx X cm) I.hok e1 e2 e3 e5
  have hlen : ys.length = ks.length := by have := congrArg List.length e2; rwa [List.length_map, nks_length] at this
  have hxl : xs.length = ys.length := (Paired.length r).symm
  have hno : atKey xs (nk k) = none := by
    have q := getN_some (x := nk k) e2 e6 r
    rw [hn] at q
    simpa using q
  refine wpAny_setItem_heap (knd := nestedKind X.prog X.w) (hsz := by rw [line_eq]; omega) (by show _ + 8 < _; rw [Around.in1_units]; omega) kk dd fun h' dd' hs => ?_
  rw [storedH_new hno] at dd'
  refine ⟨_, ?_, q⟩
  obtain ⟨o, es, ep, g1, g2⟩ := id dd'
  exact d_write I (by rw [e1]; exact True.intro) hs ⟨o, g1⟩ (dn_new (by rw [line_eq, List.length_append]; simp; omega) y (Paired.snoc r ⟨rfl, rfl, rv⟩) dd')
theorem nks_append : ∀ (ks : List D) (k : D), nks (ks ++ [k]) = nks ks ++ [nk k]
  | [], _ => rfl
  | a :: r, k => by rw [List.cons_append, nks, nks, nks_append r k]; rfl
/-- x[k] = e, k new, into a dict of one's own with nested keys -/
def sSubN (i : Nat) (fk f : EF) : SF := fun ρ => match ownD ρ i with
  | some (.dn ks ds) => (f ρ).bind fun y => (fk ρ).bind fun k => if flat y.1 = true ∧ nkOk k.1 = true ∧ (getN ks ds (nk k.1)).isNone = true ∧ ks.length < 16777216 then some (.nx (setOwn ρ i (.dn (ks ++ [k.1]) (ds ++ [y.1])))) else none
  | _ => none
theorem pus_subN (i : Nat) {x : Str} {xpos : Pos} {k e2 : Expr} {fk f : EF} {pos' : Pos} (hu : X.A.units + 65 < cLine) (hv : PuE cm X e2 f) (hk : PuE cm X k fk) (hN : X.N[i]? = some x := by rfl) (hvi : Vis X.env.scope x := by first | exact Or.inl rfl | exact Or.inr (Or.inl rfl) | exact Or.inr (Or.inr rfl))
    (hd : (x == ("__debug__" : Str)) = false := by decide) (hcd : (x == ("__classdict__" : Str)) = false := by decide)
    (hs : swapsWithSole [.Subscript (.Name x xpos) k pos'] e2 pos.line X.env = pure false := by rfl) (hw : swappedStores [.Subscript (.Name x xpos) k pos'] e2 X.env = pure none := by rfl)
    (h1 : (assignEach [.Subscript (.Name x xpos) k pos'] X.env).map (·.2) = [assign (.Subscript (.Name x xpos) k pos') X.env] := by rfl)
    (ha : ∀ v, assign (.Subscript (.Name x xpos) k pos') X.env v = (do
      let ov ← holding [v] (eval (.Name x xpos) X.env)
      let iv ← holding [v, ov] (eval k X.env)
      standAt pos'
      holding [v, ov, iv] (setItem ov iv v)
      release [v, ov, iv] []) := by intro _; rfl) : PuS cm X (.Assign [.Subscript (.Name x xpos) k pos'] e2 pos) (sSubN i fk f) := by
  obtain ⟨t2, p2, q2⟩ := hv
  obtain ⟨t3, p3, q3⟩ := hk
  refine ⟨_, ps_asg p2 (pg_sub (pe_var hN hvi hd hcd) p3 (set_dn (cm := cm) hu) ha) hs hw h1, fun x B F ρ σ H r E ok hf hE => ?_⟩
  unfold sSubN at hf
  split at hf
  · rename_i ks ds hρ
    cases en : f ρ with
    | none => rw [en] at hf; cases hf
    | some y =>
      rw [en] at hf
      simp only [Option.bind_some] at hf
      cases ek : fk ρ with
      | none => rw [ek] at hf; cases hf
      | some kk =>
        rw [ek] at hf
        simp only [Option.bind_some] at hf
        split at hf
        · rename_i hc
          obtain ⟨c1, c2, c3, c4⟩ := hc
          cases hf
          refine q2 x B F ρ σ H y.1 y.2 _ ok en fun u B1 H1 g1 ok1 hu1 => ?_
          obtain ⟨v0, hv0, ho⟩ := ok1.own hρ
          refine ⟨v0, hv0, ?_⟩
          refine q3 x B1 F ρ σ H1 kk.1 kk.2 _ ok1 ek fun ku B2 H2 g2 ok2 hku => ?_
          obtain ⟨v0', hv0', ho2⟩ := ok2.own hρ
          rw [hv0] at hv0'
          cases hv0'
          obtain ⟨a, ys, ea, e1, e2, e3, e4, e5, e6, ef⟩ := id ho2
          have ik := hku.is ok2
          have iu := (hu1.mono g2).is ok2
          have hib : ∃ b, ku = .ref b := by
            revert c2 ik
            cases kk.1 <;> intro c2 ik <;> simp [nkOk] at c2
            obtain ⟨b, vs, rfl, _⟩ := ik
            exact ⟨b, rfl⟩
          obtain ⟨b, rfl⟩ := hib
          have sT : Same (tupOf H2) H2 := tupOf_same
          refine ⟨a, b, ys, kk.1, ks, ds, ea, rfl, e1, e2, e3, Iss.mono sT e5, Iss.mono sT e6, c2, ik, by simpa using c3, c4, ?_⟩
          have hm : a ∈ F i := by rw [ef]; simp
          have tk : TupK H2 (upd H2 a (dnO X.w a (ys ++ [(nk kk.1, b, u)]))) := TupK.upd (by intro xs z; rw [e1] at z; cases z)
          refine hE B2 (onF F i [a]) σ _ (g1.bb.trans g2.bb) (ok2.write hρ hv0 (fun c w hc e => ?_) (fun c e => ?_) (fun c xs e => ?_) ⟨a, ys ++ [(nk kk.1, b, u)], ea, upd_same, ?_, ?_, ?_, ?_, ?_, rfl⟩ (by simp) fun c hc => .inl (by rw [ef]; exact hc))
          · rw [upd_ne (fun z : c = a => hc (by rw [z]; exact hm))]; exact e
          · by_cases z : c = a
            · subst z; rw [upd_same] at e; cases e
            · rwa [upd_ne z] at e
          · by_cases z : c = a
            · subst z; rw [upd_same] at e; cases e
            · rwa [upd_ne z] at e
          · rw [List.map_append, e2, nks_append]; rfl
          · rw [List.all_append, e3]; simp [c2]
          · rw [flats_append, e4, flats, c1]; rfl
          · rw [List.map_append]
            exact (Iss.mono tk.same e5).snoc (Is.mono tk.same (Is.ofFlat (nkOk_flat c2) ik))
          · rw [List.map_append]
            exact (Iss.mono tk.same e6).snoc (Is.mono tk.same (Is.ofFlat c1 iu))
        · cases hf
  · cases hf
/-- an empty dict is from now on one with nested keys -/
def turnD (ρ : Ev) (i : Nat) : Option Ev := match ρ[i]? with
  | some (.on (.dic [])) => some (ρ.set i (.on (.dn [] [])))
  | _ => none
def bDn (i : Nat) (g : SF) : SF := fun ρ => (turnD ρ i).bind g
theorem dn_turn {pins : List (Addr × Obj)} {σ : St} {H : Hp} {s : Shared} {a : Addr} (I : Inv X pins σ H s) (e : H a = some (.dK [])) : Inv X pins σ (upd H a (dnO X.w a [])) s := by
  obtain ⟨z, y, vs, r, o, es, ep, g1, g2, g3, _, g4, _⟩ := dk_of I.hok e
  cases r
  have g5 : es.toList = [] := by
    cases q : es.toList with
    | nil => rfl
    | cons x r => rw [q] at g4; cases g4
  have new : ObjOk X.prog X.w (upd H a (dnO X.w a [])) s.heap a (dnO X.w a []) := dn_new (xs := []) (by simp) y .nil ⟨o, es, ep, g1, g2, g3, by rw [g5]; rfl, (fun _ hx => by cases hx), List.nodup_nil⟩
  exact I.write (h' := s.heap) (t' := s.toks) (x := a) (e := a) (by rw [e]; exact True.intro) (.inl rfl) (fun _ _ _ q => q) ⟨o, g1⟩ new
theorem pub_dn (i : Nat) {sts : List Stmt} {g : SF} (h : PuB cm X sts g) : PuB cm X sts (bDn i g) := by
  obtain ⟨t, p, q⟩ := h
  refine ⟨fun E σ H => ∃ a, H a = some (.dK []) ∧ t E σ (upd H a (dnO X.w a [])), ⟨fun pins s σ H D I ⟨a, ha, ht⟩ => p.run pins s σ _ D (dn_turn I ha) ht⟩, fun x B F ρ σ H r E ok hf hE => ?_⟩
  unfold bDn turnD at hf
  split at hf
  · rename_i e
    obtain ⟨v, hv, ⟨a, vs, fq, ea, h1, ⟨h2, h3⟩, ef⟩, h0⟩ := ok.at_ i _ e
    subst h2 h3
    refine ⟨a, h1, ?_⟩
    have hm : a ∈ F i := by rw [ef]; simp
    have ho : ownD ρ i = some (.dic []) := by unfold ownD; rw [e]
    have hs : setOwn ρ i (.dn [] []) = ρ.set i (.on (.dn [] [])) := by unfold setOwn; rw [e]
    have ok' := ok.write (H' := upd H a (dnO X.w a [])) (d' := .dn [] []) (fp := [a]) ho hv (fun c w hc e => by rw [upd_ne (fun z : c = a => hc (by rw [z]; exact hm))]; exact e) (fun c e => by
      by_cases z : c = a
      · subst z; rw [upd_same] at e; cases e
      · rwa [upd_ne z] at e) (fun c xs e => by
      by_cases z : c = a
      · subst z; rw [upd_same] at e; cases e
      · rwa [upd_ne z] at e) ⟨a, [], ea, upd_same, rfl, rfl, rfl, rfl, rfl, rfl⟩ (by simp) fun c hc => .inl (by rw [ef]; exact hc)
    rw [hs] at ok'
    exact q x B _ _ σ _ r E ok' hf hE
  · cases hf
end
end DL

/-! DL39: dicts with nested keys, reckoned with. -/
namespace DL
open PySem L2
theorem wp_dn {i : Nat} {g : SF} {ρ : Ev} {Φ : Fl → Prop} (h : ρ[i]? = some (.on (.dic []))) (h2 : Wp g (ρ.set i (.on (.dn [] []))) Φ) : Wp (bDn i g) ρ Φ := by
  obtain ⟨r, h3, h4⟩ := h2
  exact ⟨r, by unfold bDn turnD; rw [h]; exact h3, h4⟩
theorem se_subN {i : Nat} {fk f : EF} {ρ : Ev} {ks ds : List D} {k y : D} (h : ρ[i]? = some (.on (.dn ks ds))) (hy : Vf f ρ y) (hf : flat y = true) (hk : Vf fk ρ k) (ho : nkOk k = true) (hn : getN ks ds (nk k) = none) (hl : ks.length < 16777216) :
    Se (sSubN i fk f) ρ (.nx (ρ.set i (.on (.dn (ks ++ [k]) (ds ++ [y]))))) := by
  obtain ⟨m1, hy⟩ := hy
  obtain ⟨m2, hk⟩ := hk
  unfold Ve at hy hk
  unfold Se sSubN
  have e : ownD ρ i = some (.dn ks ds) := by unfold ownD; rw [h]
  have e2 : ∀ d, setOwn ρ i d = ρ.set i (.on d) := fun d => by unfold setOwn; rw [h]
  rw [e]
  simp only [hy, hk, Option.bind_some, e2]
  rw [if_pos ⟨hf, ho, by rw [hn]; rfl, hl⟩]
theorem se_unp2 {i j : Nat} {f : EF} {a b : D} {ρ : Ev} {s t : Sl} (hv : Vf f ρ (.tup [a, b])) (h : ρ[i]? = some s) (h2 : freeS s = true) (f1 : flat a = true) (h' : (ρ.set i (.fn a))[j]? = some t) (h2' : freeS t = true) (f' : flat b = true) :
    Se (sUnp f (gT 2 (gsCons i (gsCons j gsNil)))) ρ (.nx ((ρ.set i (.fn a)).set j (.fn b))) := se_unpS hv fun m => sg_two h h2 f1 h' h2' f' rfl
theorem ve_e1n {o : D → Option D} {f : EF} {ρ : Ev} {a c : D} (h1 : Vf f ρ a) (h : o a = some c) : Ve (e1 o f) ρ c .new := by
  obtain ⟨m, h1⟩ := h1
  unfold Ve at *
  unfold e1
  rw [h1]
  simp [h]
theorem nin_N {x : D} {ks ds : List D} (h : nkOk x = true) : ninN x (.dn ks ds) = some (.bl (!(getN ks ds (nk x)).isSome)) := if_pos h
theorem ix_N {x : D} {ks ds : List D} (h : nkOk x = true) : ixN' (.dn ks ds) x = getN ks ds (nk x) := if_pos h
theorem vf_onD {i : Nat} {ρ : Ev} {d : D} (h : ρ[i]? = some (.on d)) : Vf (eV i) ρ d := ⟨.own, by unfold Ve eV; rw [h]⟩
end DL

/-! DL40: P.setdefault(k, []).append(e). -/
namespace DL
open PySem L2
section
variable {cm : Nat → Addr} {X : Cx} {pos : Pos} {e e2 k : Expr} {i : Nat} {w : WF} {nf : NF} {fk : EF}
/-- the append, once the list is found -/
theorem app_tail {t2 : TE} (q2 : ∀ (x : Fx) (B : Hp) (F : Nat → List Addr) (ρ : Ev) (σ : St) (H : Hp) (d : D) (Q : VK), Ok (gx X cm) x B F ρ σ H → nf ρ = some d →
      (∀ v B' H' fp, Gr B H B' H' → Ok (gx X cm) x B' F ρ σ H' → Own (gx X cm) H' d v fp → fp.Nodup → (∀ a ∈ fp, H a = none ∧ B' a = none) → Q v H') → t2 σ H Q)
    {x : Fx} {B1 : Hp} {F : Nat → List Addr} {ρ : Ev} {σ : St} {H1 : Hp} {pth : List Stp} {ds : List D} {y d0 : D} {v v0 : V} {Q : VK} (ok1 : Ok (gx X cm) x B1 F ρ σ H1) (ew : wayD ρ i pth = some (.lst ds)) (ho0 : ownD ρ i = some d0) (hv0 : σ[i]? = some (some v0)) (hg1 : vgets H1 v0 pth = some v)
    (en : nf ρ = some y) (hlen : ds.length < 16777216) (hE : ∀ B2 F' H', Same B1 B2 → Ok (gx X cm) x B2 F' (setOwn ρ i (dreps d0 pth (.lst (ds ++ [y])))) σ H' → Q .non H') :
    tyV X.K "list" v H1 ∧ (t2 σ H1 fun u H2 => rAppend v [u] H2 Q) := by
  obtain ⟨_, l, fq, rr, _, _, ho, _⟩ := ok1.part ew hv0 hg1
  obtain ⟨a, vs, fr, rfl, h1, h2, rfl⟩ := own_lst ho
  refine ⟨.inl ⟨rfl, _, SqL.of h1⟩, ?_⟩
  refine q2 x B1 F ρ σ H1 y _ ok1 en fun u B2 H2 fx g2 ok2 ou nu lu => ?_
  have h1' := g2.hh _ _ h1
  have hlv : vs.length = ds.length := h2.length
  refine ⟨a, vs, u, rfl, rfl, h1', by rw [line_eq]; omega, ?_⟩
  obtain ⟨F', ok3⟩ := ok2.writePart (y := .lst (ds ++ [y])) (u := .lst (vs ++ [u])) (fx := fx) ew hv0 (vgets_gr g2 hg1) trivial (fun fq2 hq nq => by
      obtain ⟨a', vs', fr', ea, k1, k2, ef⟩ := own_lst hq
      cases ea
      rw [h1'] at k1
      cases k1
      cases ef
      have hkeep : ∀ b, b ≠ a → (upd H2 a (.lst (vs ++ [u]))) b = H2 b := fun b hb => upd_ne hb
      have tk : TupK H2 (upd H2 a (.lst (vs ++ [u]))) := TupK.upd (by intro xs z; rw [h1'] at z; cases z)
      rw [List.cons_append, List.nodup_cons] at nq
      refine ⟨a :: (fq2 ++ fx), ⟨a, vs ++ [u], fq2 ++ fx, rfl, upd_same, (k2.keep tk fun b hb => hkeep b fun z => nq.1 (by rw [← z]; simp [hb])).snoc (ou.keep tk fun b hb => hkeep b fun z => nq.1 (by rw [← z]; simp [hb])), rfl⟩, List.nodup_cons.mpr nq, fun b hb => ?_⟩
      rcases List.mem_cons.mp hb with rfl | hb
      · exact .inl (by simp)
      · rcases List.mem_append.mp hb with hb | hb
        · exact .inl (by simp [hb])
        · exact .inr hb) nu (fun b hb => ok2.loose ok1 (lu b hb).1 (lu b hb).2) ⟨_, h1', trivial⟩ (fun fq hq => by
      obtain ⟨a', vs', fr', ea, _, _, ef⟩ := own_lst hq
      cases ea
      exact ⟨fr', ef⟩) d0 ho0
  exact hE B2 F' _ g2.bb ok3
/-- the state in which the list is there -/
def sdSt (i : Nat) (ρ : Ev) (p : List Stp) (kvs : List (Key × D)) (key : Key) : Option Ev := if kvs.length < 16777216 then match getK kvs key with
    | some _ => some ρ
    | none => putW ρ i p (.dic (putG kvs key (.lst [])))
  else none
def sSdApp (i : Nat) (w : WF) (fk : EF) (nf : NF) : SF := fun ρ => (w ρ).bind fun p => (wayD ρ i p).bind fun d => (fk ρ).bind fun k => match d with
  | .dic kvs => (keyOf k.1).bind fun key => (sdSt i ρ p kvs key).bind fun ρ1 => (wayD ρ1 i (p ++ [.ky key])).bind fun d1 => (nf ρ1).bind fun y => match d1 with
    | .lst ds => if ds.length < 16777216 then (putW ρ1 i (p ++ [.ky key]) (.lst (ds ++ [y]))).map .nx else none
    | _ => none
  | _ => none
theorem own_head {Γ : Ga} {H : Hp} {a : Addr} {d : D} {fp : List Addr} (h : Own Γ H d (.ref a) fp) (hd : ∃ kvs, d = .dic kvs) : a ∈ fp := by
  obtain ⟨kvs, rfl⟩ := hd
  obtain ⟨a', vs, fr, ea, _, _, ef⟩ := h
  cases ea
  rw [ef]; simp
theorem vgets_upd {Γ : Ga} {H : Hp} {a : Addr} {o : HO} {d' : D} (hd : ∃ kvs, d' = .dic kvs) : ∀ {p : List Stp} {d : D} {v : V} {fp : List Addr}, Own Γ H d v fp → fp.Nodup → vgets H v p = some (.ref a) → dgets d p = some d' → vgets (upd H a o) v p = some (.ref a)
  | [], _, _, _, _, _, e, _ => e
  | s :: p, d, v, fp, h, hn, e, g => by
    rw [dgets] at g
    rw [vgets] at e ⊢
    cases e1 : dget d s with
    | none => rw [e1] at g; cases g
    | some d1 =>
      rw [e1] at g
      have deep : ∀ {v1 fq}, Own Γ H d1 v1 fq → vgets H v1 p = some (.ref a) → a ∈ fq := fun {v1 fq} ho ev => by
        obtain ⟨v', e', ⟨l2, fq2, r2, rfl, ho2, _⟩⟩ := Own.parts ho g
        rw [ev] at e'
        cases e'
        have := own_head ho2 hd
        simp [this]
      have fin : ∀ {b : Addr} {v1 : V} {fq : List Addr}, b ≠ a → (∀ K : Hp, K b = H b → vget K (.ref b) s = some v1) → Own Γ H d1 v1 fq → fq.Nodup → v = .ref b → ((vget (upd H a o) v s).bind fun w => vgets (upd H a o) w p) = some (.ref a) := fun {b v1 fq} hb hv ho hnq ev => by
        subst ev
        rw [hv H rfl, Option.bind_some] at e
        rw [hv (upd H a o) (upd_ne hb), Option.bind_some]
        exact vgets_upd hd ho hnq e g
      cases d with
      | lst ds =>
        cases s with
        | ix i =>
          obtain ⟨b, vs, fq0, rfl, h1, h2, rfl⟩ := h
          obtain ⟨v1, e2, l, fq, r, rfl, ho, _⟩ := h2.part e1
          rw [List.nodup_cons, List.nodup_append, List.nodup_append] at hn
          have hv : ∀ K : Hp, K b = H b → vget K (.ref b) (.ix i) = some v1 := fun K q => by simp only [vget, q, h1]; exact e2
          rw [hv H rfl, Option.bind_some] at e
          have hb : b ≠ a := fun z => hn.1 (by rw [z]; simp [deep ho e])
          rw [hv (upd H a o) (upd_ne hb), Option.bind_some]
          exact vgets_upd hd ho hn.2.1.2.1 e g
        | ky => simp [dget] at e1
        | fd => simp [dget] at e1
      | dic ds =>
        cases s with
        | ky k =>
          obtain ⟨b, vs, fq0, rfl, h1, h2, rfl⟩ := h
          obtain ⟨v1, e2, l, fq, r, rfl, ho, _⟩ := h2.part e1
          rw [List.nodup_cons, List.nodup_append, List.nodup_append] at hn
          have hv : ∀ K : Hp, K b = H b → vget K (.ref b) (.ky k) = some v1 := fun K q => by simp only [vget, q, h1]; exact e2
          rw [hv H rfl, Option.bind_some] at e
          have hb : b ≠ a := fun z => hn.1 (by rw [z]; simp [deep ho e])
          rw [hv (upd H a o) (upd_ne hb), Option.bind_some]
          exact vgets_upd hd ho hn.2.1.2.1 e g
        | ix => simp [dget] at e1
        | fd => simp [dget] at e1
      | ins c ds =>
        cases s with
        | fd k =>
          obtain ⟨b, dx, vs, fq0, rfl, h1, h2, rfl⟩ := h
          obtain ⟨v1, e2, l, fq, r, rfl, ho, _⟩ := h2.part e1
          rw [List.nodup_cons, List.nodup_append, List.nodup_append] at hn
          have hv : ∀ K : Hp, K b = H b → vget K (.ref b) (.fd k) = some v1 := fun K q => by simp only [vget, q, h1]; exact e2
          rw [hv H rfl, Option.bind_some] at e
          have hb : b ≠ a := fun z => hn.1 (by rw [z]; simp [deep ho e])
          rw [hv (upd H a o) (upd_ne hb), Option.bind_some]
          exact vgets_upd hd ho hn.2.1.2.1 e g
        | ky => simp [dget] at e1
        | ix => simp [dget] at e1
      | _ => cases s <;> simp [dget] at e1
theorem putK_val {κ : Type} [DecidableEq κ] {k : κ} {z : V} : ∀ {kvs : List (κ × V)}, valV kvs k = none → valV (putK kvs k z) k = some z := by
  intro kvs h
  have hn : (kvs.any fun kv => decide (kv.1 = k)) = false := by rw [valV_any, h]; rfl
  unfold putK
  rw [if_neg (by rw [hn]; decide)]
  unfold valV at *
  rw [List.find?_append]
  cases q : kvs.find? fun kv => decide (kv.1 = k) with
  | some p => rw [q] at h; cases h
  | none => simp
theorem pus_sdApp {p0 p1 p2 pos2 a1 a2 : Pos} (hP : PuL cm X e i w) (hk : PuE cm X k fk) (hv : PuN cm X e2 nf)
    (hs : swapsWith (.Call (.Attribute (.Call (.Attribute e "setdefault" a1) [k, .List [] p0] [] p1) "append" a2) [e2] [] p2) none pos2.line X.env = pure false := by rfl)
    (m : M2 X e "setdefault" a1 k (.List [] p0) p1 := by exact ⟨rfl, rfl, rfl, rfl⟩)
    (hbase : attributeBase (.Call (.Attribute e "setdefault" a1) [k, .List [] p0] [] p1) "append" X.env (eval (.Call (.Attribute e "setdefault" a1) [k, .List [] p0] [] p1) X.env) = eval (.Call (.Attribute e "setdefault" a1) [k, .List [] p0] [] p1) X.env := by rfl)
    (hfew : ((backTo p2 (starEach [e2] X.env)).all (fun x => !x.1) && (backToKw p2 (keywordEach [] X.env)).all (fun x => x.1.isSome)
      && decide ([e2].length + ([] : List Keyword).length + (if ([] : List Keyword).isEmpty then 0 else 1) < 30)) = true := by rfl)
    (hline : (a2.endLine == p2.line) = true := by rfl) (hst : starEach [e2] X.env = (false, eval e2 X.env) :: starEach [] X.env := by rfl) (hplain : (backTo p2 (starEach [] X.env)).any (·.1) = false := by rfl) :
    PuS cm X (.Expr (.Call (.Attribute (.Call (.Attribute e "setdefault" a1) [k, .List [] p0] [] p1) "append" a2) [e2] [] p2) pos2) (sSdApp i w fk nf) := by
  obtain ⟨t, p, q⟩ := hP
  obtain ⟨t2, pp2, q2⟩ := hv
  obtain ⟨t3, p3, q3⟩ := hk
  obtain ⟨t4, p4, q4⟩ := (pn_lst (pos := p0) pns_nil : PuN cm X (.List [] p0) (nLst nNil))
  refine ⟨_, ps_expr (pe_bm PySem.F.plainAttrs_list PySem.F.slot_list_append PySem.F.type_list_append mt_append (pe_dsetd p p3 p4 m) (pa_cons pp2 pa_nil hst) hbase hfew hline hst hplain) hs, fun x B F ρ σ H r E ok hf hE => ?_⟩
  unfold sSdApp at hf
  cases e1 : w ρ with
  | none => rw [e1] at hf; cases hf
  | some pth =>
    rw [e1] at hf
    simp only [Option.bind_some] at hf
    cases ew : wayD ρ i pth with
    | none => rw [ew] at hf; cases hf
    | some d =>
      rw [ew] at hf
      simp only [Option.bind_some] at hf
      cases ek : fk ρ with
      | none => rw [ek] at hf; cases hf
      | some kk =>
        rw [ek] at hf
        simp only [Option.bind_some] at hf
        split at hf
        · rename_i kvs
          cases e5 : keyOf kk.1 with
          | none => rw [e5] at hf; cases hf
          | some key =>
            rw [e5] at hf
            simp only [Option.bind_some] at hf
            cases e6 : sdSt i ρ pth kvs key with
            | none => rw [e6] at hf; cases hf
            | some ρ1 =>
              rw [e6] at hf
              simp only [Option.bind_some] at hf
              cases e7 : wayD ρ1 i (pth ++ [.ky key]) with
              | none => rw [e7] at hf; cases hf
              | some d1 =>
                rw [e7] at hf
                simp only [Option.bind_some] at hf
                cases e8 : nf ρ1 with
                | none => rw [e8] at hf; cases hf
                | some y =>
                  rw [e8] at hf
                  simp only [Option.bind_some] at hf
                  split at hf
                  · rename_i ds
                    split at hf
                    · rename_i hlen
                      obtain ⟨d01, ho1, _⟩ := wayD_some e7
                      rw [putW, ho1] at hf
                      cases hf
                      obtain ⟨d0, ho0, _⟩ := wayD_some ew
                      refine q x B F ρ σ H pth _ _ ok e1 ew fun v v0 B1 H1 g1 ok1 hv0 hg1 => ?_
                      obtain ⟨_, l, fq, rr, _, _, ho, _⟩ := ok1.part ew hv0 hg1
                      obtain ⟨a, vs, fr, rfl, h1, h2, rfl⟩ := ho
                      refine ⟨a, rfl, .inl ⟨vs, .inl h1⟩, ?_⟩
                      refine q3 x B1 F ρ σ H1 _ _ _ ok1 ek fun ku B2 H2 g2 ok2 hku => ?_
                      cases keyOf_is e5 (hku.is ok2)
                      refine q4 x B2 F ρ σ H2 (.lst []) _ ok2 rfl fun z B3 H3 fz g3 ok3 oz nz lz => ?_
                      have h1' := g3.hh _ _ (g2.hh _ _ h1)
                      have h2' : OwnK (gx X cm) H3 kvs vs fr := own_gr (d := .dic kvs) (v := .ref a) (fp := a :: fr) (g2.trans g3) ⟨a, vs, fr, rfl, h1, h2, rfl⟩ |> fun ⟨a', vs', fr', ea, k1, k2, ef⟩ => by
                        cases ea
                        rw [h1'] at k1
                        cases k1
                        cases ef
                        exact k2
                      have hlenK : vs.length = kvs.length := by have := congrArg List.length h2'.keys; simpa using this
                      have hgd := vgets_gr (g2.trans g3) hg1
                      have hval : (valV vs key).isSome = (getK kvs key).isSome := IsK.isSome (OwnK.isIn tupOf_same (fun _ _ => rfl) h2')
                      unfold sdSt at e6
                      split at e6
                      · rename_i hkl
                        refine ⟨vs, key, h1', rfl, by rw [line_eq, hlenK]; exact hkl, fun u hu => ?_, fun hu => ?_⟩
                        · rw [hu] at hval
                          cases hgk : getK kvs key with
                          | none => rw [hgk] at hval; cases hval
                          | some dd =>
                            rw [hgk] at e6
                            cases e6
                            exact app_tail (Q := fun _ H' => E.nx σ H') q2 ok3 e7 ho1 hv0 (by rw [vgets_app, hgd]; show (vget H3 (.ref a) (.ky key)).bind _ = _; simp only [vget, h1', hu]; rfl) e8 hlen fun B4 F' H' s ok4 => hE B4 F' σ H' ((g1.bb.trans (g2.bb.trans g3.bb)).trans s) ok4
                        · rw [hu] at hval
                          cases hgk : getK kvs key with
                          | some dd => rw [hgk] at hval; cases hval
                          | none =>
                            rw [hgk] at e6
                            simp only at e6
                            rw [putW, ho0] at e6
                            cases e6
                            obtain ⟨F4, ok4⟩ := ok3.writePart (y := .dic (putG kvs key (.lst []))) (u := .dK (putK vs key z)) (fx := fz) ew hv0 hgd trivial (fun fq2 hq nq => by
                                obtain ⟨a', vs', fr', ea, k1', k2', ef⟩ := hq
                                cases ea
                                rw [h1'] at k1'
                                cases k1'
                                cases ef
                                have hkeep : ∀ b, b ≠ a → (upd H3 a (.dK (putK vs key z))) b = H3 b := fun b hb => upd_ne hb
                                have tk : TupK H3 (upd H3 a (.dK (putK vs key z))) := TupK.upd (by intro xs z; rw [h1'] at z; cases z)
                                rw [List.cons_append, List.nodup_cons] at nq
                                have hcnt : cntK kvs key ≤ 1 := by
                                  have : ∀ {kvs : List (Key × D)}, getK kvs key = none → cntK kvs key = 0 := by
                                    intro kvs
                                    induction kvs with
                                    | nil => intro _; rfl
                                    | cons p r ih =>
                                      intro hg
                                      obtain ⟨k0, d0⟩ := p
                                      rw [getK] at hg
                                      split at hg
                                      · cases hg
                                      · rename_i hne
                                        have := ih hg
                                        unfold cntK at this ⊢
                                        rw [List.filter_cons, if_neg (by simpa using hne)]
                                        exact this
                                  rw [this hgk]; omega
                                obtain ⟨fy, o, n, m⟩ := OwnK.put (k := key) (oz.keep tk fun b hb => hkeep b fun z => nq.1 (by rw [← z]; simp [hb])) (k2'.keep tk fun b hb => hkeep b fun z => nq.1 (by rw [← z]; simp [hb])) (.inr hcnt) nq.2
                                refine ⟨a :: fy, ⟨a, _, fy, rfl, upd_same, o, rfl⟩, List.nodup_cons.mpr ⟨fun hb => nq.1 (List.mem_append.mpr (m a hb)), n⟩, fun b hb => ?_⟩
                                rcases List.mem_cons.mp hb with rfl | hb
                                · exact .inl (by simp)
                                · exact (m b hb).imp (fun z => by simp [z]) id) nz (fun b hb => ok3.loose ok2 (lz b hb).1 (lz b hb).2) ⟨_, h1', trivial⟩ (fun fq hq => by
                                obtain ⟨a', vs', fr', ea, _, _, ef⟩ := hq
                                cases ea
                                exact ⟨fr', ef⟩) d0 ho0
                            have hup : vgets (upd H3 a (.dK (putK vs key z))) v0 pth = some (.ref a) := by
                              obtain ⟨w0, hw0, ho3⟩ := ok3.own ho0
                              rw [hv0] at hw0
                              cases hw0
                              obtain ⟨_, q0, q1⟩ := wayD_some ew
                              rw [ho0] at q0
                              cases q0
                              exact vgets_upd ⟨kvs, rfl⟩ ho3 (ok3.nd i) hgd q1
                            exact app_tail (Q := fun _ H' => E.nx σ H') q2 ok4 e7 ho1 hv0 (by rw [vgets_app, hup]; show (vget (upd H3 a (.dK (putK vs key z))) (.ref a) (.ky key)).bind _ = _; simp only [vget, upd_same, putK_val hu]; rfl) e8 hlen fun B4 F' H' s ok5 => hE B4 F' σ H' ((g1.bb.trans (g2.bb.trans g3.bb)).trans s) ok5
                      · cases e6
                    · cases hf
                  · cases hf
        · cases hf
end
end DL

/-! DL41: a loop over a part of what is changed in it. -/
namespace DL
open PySem L2
theorem owns_flat_nil {Γ : Ga} {H : Hp} : ∀ {ds : List D} {vs : List V} {fp : List Addr}, flats ds = true → Owns Γ H ds vs fp → fp = []
  | [], _, _, _, h => h.2
  | d :: r, _, _, f, ⟨v, s, f1, f2, e, h1, h2, ef⟩ => by
    rw [flats, Bool.and_eq_true] at f
    rw [ef, own_flat_nil f.1 h1, owns_flat_nil f.2 h2]; rfl
section
variable {Γ : Ga} {x : Fx} {B : Hp} {F : Nat → List Addr} {ρ : Ev} {σ : St} {H : Hp}
/-- a thing that no slot holds is kept from now on -/
theorem Ok.addK (o : Ok Γ x B F ρ σ H) {a : Addr} (hb : B a = none) (hf : ∀ j, a ∉ F j) : Ok Γ { x with Kp := lkK x.Kp H [a] } B F ρ σ H where
  kp := lkK_same o.kp
  bh := o.bh
  tup := o.tup
  born := o.born
  bk := fun b u e => by
    rcases o.bk b u e with q | q
    · exact .inl q
    · have ha : b ∉ [a] := fun z => by rw [List.mem_singleton.mp z, hb] at e; cases e
      show _ ∨ lkK x.Kp H [a] b = none
      unfold lkK
      rw [q]
      simp only [if_neg ha]
      cases z : tupOf H b with
      | none => exact .inr rfl
      | some w =>
        obtain ⟨e1, xs, rfl⟩ := tupOf_some z
        rw [o.bh b u e] at e1
        cases e1
        exact .inl ⟨xs, rfl⟩
  dom := o.dom
  fk := fun j b hb' => by
    obtain ⟨h1, h2, h3⟩ := o.fk j b hb'
    exact ⟨lkK_none h1 (fun z => hf j (by rw [← List.mem_singleton.mp z]; exact hb')) (o.box hb'), h2, h3⟩
  dj := o.dj
  nd := o.nd
  out := o.out
  len := o.len
  at_ := fun j s hs => by
    have r := o.at_ j s hs
    cases s with
    | fz => obtain ⟨q1, v', q2, q3, q4⟩ := r; exact ⟨q1, v', q2, q3.mono lkK_old, q4⟩
    | fa => obtain ⟨q1, v', q2, q3⟩ := r; exact ⟨q1, v', q2, q3.mono lkK_old⟩
    | _ => exact r
/-- it goes back to its slot -/
theorem Ok.putBack {B1 : Hp} {F1 : Nat → List Addr} {ρ1 : Ev} {σ1 : St} {H1 : Hp} {a : Addr} {vs : List V} {ds : List D} {i : Nat} {p : List Stp} {d2 : D} (o : Ok Γ x B F ρ σ H) (o1 : Ok Γ { x with Kp := lkK x.Kp H [a] } B1 F1 ρ1 σ1 H1)
    (hr : relL ρ ρ1) (ha : H a = some (.lst vs)) (hds : Iss Γ (tupOf H) ds vs) (hfl : flats ds = true) (hk : x.Kp a = none) (hP : x.P a ∨ x.H0 a = none) (hi : ρ1[i]? = some (.ow d2)) (hw : dgets d2 p = some (.adr a)) :
    ∃ F2, Ok Γ x B1 F2 (ρ1.set i (.ow (dreps d2 p (.lst ds)))) σ1 H1 := by
  have hka : lkK x.Kp H [a] a = some (.lst vs) := by rw [lkK_at o.kp (by simp), ha]
  have hH1 : H1 a = some (.lst vs) := o1.kp a _ hka
  have hnF : ∀ j, a ∉ F1 j := fun j z => by
    have := (o1.fk j a z).1
    rw [show ({ x with Kp := lkK x.Kp H [a] } : Fx).Kp a = lkK x.Kp H [a] a from rfl, hka] at this
    cases this
  have hB1 : B1 a = none := by
    cases z : B1 a with
    | none => rfl
    | some u =>
      rcases o1.bk a u z with ⟨xs, rfl⟩ | q
      · have := o1.bh a _ z
        rw [hH1] at this
        cases this
      · rw [show ({ x with Kp := lkK x.Kp H [a] } : Fx).Kp a = lkK x.Kp H [a] a from rfl, hka] at q
        cases q
  have tk : TupK H H1 := fun b xs e => o1.kp b _ (by
    show lkK x.Kp H [a] b = _
    exact lkK_tup o.kp b _ (tupOf_tup e))
  obtain ⟨v, hv, hown, h0⟩ := o1.at_ i _ hi
  obtain ⟨v', _, ⟨l, fq, r, ef, ⟨rfl, rfl⟩, hre⟩⟩ := hown.parts hw
  have hlt := (List.getElem?_eq_some_iff.mp hi).1
  have hnew : Own Γ H1 (dreps d2 p (.lst ds)) v (l ++ [a] ++ r) := hre H1 (.lst ds) [a] (fun _ _ => rfl) (TupK.refl H1) ⟨a, vs, [], rfl, hH1, Owns.ofFlat hfl ((hds.mono tk.same).mono tupOf_same), rfl⟩
  have nd1 := o1.nd i
  rw [ef, List.append_nil] at nd1
  have memi : ∀ b, b ∈ l ++ [a] ++ r → b = a ∨ b ∈ F1 i := fun b hb => by
    rw [ef, List.append_nil]
    simp only [List.mem_append, List.mem_singleton] at hb ⊢
    rcases hb with (hb | hb) | hb
    · exact .inr (.inl hb)
    · exact .inl hb
    · exact .inr (.inr hb)
  refine ⟨onF F1 i (l ++ [a] ++ r), {
    kp := (lkK_old).trans o1.kp
    bh := o1.bh
    tup := o1.tup
    born := o1.born
    bk := fun b u e => by
      rcases o1.bk b u e with q | q
      · exact .inl q
      · exact .inr (Same.free lkK_old q)
    dom := o1.dom
    fk := fun j b hb => ?_
    dj := fun j k b h1 h2 => ?_
    nd := fun j => ?_
    out := fun j hj => ?_
    len := by rw [List.length_set, o1.len]
    at_ := fun j s hs => ?_ }⟩
  · unfold onF at hb
    split at hb
    · rcases memi b hb with rfl | hb
      · exact ⟨hk, hB1, hP⟩
      · obtain ⟨h1, h2, h3⟩ := o1.fk i b hb
        exact ⟨Same.free lkK_old h1, h2, h3⟩
    · obtain ⟨h1, h2, h3⟩ := o1.fk j b hb
      exact ⟨Same.free lkK_old h1, h2, h3⟩
  · unfold onF at h1 h2
    split at h1
    · split at h2
      · rename_i q1 q2; rw [q1, q2]
      · rename_i q1 q2
        rcases memi b h1 with rfl | h1
        · exact absurd h2 (hnF k)
        · rw [q1]; exact o1.dj i k b h1 h2
    · split at h2
      · rename_i q1 q2
        rcases memi b h2 with rfl | h2
        · exact absurd h1 (hnF j)
        · rw [q2]; exact o1.dj j i b h1 h2
      · exact o1.dj j k b h1 h2
  · unfold onF
    split
    · have hal : a ∉ l ++ r := fun z => hnF i (by rw [ef, List.append_nil]; exact z)
      rw [List.mem_append, not_or] at hal
      rw [List.nodup_append] at nd1
      rw [List.nodup_append, List.nodup_append]
      refine ⟨⟨nd1.1, by simp, fun b hb c hc e => ?_⟩, nd1.2.1, fun b hb c hc e => ?_⟩
      · rw [List.mem_singleton.mp hc] at e
        exact hal.1 (e ▸ hb)
      · rcases List.mem_append.mp hb with hb | hb
        · exact nd1.2.2 b hb c hc e
        · rw [List.mem_singleton.mp hb] at e
          exact hal.2 (e ▸ hc)
    · exact o1.nd j
  · rw [List.length_set] at hj
    unfold onF
    split
    · omega
    · exact o1.out j hj
  · by_cases q : j = i
    · subst q
      rw [List.getElem?_set_self hlt] at hs
      cases hs
      rw [show onF F1 j (l ++ [a] ++ r) j = l ++ [a] ++ r from if_pos rfl]
      exact ⟨v, hv, hnew, h0⟩
    · rw [List.getElem?_set_ne (Ne.symm q)] at hs
      rw [show onF F1 i (l ++ [a] ++ r) j = F1 j from if_neg q]
      have rr := o1.at_ j s hs
      obtain ⟨r1, r2⟩ := relL_at hr hs
      cases s with
      | fz d1 =>
        have e := r1 d1 rfl
        obtain ⟨_, v0, e1, e2, e3⟩ := o.at_ j _ e
        obtain ⟨q1, v', q2, q3, q4⟩ := rr
        have ev : v' = v0 := by
          have q4' : x.s0[j]? = some (some v') := q4
          rw [e3] at q4'
          cases q4'; rfl
        subst ev
        exact ⟨q1, v', q2, e2, q4⟩
      | fa d1 => exact absurd rfl (r2 d1)
      | _ => exact rr
end
open Classical in
/-- behind the loop: the part is the very list again -/
noncomputable def unP (ρ0 : Ev) (i : Nat) (p : List Stp) (a : Addr) (ds : List D) (r : Fl) : Option Ev := match r with
  | .nx ρ2 => if relL ρ0 ρ2 then match ρ2[i]? with
    | some (.ow d2) => if dgets d2 p = some (.adr a) then some (ρ2.set i (.ow (dreps d2 p (.lst ds)))) else none
    | _ => none
    else none
  | _ => none
noncomputable def runP (gg : GF) (g : SF) (i : Nat) (p : List Stp) (ds : List D) (d0 : D) (ρ : Ev) (a : Addr) : Option Ev := (forGo gg g .par ds (ρ.set i (.ow (dreps d0 p (.adr a))))).bind (unP (ρ.set i (.ow (dreps d0 p (.adr a)))) i p a ds)
open Classical in
/-- for .. in P: g, P a list of flat things that is a part of what is changed, itself not changed -/
noncomputable def sForP (i : Nat) (w : WF) (gg : GF) (g : SF) : SF := fun ρ => (w ρ).bind fun p => match ρ[i]? with
  | some (.ow d0) => match dgets d0 p with
    | some (.lst ds) => if h : flats ds = true ∧ ∃ r, ∀ a, runP gg g i p ds d0 ρ a = some r then some (.nx h.2.choose) else none
    | _ => none
  | _ => none
section
variable {cm : Nat → Addr} {X : Cx} {pos : Pos} {g : SF} {i : Nat} {w : WF}
theorem pus_forP {tg iter : Expr} {body : List Stmt} {js : List Nat} {gg : GF} (hP : PuL cm X iter i w) (hg : PuG cm X tg js gg) (hb : PuB cm X body g) (hp : PassesOwn (model X.prog X.w) X.A X.env X.xe := by exact PassesOwn.never) (hc : X.calm = true := by rfl) (hs : ∀ x, foldedSetIterable iter X.env x = pure x := by intro _; rfl) : PuS cm X (.For tg iter body [] pos) (sForP i w gg g) := by
  obtain ⟨t, p1, q⟩ := hP
  obtain ⟨tg', p2, q2⟩ := hg
  obtain ⟨tb, p3, q3⟩ := hb
  refine ⟨_, ps_for hp hc (pi_list p1) p2 p3 hs, fun x B F ρ σ H r E ok hf hE => ?_⟩
  unfold sForP at hf
  cases e1 : w ρ with
  | none => rw [e1] at hf; cases hf
  | some pth =>
    rw [e1] at hf
    simp only [Option.bind_some] at hf
    split at hf
    · rename_i d0 hi
      split at hf
      · rename_i ds hd
        split at hf
        · rename_i hcond
          obtain ⟨hfl, hex⟩ := hcond
          cases hf
          have hall := hex.choose_spec
          generalize hex.choose = ρr at hall hE
          have ho0 : ownD ρ i = some d0 := by unfold ownD; rw [hi]
          have ew : wayD ρ i pth = some (.lst ds) := by unfold wayD; rw [ho0]; exact hd
          have hset : ∀ d, setOwn ρ i d = ρ.set i (.ow d) := fun d => by unfold setOwn; rw [hi]
          refine q x B F ρ σ H pth _ _ ok e1 ew fun v v0 B1 H1 g1 ok1 hv0 hg1 => ?_
          obtain ⟨d0', l, fq, rr, e0, eF, ho, hk⟩ := ok1.part ew hv0 hg1
          rw [ho0] at e0
          cases e0
          obtain ⟨a, vs, fr, rfl, h1, h2, rfl⟩ := own_lst ho
          cases owns_flat_nil hfl h2
          obtain ⟨_, _, ea, k1, k2⟩ := ho.is
          cases ea
          rw [h1] at k1
          cases k1
          have hds : Iss (gx X cm) (tupOf H1) ds vs := Iss.ofFlat hfl k2
          have hma : a ∈ F i := by rw [eF]; simp
          obtain ⟨f1, f2, f3⟩ := ok1.fk i a hma
          have nd := ok1.nd i
          rw [eF] at nd
          have hna : a ∉ l ++ [] ++ rr := fun z => by
            rw [List.nodup_append, List.nodup_append] at nd
            rw [List.append_nil] at z
            rcases List.mem_append.mp z with z | z
            · exact nd.1.2.2 a z a (by simp) rfl
            · exact nd.2.2 a (by simp) a z rfl
          have ok2 := ok1.write (d' := dreps d0 pth (.adr a)) (fp := l ++ [] ++ rr) ho0 hv0 (fun b u _ e => e) (fun b e => e) (fun b xs e => e) (hk H1 (.adr a) [] (fun _ _ => rfl) (TupK.refl H1) ⟨rfl, rfl⟩) (by
              rw [List.nodup_append, List.nodup_append] at nd
              rw [List.append_nil, List.nodup_append]
              exact ⟨nd.1.1, nd.2.1, fun b hb c hc => nd.2.2 b (List.mem_append_left _ hb) c hc⟩) fun b hb => .inl (by
              rw [eF]
              simp only [List.mem_append, List.not_mem_nil, or_false] at hb ⊢
              rcases hb with hb | hb
              · exact .inl (.inl hb)
              · exact .inr hb)
          rw [hset] at ok2
          have hnF : ∀ j, a ∉ onF F i (l ++ [] ++ rr) j := fun j z => by
            unfold onF at z
            split at z
            · exact hna z
            · rename_i hj; exact hj (ok1.dj j i a z hma)
          have ok3 := ok2.addK f2 hnF
          refine ⟨a, rfl, ⟨vs, SqL.of h1⟩, ?_⟩
          have hRg : lkK x.Kp H1 [a] a = some (.lst vs) := by rw [lkK_at ok1.kp (by simp), h1]
          have S : Src (gx X cm) (lkK x.Kp H1 [a]) ds (Itl (gx X cm).K a) := src_list hRg (hds.mono (lkK_tup ok1.kp))
          have hra := hall a
          unfold runP at hra
          cases er0 : forGo gg g .par ds (ρ.set i (.ow (dreps d0 pth (.adr a)))) with
          | none => rw [er0] at hra; cases hra
          | some r0 =>
            rw [er0] at hra
            simp only [Option.bind_some] at hra
            have fin : ∀ {B2 F2 ρ2 σ2 H2}, Same B1 B2 → Ok (gx X cm) { x with Kp := lkK x.Kp H1 [a] } B2 F2 ρ2 σ2 H2 → r0 = .nx ρ2 → E.nx σ2 H2 := fun {B2 F2 ρ2 σ2 H2} bb o2 e => by
              subst e
              unfold unP at hra
              simp only at hra
              split at hra
              · rename_i hrl
                split at hra
                · rename_i d2 hi2
                  split at hra
                  · rename_i hw2
                    cases hra
                    obtain ⟨F3, ok5⟩ := ok2.putBack o2 hrl h1 hds hfl f1 f3 hi2 hw2
                    exact hE B2 F3 σ2 H2 (g1.bb.trans bb) ok5
                  · cases hra
                · cases hra
              · cases hra
            refine ⟨fun k mm σ H => mm = ds.length - k ∧ k ≤ ds.length ∧ ∃ B F ρ, Ok (gx X cm) { x with Kp := lkK x.Kp H1 [a] } B F ρ σ H ∧ Same B1 B ∧ forGo gg g .par (ds.drop k) ρ = some r0, ⟨ds.length, by simp, Nat.zero_le _, B1, _, _, ok3, Same.refl B1, by simpa using er0⟩, ?_⟩
            rintro k mm σ2 H2 ⟨rfl, hk', B2, F2, ρ2, o2, bb, er⟩
            by_cases hlt : k < ds.length
            · have ed : ds[k]? = some ds[k] := List.getElem?_eq_getElem hlt
              rw [List.drop_eq_getElem_cons hlt, forGo] at er
              cases h1' : gg ds[k] (effm .par ds[k]) ρ2 with
              | none => rw [h1'] at er; cases er
              | some ρ3 =>
                rw [h1'] at er
                simp only [Option.bind_some] at er
                cases h2' : g ρ3 with
                | none => rw [h2'] at er; cases er
                | some r3 =>
                  rw [h2'] at er
                  simp only [Option.bind_some] at er
                  obtain ⟨hgo, hy⟩ := Src.item2 (x := { x with Kp := lkK x.Kp H1 [a] }) (m := .par) (B0 := B1) (H0 := H1) S rfl o2 bb ed
                  refine .inr ⟨hgo, fun σ H => k + 1 ≤ ds.length ∧ ∃ B F ρ, Ok (gx X cm) { x with Kp := lkK x.Kp H1 [a] } B F ρ σ H ∧ Same B1 B ∧ forGo gg g .par (ds.drop (k + 1)) ρ = some r0, fun σ' H' h => ⟨_, by omega, rfl, h⟩, fun v H3 y => ?_⟩
                  obtain ⟨B3, g3, o3, hv⟩ := hy v H3 y
                  refine q2 _ B3 F2 ρ2 ρ3 σ2 H3 _ _ v _ o3 hv h1' fun F4 σ4 o4 _ _ => ?_
                  refine q3 _ B3 F4 ρ3 σ4 H3 r3 _ o4 h2' ?_
                  have b13 : Same B1 B3 := bb.trans g3.bb
                  cases r3 with
                  | nx ρ4 => exact fun B' F' σ' H' s o' => ⟨hlt, B', F', ρ4, o', b13.trans s, er⟩
                  | ct ρ4 => exact fun B' F' σ' H' s o' => ⟨hlt, B', F', ρ4, o', b13.trans s, er⟩
                  | bk ρ4 => exact fun B' F' σ' H' s o' => fin (b13.trans s) o' (by cases er; rfl)
                  | rt d ρ4 => cases er; unfold unP at hra; cases hra
            · have ei : k = ds.length := by omega
              subst ei
              rw [List.drop_length] at er
              have er : r0 = .nx ρ2 := by rw [forGo] at er; cases er; rfl
              have s : Same (lkK x.Kp H1 [a]) H2 := o2.kp
              exact .inl ⟨S.stop _ _ s (Nat.le_refl _), fin bb o2 er⟩
        · cases hf
      · cases hf
    · cases hf
end
/-! ### reckoned with -/
theorem wp_forP {i : Nat} {w : WF} {gg : GF} {g : SF} {ρ ρr : Ev} {p : List Stp} {d0 : D} {ds : List D} {Ψ : Fl → Prop} (hw : w ρ = some p) (hi : ρ[i]? = some (.ow d0)) (hd : dgets d0 p = some (.lst ds)) (hfl : flats ds = true) (P : Addr → Nat → Ev → Prop)
    (h0 : ∀ a, P a 0 (ρ.set i (.ow (dreps d0 p (.adr a))))) (h : ∀ a k d ρ', ds[k]? = some d → P a k ρ' → Sg gg d (effm .par d) ρ' fun ρ1 => Wp g ρ1 (FrK (P a (k + 1)) fun _ => False))
    (he : ∀ a ρ', P a ds.length ρ' → relL (ρ.set i (.ow (dreps d0 p (.adr a)))) ρ' ∧ ∃ d2, ρ'[i]? = some (.ow d2) ∧ dgets d2 p = some (.adr a) ∧ ρ'.set i (.ow (dreps d2 p (.lst ds))) = ρr) (hΨ : Ψ (.nx ρr)) : Wp (sForP i w gg g) ρ Ψ := by
  have key : ∀ a, runP gg g i p ds d0 ρ a = some ρr := fun a => by
    obtain ⟨r, h1, h2⟩ := forGo_wp (P a) (ds := ds) (ρ := ρ.set i (.ow (dreps d0 p (.adr a)))) (g := gg) (b := g) (m := .par) (Ψ := fun r => ∃ ρ', r = .nx ρ' ∧ P a ds.length ρ') 0 (h0 a) (fun k d ρ' e q => by
      rw [Nat.zero_add] at q ⊢
      obtain ⟨ρ1, s1, r, s2, s3⟩ := h a k d ρ' e q
      refine ⟨ρ1, s1, r, s2, ?_⟩
      cases r with
      | nx _ => exact s3
      | ct _ => exact s3
      | bk _ => exact (s3 : False).elim
      | rt _ _ => exact (s3 : False).elim) (fun ρ' q => ⟨ρ', rfl, by rw [Nat.zero_add] at q; exact q⟩)
    obtain ⟨ρ', rfl, q⟩ := h2
    obtain ⟨q1, d2, q2, q3, q4⟩ := he a ρ' q
    unfold runP
    rw [h1]
    simp only [Option.bind_some, unP, q2, if_pos q1, if_pos q3, q4]
  refine ⟨.nx ρr, ?_, hΨ⟩
  unfold sForP
  rw [hw]
  simp only [Option.bind_some, hi, hd]
  have hc : flats ds = true ∧ ∃ r, ∀ a, runP gg g i p ds d0 ρ a = some r := ⟨hfl, ρr, key⟩
  rw [dif_pos hc]
  have := hc.2.choose_spec 0
  rw [key 0] at this
  rw [← Option.some.inj this]
theorem se_sdApp {i : Nat} {w : WF} {fk : EF} {nf : NF} {ρ ρ1 ρ2 : Ev} {p : List Stp} {kvs : List (Key × D)} {k : D} {key : Key} {ds : List D} {y : D} (hw : w ρ = some p) (hd : wayD ρ i p = some (.dic kvs)) (hk : Vf fk ρ k) (hkey : keyOf k = some key) (h1 : sdSt i ρ p kvs key = some ρ1) (hd1 : wayD ρ1 i (p ++ [.ky key]) = some (.lst ds))
    (hy : Ne nf ρ1 y) (hl : ds.length < 16777216) (h2 : putW ρ1 i (p ++ [.ky key]) (.lst (ds ++ [y])) = some ρ2) : Se (sSdApp i w fk nf) ρ (.nx ρ2) := by
  obtain ⟨m, hk⟩ := hk
  unfold Ve at hk; unfold Ne at hy; unfold Se sSdApp
  rw [hw]
  simp only [Option.bind_some, hd, hk, hkey, h1, hd1, hy, if_pos hl, h2]
  rfl
end DL

/-! DL42: exceptions in the heap's terms: several named clauses, an own class's __init__ read off another own class, isinstance and a field of what is caught. -/
namespace DL
open PySem L2 PySem.Spec PyProof.Rows
abbrev HTs := Addr → Value → Option Addr → TS
/-- the ends of a suite whose name goes -/
def offE (i : Nat) (D : Ends) : Ends := { nx := fun τ G => D.nx (τ.set i none) G, rt := D.rt, bk := fun τ G => D.bk (τ.set i none) G, ct := fun τ G => D.ct (τ.set i none) G }
def wManyA (K : PySem.W.Frag) (i : Nat) (Wo : WX) (D : Ends) : List (Value × HTs) → WX
  | [] => Wo
  | q :: l => fun k d τ G => ∃ y, PySem.W.exmOne K k q.1 = some y ∧ (y = true → ∀ e, G e = none → q.2 e k d (offE i D) (τ.set i (some (.ref e))) G) ∧ (y = false → wManyA K i Wo D l k d τ G)
/-- the suite of a clause is read by q -/
def SuR (X : Cx) (su : List Stmt) (q : HTs) : Prop := ∀ (e : Addr) (oe : Obj) (k : Value) (d : Option Addr) (pn : List (Addr × Obj)), Zc k d oe → (∃ vs, oe.data = .fields vs) → PSs (X.suite e ((e, oe) :: pn)) su (q e k d)
inductive HdsA (X : Cx) (n : Str) : List ExceptHandler → List (Value × HTs) → Prop
  | nil : HdsA X n [] []
  | cons {x : Str} {c : Value} {q : HTs} {b0 : Stmt} {su : List Stmt} {np p2 : Pos} {hds : List ExceptHandler} {l : List (Value × HTs)} (hc : Names X x c) (hq : SuR X (b0 :: su) q) (r : HdsA X n hds l) :
      HdsA X n (.ExceptHandler (some (.Name x np)) (some n) (b0 :: su) p2 :: hds) ((c, q) :: l)
section
variable {X : Cx} {n : Str} {i : Nat} {body : List Stmt} {hd0 : ExceptHandler} {hdr : List ExceptHandler} {l : List (Value × HTs)} {pos : Pos} {tb : WX → TS} {Wo : WX}
theorem ps_try_asm (hst : X.stack = X.env :: X.outer) (hfm : X.env.frame = some X.env.locals) (nd : X.N.Nodup) (hi : X.N[i]? = some n) (hln : X.env.kindOf n = some .local) (tk : Takes X Wo)
    (hb : ∀ (W : WX) (pn : List (Addr × Obj)) (xe : Value → Shared → Prop), Takes (X.tr pn xe) W → PassesOwn (model X.prog X.w) X.A X.env xe → PSs (X.tr pn xe) body (tb W)) (hh : HdsA X n (hd0 :: hdr) l) :
    PS X (.Try body (hd0 :: hdr) [] [] pos) (fun D τ G => tb (wManyA X.K i Wo D l) D τ G) := by
  refine ⟨fun pins s0 τ G D I hw => ?_⟩
  have okX := I.ok
  have hA : X.A.frames = some (X.env :: X.outer) := by rw [okX.frames, hst]
  refine wpAny_Try_except ?_
  have catch_ : ∀ u sx, XE (X.tr (X.pn ++ pins) (fun v sy => wpAny (model X.prog X.w) X.A (noteFrame v X.env) (fun _ sz => wpAny (model X.prog X.w) X.A (setFlight v none) (fun _ sw => wpAny (model X.prog X.w) X.A (handleBy v X.env (hd0 :: hdr)) (SP X pins D) X.xe sw) X.xe sz) X.xe sy))
      (wManyA X.K i Wo D l) u sx → wpAny (model X.prog X.w) X.A (noteFrame u X.env) (fun _ sz => wpAny (model X.prog X.w) X.A (setFlight u none) (fun _ sw => wpAny (model X.prog X.w) X.A (handleBy u X.env (hd0 :: hdr)) (SP X pins D) X.xe sw) X.xe sz) X.xe sx := by
    intro u sx ⟨e, B, sI, pins', τ1, G1, k, d, eu, J0, nb, up, sky, na, os, ag, w⟩
    subst eu
    have J : Inv X pins τ1 G1 sI := J0.ofTry okX
    have sky2 : Sky B (X.env :: X.outer) e (Zc k d) X.env.locals sx.heap := by rw [← hst]; exact sky
    refine Sky.land Zc.steady hA hfm sky2 fun h3 fl3 up3 => ?_
    have J3 : Inv X pins τ1 G1 { sx with heap := h3 } := J.landed nb fl3.1 (up.trans up3) os ag
    obtain ⟨oe3, vs3, he3, hz3, hd3⟩ := fl3.there
    have nfr : e ∉ frs (X.env :: X.outer) := fun hm => by
      obtain ⟨_, o2, e2, hnf⟩ := fl3.2.2.1.mem hm
      rw [he3] at e2
      cases e2
      exact hnf _ hd3
    have nL : e ≠ X.env.locals := fun z => nfr (List.mem_filterMap.mpr ⟨X.env, List.mem_cons_self, by rw [hfm, z]⟩)
    have nF : e ∉ X.fs := fun hm => by
      obtain ⟨v, hv, z⟩ := List.mem_filterMap.mp hm
      exact nfr (List.mem_filterMap.mpr ⟨v, List.mem_cons_of_mem _ hv, z⟩)
    have S3 := J3.suite he3 hd3 na nL nF
    have go : ∀ {hs2 : List ExceptHandler} {l2 : List (Value × HTs)}, HdsA X n hs2 l2 → wManyA X.K i Wo D l2 k d τ1 G1 → wpAny (model X.prog X.w) X.A (handleBy (.ref e) X.env hs2) (SP X pins D) X.xe { sx with heap := h3 } := by
      intro hs2 l2 hk
      induction hk with
      | nil =>
        intro w2
        refine wpAny_handleBy_nil ?_
        obtain ⟨k1, k2, k3, oe, vs, T, oT, tl, he, hz, hd, h1, hr⟩ := id fl3
        unfold PySem.passOn
        refine wpAny_bind (wpAny_field he hd h1 ?_)
        rw [if_neg (show ¬ ((Value.ref T == Value.none) = true) by simp)]
        have fin : wpAny (model X.prog X.w) X.A (setFlight (.ref e) X.env.frame) (fun _ sw => wpAny (model X.prog X.w) X.A (throw (.ref e) : Sem Flow) (SP X pins D) X.xe sw) X.xe { sx with heap := h3 } := by
          rw [hfm]
          exact HandSPX.setFlight_upZ fl3 fun h4 hh4 up4 => wpAny_throw (tk _ _ ⟨e, B, sI, pins, τ1, G1, k, d, rfl, J, nb, (up.trans up3).trans up4, .inr (.inr (by rw [hst]; exact hh4)), na, os, ag, w2⟩)
        first | exact wpAny_bind (wpAny_pure (wpAny_bind fin)) | exact wpAny_bind fin
      | @cons x c q b0 su np p2 hds r hc hq hr ih =>
        intro w2
        obtain ⟨y, hy, hyes, hno⟩ := w2
        refine wpAny_handleBy_cons (codeAny_handlers_test ?_) (fun z => by cases z)
        have LT : PySem.W.Looks (model X.prog X.w) h3 (typeOf (.ref e)) k := fun _ _ _ _ kp z => wpAny_typeOf_ref (kp _ _ he3) (by rw [hz3.1]; exact z)
        have LM := PySem.W.exm_one (M := model X.prog X.w) J3.kIn LT hy
        have test : ∀ {Q E : Value → Shared → Prop}, Q c { sx with heap := h3 } → wpAny (model X.prog X.w) (X.A.mark (some (.ref e))) (eval (.Name x np) X.env) Q E { sx with heap := h3 } := fun {Q E} z => by
          obtain ⟨hg, hdb, hm | ⟨hm, hv, hn⟩⟩ := hc
          · exact ld_glob (X := X.suite e ((e, oe3) :: (X.pn ++ pins))) S3 hg hm z hdb
          · exact ld_blt (X := X.suite e ((e, oe3) :: (X.pn ++ pins))) S3 hg hm hv z hn hdb
        refine test (LM.here ?_)
        cases y with
        | false => exact ih (hno rfl)
        | true =>
          refine codeAny_handlers_suite_as (HandSPX.lands_againZ fl3 fun h4 fl4 up4 => ?_)
          have J4 : Inv X pins τ1 G1 { sx with heap := h4 } := J.landed nb fl4.1 ((up.trans up3).trans up4) os ag
          obtain ⟨oe4, vs4, he4, hz4, hd4⟩ := fl4.there
          have S4 := J4.suite he4 hd4 na nL nF
          refine store_ok (X := X.suite e ((e, oe4) :: (X.pn ++ pins))) (v := .ref e) S4 nd hi (.inl hln) rfl (fun s5 S5 => ?_) (.inr hln)
          refine wpAny_mono ((hq e oe4 k d (X.pn ++ pins) hz4 ⟨_, hd4⟩).run [] s5 _ G1 _ S5 (hyes rfl e na)) (fun f s6 hsp => ?_) (fun _ _ z => False.elim z)
          have end_ : ∀ {τ6 : L2.St} {G6 : Hp} {Q : Shared → Prop}, Inv (X.suite e ((e, oe4) :: (X.pn ++ pins))) [] τ6 G6 s6 → (∀ s7, Inv X pins (τ6.set i none) G6 s7 → Q s7) → wpAny (model X.prog X.w) X.A (do bindName X.env n .none; unbindBehindTheSuite X.env n p2) (fun _ s7 => Q s7) X.xe s6 :=
            fun {τ6 G6 Q} S6 hq6 => gone_ok (S6.unsuite okX) nd hi hln hq6
          cases f with
          | ret u => obtain ⟨v6, τ6, G6, S6, r6, q6⟩ := hsp; exact end_ S6 fun s7 J7 => ⟨_, _, _, J7, r6, q6⟩
          | next => obtain ⟨τ6, G6, S6, q6⟩ := hsp; exact end_ S6 fun s7 J7 => ⟨_, _, J7, q6⟩
          | brk => obtain ⟨τ6, G6, S6, q6⟩ := hsp; exact end_ S6 fun s7 J7 => ⟨_, _, J7, q6⟩
          | cont => obtain ⟨τ6, G6, S6, q6⟩ := hsp; exact end_ S6 fun s7 J7 => ⟨_, _, J7, q6⟩
    exact go hh w
  refine wpAny_mono ((hb (wManyA X.K i Wo D l) (X.pn ++ pins) _ (fun u sx xx => catch_ u sx xx) PassesOwn.looking).run [] s0 τ G D (I.toTry _) hw) (fun f s1 hsp => ?_) (fun _ _ he => he)
  cases f with
  | next => obtain ⟨τ2, G2, J2, q⟩ := hsp; exact wpAny_execs_nil ⟨τ2, G2, J2.ofTry okX, q⟩
  | ret u => obtain ⟨v, τ2, G2, J2, r, q⟩ := hsp; exact ⟨v, τ2, G2, J2.ofTry okX, r, q⟩
  | brk => obtain ⟨τ2, G2, J2, q⟩ := hsp; exact ⟨τ2, G2, J2.ofTry okX, q⟩
  | cont => obtain ⟨τ2, G2, J2, q⟩ := hsp; exact ⟨τ2, G2, J2.ofTry okX, q⟩
end

/-- a class whose __init__ is ValueError's, read by its name -/
structure PinC (K : PySem.W.Frag) (C : Addr) : Prop where
  rd : ∃ mc, PySem.W.readsIn K C mc = true ∧ PySem.W.findCls K (.ref C) mc "__init__" = some (.val (.builtin "ValueError.__init__"))
  ga : PySem.W.specialIn K (.ref C) "__getattribute__" = some (some (.builtin "type.__getattribute__"))
theorem pinC_mk {K : PySem.W.Frag} {C : Addr} {mc : Value} (h1 : PySem.W.readsIn K C mc = true) (h2 : PySem.W.findCls K (.ref C) mc "__init__" = some (.val (.builtin "ValueError.__init__")))
    (h3 : PySem.W.specialIn K (.ref C) "__getattribute__" = some (some (.builtin "type.__getattribute__"))) : PinC K C := ⟨⟨mc, h1, h2⟩, h3⟩
theorem pe_pinit {X : Cx} {x : Str} {C : Addr} {e : Expr} {es : List Expr} {ta : TA} {p1 p2 pos : Pos} {pl : Sem Bool} (z : PinC X.K C) (hm : X.mg x = some (.ref C)) (ha : PA X (e :: es) ta) (hg : Gl X x := by rfl)
    (hdb : (x == ("__debug__" : Str)) = false := by decide)
    (hev : eval (.Call (.Attribute (.Name x p1) "__init__" p2) (e :: es) [] pos) X.env = (do
      let ov ← eval (.Name x p1) X.env
      standAt p2.atName
      let (fn, fst) ← holding [ov] (getMethod ov "__init__" pl)
      callWith pos fn fst (backTo pos (starEach (e :: es) X.env)) (backToKw pos (keywordEach [] X.env))) := by rfl)
    (hse : starEach (e :: es) X.env = (false, eval e X.env) :: starEach es X.env := by rfl) (hpl : (backTo pos (starEach es X.env)).any (·.1) = false := by rfl) :
    PE X (.Call (.Attribute (.Name x p1) "__init__" p2) (e :: es) [] pos) (tVeI X.K ta) := by
  obtain ⟨mc, hrd, hfc⟩ := z.rd
  refine ⟨fun pins s τ G Q I h => PySem.W.methodCall_KW (ld_glob I hg hm ?_ hdb) hev⟩
  refine PySem.W.method_cls I.kIn z.ga (PySem.W.cls_value I.kIn hrd hfc (by decide +kernel) ?_)
  show wpAny _ _ (callWith pos (Value.builtin "ValueError.__init__") [] (backTo pos (starEach (e :: es) X.env)) []) _ _ _
  refine PyProof.Rows.callWith_method1 (thn (ha.run pos pins _ τ G _ (I.tok _) h) fun us s1 ⟨vs, G1, I1, r1, a, C1, ws, ev, hl, T, ea, q⟩ => ?_) hse hpl
  subst ev
  cases r1 with
  | @cons _ u0 _ ur ra rw' =>
    obtain rfl : u0 = Value.ref a := ra
    have hlen : ur.length ≤ sizeLine := by
      have e1 := Paired.length rw'
      rw [sizeLine_eq]
      omega
    exact oinit_ok T I1 ea hlen fun s2 J => ⟨.non, G1, J, rfl, q⟩

/-- isinstance(e, c) of what the suite holds -/
def rIsX (K : PySem.W.Frag) (k : Value) (a : Addr) : List V → Hp → VK → Prop := fun xs G Q => ∃ (c : V) (cv : Value) (b : Bool), xs = [.ref a, c] ∧ (∀ u, RelV c u → u = cv) ∧ PySem.W.kitOne K k cv = some b ∧ Q (.bl b) G
/-- what a class must have for it -/
structure IsxC (K : PySem.W.Frag) (C : Addr) : Prop where
  hg : PySem.W.findIn K (.ref C) "__getattribute__" = some (some (.builtin "BaseException.__getattribute__"))
  hk : PySem.W.findIn K (.ref C) "__getattr__" = some none
  hs : PySem.W.subIn K (.ref C) (.type "BaseException") = some true
  hc : (PySem.W.clsIn K C).isSome = true
  ha : PySem.W.findIn K (.ref C) "__class__" = some (some (.builtin "object.__class__"))
  hn : PySem.W.specialIn K (.builtin "object.__class__") "__get__" = some (some (.builtin "getset_descriptor.__get__"))
  ht : PySem.W.takesIn K (.builtin "object.__class__") = some true
  hm : PySem.W.mroIn K C (.type "object") = some true
theorem call_isX {X : Cx} {a C : Addr} {d : Option Addr} {oe : Obj} {pn : List (Addr × Obj)} (z : IsxC X.K C) (hz : Zc (.ref C) d oe) (hf : ∃ vs, oe.data = .fields vs) :
    CallR (X.suite a ((a, oe) :: pn)) (.builtin "isinstance") (fun xs G Q => (∀ b, d = some b → ∃ fs, G b = some (.xd fs)) ∧ rIsX X.K (.ref C) a xs G Q) := by
  intro pins s τ G xs us Q I r h
  obtain ⟨hdd, c, cv, b, rfl, hcv, e, q⟩ := h
  cases r with
  | cons rx rr =>
    cases rr with
    | cons rt rr =>
      cases rr
      cases rx
      cases hcv _ rt
      obtain ⟨hget, _⟩ := I.pin (a, oe) (List.mem_append.mpr (.inl List.mem_cons_self))
      obtain ⟨vs, hv⟩ := hf
      have hnc : PySem.W.notCls oe := by unfold PySem.W.notCls; rw [hv] <;> rfl
      have J : ∃ od, PySem.W.InstAt s.heap a oe C od := by
        cases d with
        | none => exact ⟨none, hget, hz.1, hnc, by rw [hz.2]; trivial⟩
        | some b' =>
          obtain ⟨fs, hb⟩ := hdd b' rfl
          obtain ⟨mA, hns, hr⟩ := (show ObjOk X.prog X.w G s.heap b' (.xd fs) from I.hok b' _ hb)
          obtain ⟨od, ho, hl⟩ := lookIn_ns hns
          exact ⟨some od, hget, hz.1, hnc, by rw [hz.2]; exact ho⟩
      obtain ⟨od, J⟩ := J
      exact PySem.W.kia_one (PySem.W.kitx_exc z.hc z.hg z.hk z.hs z.ha z.hn z.ht z.hm) I.kIn J e (fun w => nomatch w) fun tk => ⟨.bl b, G, I.kept (t' := tk) fun _ _ w => w, rfl, q⟩
end DL

/-! DL43: statements and defs that may raise, as functions of data. -/
namespace DL
open PySem L2

/-- what a statement comes to: an end of the usual kind, or an exception of the class number n with a field `at` or none -/
inductive Fr where
  | fl (r : Fl) | ex (n : Nat) (o : Option D) (ρ : Ev)
abbrev XF := Ev → Option Fr
/-- the exception's own dict -/
def ExD (R : Hp) (o : Option D) (dd : Option Addr) : Prop := match o with
  | none => dd = none
  | some d => ∃ a v, dd = some a ∧ R a = some (.xd [("at", v)]) ∧ atomV d = some v
theorem ExD.mono {R R' : Hp} {o : Option D} {dd : Option Addr} (s : Same R R') (h : ExD R o dd) : ExD R' o dd := by
  cases o with
  | none => exact h
  | some d =>
    obtain ⟨a, v, e, h1, h2⟩ := h
    exact ⟨a, v, e, s _ _ h1, h2⟩
def PostX (Γ : Ga) (x : Fx) (B0 : Hp) (W : WX) (r : Fr) (E : Ends) : Prop := match r with
  | .fl r => Post Γ x B0 r E
  | .ex n o ρ => ∀ dd B F σ H, Same B0 B → Ok Γ x B F ρ σ H → ExD B o dd → (∀ a, dd = some a → B0 a = none) → W (.ref (Γ.cm n)) dd σ H
theorem PostX.mono {Γ : Ga} {x : Fx} {B0 B1 : Hp} {W : WX} {r : Fr} {E : Ends} (s : Same B0 B1) (h : PostX Γ x B0 W r E) : PostX Γ x B1 W r E := by
  cases r with
  | fl r => exact Post.mono s h
  | ex n o ρ => exact fun dd B F σ H s' ok hd hn => h dd B F σ H (s.trans s') ok hd fun a e => s.free (hn a e)
def PuSX (cm : Nat → Addr) (X : Cx) (W : WX) (st : Stmt) (g : XF) : Prop :=
  ∃ t, PS X st t ∧ ∀ (x : Fx) (B : Hp) (F : Nat → List Addr) (ρ : Ev) (σ : St) (H : Hp) (r : Fr) (E : Ends), Ok (gx X cm) x B F ρ σ H → g ρ = some r → PostX (gx X cm) x B W r E → t E σ H
def PuBX (cm : Nat → Addr) (X : Cx) (W : WX) (st : List Stmt) (g : XF) : Prop :=
  ∃ t, PSs X st t ∧ ∀ (x : Fx) (B : Hp) (F : Nat → List Addr) (ρ : Ev) (σ : St) (H : Hp) (r : Fr) (E : Ends), Ok (gx X cm) x B F ρ σ H → g ρ = some r → PostX (gx X cm) x B W r E → t E σ H
def PuEX (cm : Nat → Addr) (X : Cx) (W : WX) (e : Expr) (f : Ev → Option ((D × Md) ⊕ (Nat × Option D))) : Prop :=
  ∃ t, PE X e t ∧ ∀ (x : Fx) (B : Hp) (F : Nat → List Addr) (ρ : Ev) (σ : St) (H : Hp) (r : (D × Md) ⊕ (Nat × Option D)) (Q : VK), Ok (gx X cm) x B F ρ σ H → f ρ = some r →
    (∀ d m, r = .inl (d, m) → ∀ v B' H', Gr B H B' H' → Ok (gx X cm) x B' F ρ σ H' → Val (gx X cm) x m B' H' d v → Q v H') →
    (∀ n o, r = .inr (n, o) → ∀ dd B' H', Gr B H B' H' → Ok (gx X cm) x B' F ρ σ H' → ExD B' o dd → (∀ a, dd = some a → B a = none) → W (.ref (cm n)) dd σ H') → t σ H Q
/-- what never raises -/
def xUp (g : SF) : XF := fun ρ => (g ρ).map .fl
theorem xUp_some {g : SF} {ρ : Ev} {r : Fr} (h : xUp g ρ = some r) : ∃ r0, g ρ = some r0 ∧ r = .fl r0 := by
  unfold xUp at h
  cases e : g ρ with
  | none => rw [e] at h; cases h
  | some r0 => rw [e] at h; cases h; exact ⟨r0, rfl, rfl⟩
section
variable {cm : Nat → Addr} {X : Cx} {W : WX} {pos : Pos} {st : Stmt} {sts : List Stmt} {e : Expr} {f : EF} {g h : XF}
theorem pusx_up {g : SF} (hs : PuS cm X st g) : PuSX cm X W st (xUp g) := by
  obtain ⟨t, p, q⟩ := hs
  refine ⟨t, p, fun x B F ρ σ H r E ok hf hE => ?_⟩
  obtain ⟨r0, e0, rfl⟩ := xUp_some hf
  exact q x B F ρ σ H r0 E ok e0 hE
theorem pubx_up {g : SF} (hs : PuB cm X sts g) : PuBX cm X W sts (xUp g) := by
  obtain ⟨t, p, q⟩ := hs
  refine ⟨t, p, fun x B F ρ σ H r E ok hf hE => ?_⟩
  obtain ⟨r0, e0, rfl⟩ := xUp_some hf
  exact q x B F ρ σ H r0 E ok e0 hE
/-- a block that does not raise after all -/
def dn (g : XF) : SF := fun ρ => (g ρ).bind fun r => match r with
  | .fl r => some r
  | _ => none
theorem dn_some {g : XF} {ρ : Ev} {r : Fl} (h : dn g ρ = some r) : g ρ = some (.fl r) := by
  unfold dn at h
  cases e : g ρ with
  | none => rw [e] at h; cases h
  | some r0 =>
    rw [e] at h
    cases r0 with
    | fl r1 => cases h; rfl
    | ex => cases h
theorem pus_dn {g : XF} (hs : PuSX cm X W st g) : PuS cm X st (dn g) := by
  obtain ⟨t, p, q⟩ := hs
  exact ⟨t, p, fun x B F ρ σ H r E ok hf hE => q x B F ρ σ H _ E ok (dn_some hf) hE⟩
def xSeq (g h : XF) : XF := fun ρ => (g ρ).bind fun r => match r with
  | .fl (.nx ρ') => h ρ'
  | r => some r
theorem pubx_one (hs : PuSX cm X W st g) : PuBX cm X W [st] g := by
  obtain ⟨t, p, q⟩ := hs
  exact ⟨t, pss_one p, q⟩
theorem pubx_cons (hs : PuSX cm X W st g) (hb : PuBX cm X W sts h) : PuBX cm X W (st :: sts) (xSeq g h) := by
  obtain ⟨t, p, q⟩ := hs
  obtain ⟨u, p2, q2⟩ := hb
  refine ⟨_, pss_cons p p2, fun x B F ρ σ H r E ok hf hE => ?_⟩
  unfold xSeq at hf
  cases e1 : g ρ with
  | none => rw [e1] at hf; cases hf
  | some r1 =>
    rw [e1] at hf
    refine q x B F ρ σ H r1 _ ok e1 ?_
    cases r1 with
    | ex => cases hf; exact hE
    | fl r1 =>
      cases r1 with
      | nx ρ1 => exact fun B' F' σ' H' s ok' => q2 x B' F' ρ1 σ' H' r E ok' hf (hE.mono s)
      | bk => cases hf; exact hE
      | ct => cases hf; exact hE
      | rt => cases hf; exact hE
def xIf (c : Ev → Option Bool) (g h : XF) : XF := fun ρ => (c ρ).bind fun k => if k = true then g ρ else h ρ
theorem pusx_if {c : Expr} {fc : Ev → Option Bool} {a b : List Stmt} (hc : PuT cm X c fc) (ha : PuBX cm X W a g) (hb : PuBX cm X W b h) : PuSX cm X W (.If c a b pos) (xIf fc g h) := by
  obtain ⟨t, p, q⟩ := hc
  obtain ⟨ta, pa, qa⟩ := ha
  obtain ⟨tb, pb, qb⟩ := hb
  refine ⟨_, ps_if p pa pb, fun x B F ρ σ H r E ok hf hE => ?_⟩
  unfold xIf at hf
  cases e1 : fc ρ with
  | none => rw [e1] at hf; cases hf
  | some k =>
    rw [e1] at hf
    refine q x B F ρ σ H k _ ok e1 fun B' H' gr ok' => ?_
    cases k with
    | true => exact iteT (qa x B' F ρ σ H' r E ok' (by simpa using hf) (hE.mono gr.bb))
    | false => exact iteF (qb x B' F ρ σ H' r E ok' (by simpa using hf) (hE.mono gr.bb))
/-- a region of new things is taken up -/
theorem Ok.joinR {Γ : Ga} {x : Fx} {B : Hp} {F : Nat → List Addr} {ρ : Ev} {σ : St} {H H' R : Hp} (o : Ok Γ x B F ρ σ H) (e : Same H H') (er : Same R H') (hn : ∀ a u, R a = some u → (∃ xs, u = .tup xs) ∨ B a = some u ∨ H a = none) :
    ∃ B', Gr B H B' H' ∧ Ok Γ x B' F ρ σ H' ∧ Same R B' := by
  have t : Same (tupOf H') H' := tupOf_same
  have b : Same B H' := o.bh.trans e
  have nw : ∀ a u, jn (tupOf H') B R a = some u → (∃ xs, u = .tup xs) ∨ B a = some u ∨ H a = none := fun a u z => by
    rcases jn_cases z with z | z | z
    · exact .inl (tupOf_some z).2
    · exact .inr (.inl z)
    · exact hn a u z
  have bb : Same B (jn (tupOf H') B R) := fun a u z => jn_at t b er (.inr (.inl z))
  refine ⟨jn (tupOf H') B R, ⟨e, bb, nw⟩, ?_, fun a u z => jn_at t b er (.inr (.inr z))⟩
  refine o.grow e bb (fun a u z => ?_) (fun a xs z => jn_at t b er (.inl (tupOf_tup z))) nw
  rcases jn_cases z with z | z | z
  · exact t a u z
  · exact b a u z
  · exact er a u z

/-! ### calls -/
/-- what a def that may raise promises -/
def BornX (H H' : Hp) (o : Option D) (dd : Option Addr) : Prop := Same H H' ∧ ExD H' o dd ∧ ∀ a, dd = some a → H a = none
def spX (K : PySem.W.Frag) (cm : Nat → Addr) (w : World) (f : List D → Option (D ⊕ (Nat × Option D))) : L2.Sp := fun vs H Q E => ∃ ds r, Iss ⟨K, cm, w⟩ H ds vs ∧ f ds = some r ∧
  (∀ d, r = .inl d → ∀ v H', Born ⟨K, cm, w⟩ H H' d v → Q v H') ∧ ∀ n o, r = .inr (n, o) → ∀ dd H', BornX H H' o dd → E (.ref (cm n)) dd H'
def CalX (P : Program) (w : World) (K : PySem.W.Frag) (mg : Str → Option Value) (base : Heap) (cm : Nat → Addr) (k : Nat) (x : Str) (f : List D → Option (D ⊕ (Nat × Option D))) : Prop :=
  ∃ (fa : Addr) (fd : FuncData) (ps : List Str), FnOk P w K mg base (L2.CX P w) k fa fd ps (spX K cm w f) ∧ mg x = some (.ref fa) ∧ PySem.W.keepIn K (.ref fa) = true ∧ Binds K fd ps []
theorem Ok.bornX {Γ : Ga} {x : Fx} {B : Hp} {F : Nat → List Addr} {ρ : Ev} {σ : St} {H H' : Hp} {o : Option D} {dd : Option Addr} (ok : Ok Γ x B F ρ σ H) (h : BornX H H' o dd) : ∃ B', Gr B H B' H' ∧ Ok Γ x B' F ρ σ H' ∧ ExD B' o dd := by
  obtain ⟨s, he, hn⟩ := h
  obtain ⟨B', g, ok', sr⟩ := ok.joinR (R := fun a => if dd = some a then H' a else none) s (fun a u e => by
    replace e : (if dd = some a then H' a else none) = some u := e
    by_cases q : dd = some a
    · rw [if_pos q] at e; exact e
    · rw [if_neg q] at e; cases e) (fun a u e => by
    replace e : (if dd = some a then H' a else none) = some u := e
    by_cases q : dd = some a
    · exact .inr (.inr (hn a q))
    · rw [if_neg q] at e; cases e)
  refine ⟨B', g, ok', ?_⟩
  cases o with
  | none => exact he
  | some d =>
    obtain ⟨a, v, e, h1, h2⟩ := he
    exact ⟨a, v, e, sr a _ (by show (if dd = some a then H' a else none) = _; rw [if_pos e, h1]), h2⟩
def eCallX (f : List D → Option (D ⊕ (Nat × Option D))) (g : AF) : Ev → Option ((D × Md) ⊕ (Nat × Option D)) := fun ρ => (g ρ).bind fun as => (f (as.map (·.1))).map fun r => match r with
  | .inl d => .inl (d, .new)
  | .inr p => .inr p
theorem pux_call {es : List Expr} {k j : Nat} {y : Str} {fn : List D → Option (D ⊕ (Nat × Option D))} {ga : AF} {p : Pos} (tk : Takes X W) (C : CalX X.prog X.w X.K X.mg X.base cm k y fn) (hr : Room j X.A) (hk : k ≤ j) (ha : PuA cm X (e :: es) ga) (hg : Gl X y := by rfl)
    (hdb : (y == ("__debug__" : Str)) = false := by decide) (he : starEach (e :: es) X.env = (false, eval e X.env) :: starEach es X.env := by rfl) (hpl : (backTo pos (starEach es X.env)).any (·.1) = false := by rfl) :
    PuEX cm X W (.Call (.Name y p) (e :: es) [] pos) (eCallX fn ga) := by
  obtain ⟨fa, fd, ps, F, hm, kp, hb⟩ := C
  obtain ⟨t, pa, qa⟩ := ha
  refine ⟨_, pe_callS F (hr.mono hk) hg hm kp hb (fun σ => passAt tk σ) pa hdb he hpl, fun x B F ρ σ H r Q ok hf h1 h2 => ?_⟩
  unfold eCallX at hf
  cases e1 : ga ρ with
  | none => rw [e1] at hf; cases hf
  | some as =>
    rw [e1] at hf
    simp only [Option.bind_some] at hf
    cases e2 : fn (as.map (·.1)) with
    | none => rw [e2] at hf; cases hf
    | some r0 =>
      rw [e2] at hf
      refine qa x B F ρ σ H as _ ok e1 fun vs B' H' g ok' hvs => ?_
      refine ⟨_, r0, paired_iss ok' hvs, e2, fun d ed v H2 bn => ?_, fun n o eo dd H2 bn => ?_⟩
      · subst ed
        cases hf
        obtain ⟨B2, g2, ok2, hw⟩ := ok'.born' bn
        exact h1 d .new rfl v B2 H2 (g.trans g2) ok2 hw
      · subst eo
        cases hf
        obtain ⟨B2, g2, ok2, hw⟩ := ok'.bornX bn
        exact h2 n o rfl dd B2 H2 (g.trans g2) ok2 hw fun a ea => g.bb.free (ok'.bh.free (bn.2.2 a ea))
/-- a call that does not raise -/
def okR (f : List D → Option (D ⊕ (Nat × Option D))) : List D → Option D := fun ds => (f ds).bind fun r => match r with
  | .inl d => some d
  | _ => none
theorem pu_callX {es : List Expr} {k j : Nat} {y : Str} {fn : List D → Option (D ⊕ (Nat × Option D))} {ga : AF} {p : Pos} (C : CalX X.prog X.w X.K X.mg X.base cm k y fn) (hr : Room j X.A) (hk : k ≤ j) (ha : PuA cm X (e :: es) ga) (hg : Gl X y := by rfl)
    (hdb : (y == ("__debug__" : Str)) = false := by decide) (he : starEach (e :: es) X.env = (false, eval e X.env) :: starEach es X.env := by rfl) (hpl : (backTo pos (starEach es X.env)).any (·.1) = false := by rfl) :
    PuE cm X (.Call (.Name y p) (e :: es) [] pos) (eCall (okR fn) ga) := by
  obtain ⟨t, pe, q⟩ := pux_call (W := fun _ _ _ _ => False) takes0 C hr hk ha hg hdb he hpl
  refine ⟨t, pe, fun x B F ρ σ H d m Q ok hf hQ => ?_⟩
  obtain ⟨as, e1, e2, rfl⟩ := eCall_some hf
  have e3 : fn (as.map (·.1)) = some (.inl d) := by
    unfold okR at e2
    cases e4 : fn (as.map (·.1)) with
    | none => rw [e4] at e2; cases e2
    | some r =>
      rw [e4] at e2
      cases r with
      | inl d0 => cases e2; rfl
      | inr => cases e2
  refine q x B F ρ σ H (.inl (d, .new)) Q ok (by unfold eCallX; rw [e1]; simp [e3]) (fun d' m' e' => ?_) (fun n o e' => by cases e')
  cases e'
  exact hQ
/-- a pair of a constant and of what may raise -/
def eTwoX (f : EF) (g : Ev → Option ((D × Md) ⊕ (Nat × Option D))) : Ev → Option ((D × Md) ⊕ (Nat × Option D)) := fun ρ => (f ρ).bind fun a => (g ρ).bind fun r => match r with
  | .inl b => if okNew [a, b] = true then some (.inl (.tup [a.1, b.1], .new)) else none
  | .inr p => some (.inr p)
theorem pux_two {a b : Expr} {fa : EF} {gb : Ev → Option ((D × Md) ⊕ (Nat × Option D))} {k} (ha : PuE cm X a fa) (hb : PuEX cm X W b gb) (hs : starEach [a, b] X.env = (false, eval a X.env) :: starEach [b] X.env := by rfl)
    (hs2 : starEach [b] X.env = (false, eval b X.env) :: starEach [] X.env := by rfl) : PuEX cm X W (.Tuple [a, b] k pos) (eTwoX fa gb) := by
  obtain ⟨ta, pa, qa⟩ := ha
  obtain ⟨tb, pb, qb⟩ := hb
  refine ⟨_, pe_tup (pa_cons pa (pa_cons pb pa_nil hs2) hs), fun x B F ρ σ H r Q ok hf h1 h2 => ?_⟩
  unfold eTwoX at hf
  cases e1 : fa ρ with
  | none => rw [e1] at hf; cases hf
  | some a1 =>
    cases e2 : gb ρ with
    | none => rw [e1, e2] at hf; cases hf
    | some r1 =>
      rw [e1, e2] at hf
      simp only [Option.bind_some] at hf
      refine qa x B F ρ σ H a1.1 a1.2 _ ok e1 fun v B1 H1 g1 ok1 hv => ?_
      refine qb x B1 F ρ σ H1 r1 _ ok1 e2 (fun d m er u B2 H2 g2 ok2 hu => ?_) (fun n o er dd B2 H2 g2 ok2 hd hn => ?_)
      · subst er
        dsimp only at hf
        split at hf
        · rename_i hn
          cases hf
          have hv2 := hv.mono g2
          have is := paired_issNew ok2 hn (Paired.cons (F := fun (p : D × Md) v => Val (gx X cm) x p.2 B2 H2 p.1 v) hv2 (.cons hu .nil))
          refine ⟨by rw [line_eq]; simp, fun l hl => ?_⟩
          obtain ⟨g3, ok3⟩ := ok2.laid (o := .tup [v, u]) hl
          exact h1 _ _ rfl _ _ _ ((g1.trans g2).trans g3) ok3 ⟨l, [v, u], rfl, upd_same, is.mono g3.bb⟩
        · cases hf
      · subst er
        cases hf
        exact h2 n o rfl dd B2 H2 (g1.trans g2) ok2 hd fun a ea => g1.bb.free (hn a ea)

/-! ### statements -/
def xRet (f : Ev → Option ((D × Md) ⊕ (Nat × Option D))) : XF := fun ρ => (f ρ).bind fun r => match r with
  | .inl a => if (flat a.1 || isNew a.2) = true then some (.fl (.rt a.1 ρ)) else none
  | .inr p => some (.ex p.1 p.2 ρ)
theorem pusx_ret {fe : Ev → Option ((D × Md) ⊕ (Nat × Option D))} (he : PuEX cm X W e fe) : PuSX cm X W (.Return (some e) pos) (xRet fe) := by
  obtain ⟨t, p, q⟩ := he
  refine ⟨_, ps_ret p, fun x B F ρ σ H r E ok hf hE => ?_⟩
  unfold xRet at hf
  cases e1 : fe ρ with
  | none => rw [e1] at hf; cases hf
  | some r1 =>
    rw [e1] at hf
    refine q x B F ρ σ H r1 _ ok e1 (fun d m er v B' H' g ok' hv => ?_) (fun n o er dd B' H' g ok' hd hn => ?_)
    · subst er
      simp only [Option.bind_some] at hf
      split at hf
      · rename_i hn
        cases hf
        exact hE v B' F σ H' g.bb ok' (Val.new ok' hn hv)
      · cases hf
    · subst er
      cases hf
      exact hE dd B' F σ H' g.bb ok' hd hn
def xEx (f : Ev → Option ((D × Md) ⊕ (Nat × Option D))) : XF := fun ρ => (f ρ).bind fun r => match r with
  | .inl _ => some (.fl (.nx ρ))
  | .inr p => some (.ex p.1 p.2 ρ)
theorem pusx_ex {fe : Ev → Option ((D × Md) ⊕ (Nat × Option D))} (he : PuEX cm X W e fe) (hs : swapsWith e none pos.line X.env = pure false := by rfl) : PuSX cm X W (.Expr e pos) (xEx fe) := by
  obtain ⟨t, p, q⟩ := he
  refine ⟨_, ps_expr p hs, fun x B F ρ σ H r E ok hf hE => ?_⟩
  unfold xEx at hf
  cases e1 : fe ρ with
  | none => rw [e1] at hf; cases hf
  | some r1 =>
    rw [e1] at hf
    refine q x B F ρ σ H r1 _ ok e1 (fun d m er v B' H' g ok' hv => ?_) (fun n o er dd B' H' g ok' hd hn => ?_)
    · subst er
      cases hf
      exact hE B' F σ H' g.bb ok'
    · subst er
      cases hf
      exact hE dd B' F σ H' g.bb ok' hd hn
end
end DL

/-! DL44: raise, loops that raise, try, defs that raise; defs all of whose arguments are only read (region). -/
namespace DL
open PySem L2
section
variable {cm : Nat → Addr} {X : Cx} {W : WX} {pos : Pos} {e : Expr} {f : EF}
/-! ### raise -/
/-- the promise of an __init__ that stores its argument under `at` -/
def spAt (K : PySem.W.Frag) (C : Addr) : L2.Sp := fun vs H Q _ => ∃ a v, vs = [.ref a, v] ∧ H a = some (exo a C none) ∧ ∀ dx, H dx = none → dx ≠ a → Q .non (upd (upd H dx (exd dx [("at", v)])) a (exo a C (some dx)))
/-- the class number n, at the name y: its instances are made by such an __init__ -/
def MakX (P : Program) (w : World) (K : PySem.W.Frag) (mg : Str → Option Value) (base : Heap) (cm : Nat → Addr) (k : Nat) (n : Nat) (y : Str) : Prop :=
  ∃ (fI : Addr) (fd : FuncData) (ps : List Str), OexC K (cm n) ∧ PySem.W.findIn K (.ref (cm n)) "__init__" = some (some (.ref fI)) ∧ PySem.W.typeIn K (.ref fI) = some (.type "function") ∧
    FnOk P w K mg base CX0 k fI fd ps (spAt K (cm n)) ∧ Binds K fd ps [] ∧ mg y = some (.ref (cm n))
def xRaiseAt (n : Nat) (f : EF) : XF := fun ρ => (f ρ).bind fun a => (atomV a.1).map fun _ => .ex n (some a.1) ρ
theorem pusx_raiseAt {n k j : Nat} {y : Str} {p pos' : Pos} (tk : Takes X W) (C : MakX X.prog X.w X.K X.mg X.base cm k n y) (hr : Room j X.A) (hk : k + 1 ≤ j) (ha : PuE cm X e f) (hc : X.calm = true := by rfl) (hg : Gl X y := by rfl)
    (hdb : (y == ("__debug__" : Str)) = false := by decide) (he : starEach [e] X.env = (false, eval e X.env) :: starEach [] X.env := by rfl) (hpl : (backTo pos (starEach [] X.env)).any (·.1) = false := by rfl) :
    PuSX cm X W (.Raise (some (.Call (.Name y p) [e] [] pos)) none pos') (xRaiseAt n f) := by
  obtain ⟨fI, fd, ps, T, iC, tI, F1, hb, hm⟩ := C
  obtain ⟨t, pa, q⟩ := ha
  refine ⟨_, ps_raise hc tk (pmk_oex (dvs := []) T iC tI F1 (hr.mono hk) hb .nil pass0 hg hm (pa_cons pa pa_nil he) hdb he hpl), fun x B F ρ σ H r E ok hf hE => ?_⟩
  unfold xRaiseAt at hf
  cases e1 : f ρ with
  | none => rw [e1] at hf; cases hf
  | some a =>
    rw [e1] at hf
    simp only [Option.bind_some] at hf
    cases e2 : atomV a.1 with
    | none => rw [e2] at hf; cases hf
    | some v =>
      rw [e2] at hf
      cases hf
      refine q x B F ρ σ H a.1 a.2 _ ok e1 fun u B1 H1 g ok1 hv => ?_
      cases atomV_is e2 (hv.is ok1)
      refine ⟨by simp, fun b hb0 => ⟨b, v, rfl, upd_same, fun dx hd hne => ⟨rfl, dx, [("at", v)], upd_same, by rw [upd_ne hne, upd_same], by rw [upd_ne hne] at hd; exact hd, ?_⟩⟩⟩
      have hd1 : H1 dx = none := by rw [upd_ne hne] at hd; exact hd
      have eH : upd (L2.del (upd (upd (upd H1 b (exo b (cm n) none)) dx (exd dx [("at", v)])) b (exo b (cm n) (some dx))) b) dx (.xd [("at", v)]) = upd H1 dx (.xd [("at", v)]) := by
        funext c
        by_cases q1 : c = dx
        · subst q1; rw [upd_same, upd_same]
        · rw [upd_ne q1, upd_ne q1]
          by_cases q2 : c = b
          · subst q2; rw [L2.del_same, hb0]
          · rw [L2.del_ne q2, upd_ne q2, upd_ne q1, upd_ne q2]
      rw [eH]
      obtain ⟨g2, ok2⟩ := ok1.laid (o := .xd [("at", v)]) hd1
      exact hE (some dx) _ F σ _ (g.trans g2).bb ok2 ⟨dx, v, rfl, upd_same, e2⟩ fun c ec => by
        cases ec
        exact g.bb.free (ok1.bh.free hd1)
/-- the class number n at the name y: an own class without own __init__ -/
def MakX0 (K : PySem.W.Frag) (mg : Str → Option Value) (cm : Nat → Addr) (n : Nat) (y : Str) : Prop :=
  PySem.W.excIn K (cm n) [.type "ValueError", .type "Exception", .type "BaseException", .type "object"] "ValueError.__new__" = true ∧ mg y = some (.ref (cm n)) ∧ PySem.W.keepIn K (.ref (cm n)) = true ∧
    PySem.W.subIn K (.ref (cm n)) (.type "BaseException") = some true ∧ PySem.W.typeIn K (.ref (cm n)) = some (.type "type")
def xRaise0 (n : Nat) : XF := fun ρ => some (.ex n none ρ)
theorem pusx_raise0 {n : Nat} {y m : Str} {jj : Nat} {p p2 pos' : Pos} (tk : Takes X W) (C : MakX0 X.K X.mg cm n y) (hc : X.calm = true := by rfl) (hg : Gl X y := by rfl) (hdb : (y == ("__debug__" : Str)) = false := by decide) :
    PuSX cm X W (.Raise (some (.Call (.Name y p) [.Constant (.str m) jj p2] [] pos)) none pos') (xRaise0 n) := by
  obtain ⟨xP, gP, kP, bP, tP⟩ := C
  refine ⟨_, ps_raise hc tk (pmk_own PySem.F.excBase_ValueError xP gP kP (raises_own bP tP) hg hdb), fun x B F ρ σ H r E ok hf hE => ?_⟩
  cases hf
  exact hE none B F σ H (Same.refl B) ok rfl fun _ ec => nomatch ec

/-! ### loops over what is only read (mode new) -/
structure Src3 (Γ : Ga) (B0 : Hp) (ds : List D) (J : It) : Prop where
  go : ∀ i H d, Same B0 H → ds[i]? = some d → J.go i H
  yld : ∀ i H d v H', Same B0 H → ds[i]? = some d → J.yld i H v H' → (H' = H ∧ Is Γ B0 d v) ∨ (flat d = true ∧ Born Γ H H' d v) ∨ ∃ p us es, H p = none ∧ H' = upd H p (.tup us) ∧ v = .ref p ∧ d = .tup es ∧ Iss Γ B0 es us
  stop : ∀ i H, Same B0 H → ds.length ≤ i → J.stop i H
abbrev I3 := Ev → Option (List D)
def PuI3 (cm : Nat → Addr) (X : Cx) (tg iter : Expr) (f : I3) : Prop :=
  ∃ wi, PI X tg iter wi ∧ ∀ (x : Fx) (B : Hp) (F : Nat → List Addr) (ρ : Ev) (σ : St) (H : Hp) (ds : List D) (R : It → Hp → Prop), Ok (gx X cm) x B F ρ σ H → f ρ = some ds →
    (∀ J B' H', Gr B H B' H' → Ok (gx X cm) x B' F ρ σ H' → Src3 (gx X cm) B' ds J → R J H') → wi σ H R
def forGoX (g : GF) (b : XF) : List D → Ev → Option Fr
  | [], ρ => some (.fl (.nx ρ))
  | d :: r, ρ => (g d .new ρ).bind fun ρ1 => (b ρ1).bind fun s => match s with
    | .fl (.nx ρ2) => forGoX g b r ρ2
    | .fl (.ct ρ2) => forGoX g b r ρ2
    | .fl (.bk ρ2) => some (.fl (.nx ρ2))
    | s => some s
def xFor (f : I3) (g : GF) (b : XF) : XF := fun ρ => (f ρ).bind fun ds => forGoX g b ds ρ
theorem pusx_for {tg iter : Expr} {body : List Stmt} {js : List Nat} {fi : I3} {gg : GF} {b : XF} (hp : PassesOwn (model X.prog X.w) X.A X.env X.xe) (hi : PuI3 cm X tg iter fi) (hg : PuG cm X tg js gg) (hb : PuBX cm X W body b) (hc : X.calm = true := by rfl)
    (hs : ∀ x, foldedSetIterable iter X.env x = pure x := by intro _; rfl) : PuSX cm X W (.For tg iter body [] pos) (xFor fi gg b) := by
  obtain ⟨wi, p, q⟩ := hi
  obtain ⟨tg', p2, q2⟩ := hg
  obtain ⟨tb, p3, q3⟩ := hb
  refine ⟨_, ps_for hp hc p p2 p3 hs, fun x B F ρ σ H r E ok hf hE => ?_⟩
  unfold xFor at hf
  cases e1 : fi ρ with
  | none => rw [e1] at hf; cases hf
  | some ds =>
    rw [e1] at hf
    simp only [Option.bind_some] at hf
    refine q x B F ρ σ H ds _ ok e1 fun J B1 H1 g1 ok1 S => ?_
    refine ⟨fun i mm σ H => mm = ds.length - i ∧ i ≤ ds.length ∧ ∃ B F ρ, Ok (gx X cm) x B F ρ σ H ∧ Same B1 B ∧ forGoX gg b (ds.drop i) ρ = some r, ⟨ds.length, by simp, Nat.zero_le _, B1, F, ρ, ok1, Same.refl B1, by simpa using hf⟩, ?_⟩
    rintro i mm σ2 H2 ⟨rfl, hi, B2, F2, ρ2, ok2, bb, er⟩
    by_cases hlt : i < ds.length
    · have ed : ds[i]? = some ds[i] := List.getElem?_eq_getElem hlt
      rw [List.drop_eq_getElem_cons hlt, forGoX] at er
      cases h1 : gg ds[i] .new ρ2 with
      | none => rw [h1] at er; cases er
      | some ρ3 =>
        rw [h1] at er
        simp only [Option.bind_some] at er
        cases h2 : b ρ3 with
        | none => rw [h2] at er; cases er
        | some r3 =>
          rw [h2] at er
          simp only [Option.bind_some] at er
          have s12 : Same B1 H2 := bb.trans ok2.bh
          refine .inr ⟨S.go i H2 _ s12 ed, fun σ H => i + 1 ≤ ds.length ∧ ∃ B F ρ, Ok (gx X cm) x B F ρ σ H ∧ Same B1 B ∧ forGoX gg b (ds.drop (i + 1)) ρ = some r, fun σ' H' h => ⟨_, by omega, rfl, h⟩, fun v H3 y => ?_⟩
          obtain ⟨B3, g3, ok3, hv⟩ : ∃ B3, Gr B2 H2 B3 H3 ∧ Ok (gx X cm) x B3 F2 ρ2 σ2 H3 ∧ Is (gx X cm) B3 ds[i] v := by
            rcases S.yld i H2 _ v H3 s12 ed y with ⟨rfl, hv⟩ | ⟨_, bn⟩ | ⟨p0, us, es, hn, rfl, rfl, e5, h5⟩
            · exact ⟨B2, Gr.refl B2 _, ok2, hv.mono bb⟩
            · exact ok2.born' bn
            · obtain ⟨g3, ok3⟩ := ok2.laid (o := .tup us) hn
              refine ⟨_, g3, ok3, ?_⟩
              rw [e5]
              exact ⟨p0, us, rfl, upd_same, h5.mono (bb.trans g3.bb)⟩
          refine q2 x B3 F2 ρ2 ρ3 σ2 H3 _ .new v _ ok3 hv h1 fun F4 σ4 ok4 _ _ => ?_
          refine q3 x B3 F4 ρ3 σ4 H3 r3 _ ok4 h2 ?_
          have b13 : Same B1 B3 := bb.trans g3.bb
          cases r3 with
          | ex n o ρ4 => cases er; exact fun dd B' F' σ' H' s ok' hd hn => hE dd B' F' σ' H' (g1.bb.trans (b13.trans s)) ok' hd fun a ea => g1.bb.free (b13.free (hn a ea))
          | fl r3 =>
            cases r3 with
            | nx ρ4 => exact fun B' F' σ' H' s ok' => ⟨hlt, B', F', ρ4, ok', b13.trans s, er⟩
            | ct ρ4 => exact fun B' F' σ' H' s ok' => ⟨hlt, B', F', ρ4, ok', b13.trans s, er⟩
            | bk ρ4 => cases er; exact fun B' F' σ' H' s ok' => hE B' F' σ' H' (g1.bb.trans (b13.trans s)) ok'
            | rt d ρ4 => cases er; exact fun v B' F' σ' H' s ok' hi => hE v B' F' σ' H' (g1.bb.trans (b13.trans s)) ok' hi
    · have ei : i = ds.length := by omega
      subst ei
      rw [List.drop_length] at er
      cases er
      exact .inl ⟨S.stop _ H2 (bb.trans ok2.bh) (Nat.le_refl _), hE B2 F2 σ2 H2 (g1.bb.trans bb) ok2⟩
def i3 (f : IF) : I3 := fun ρ => (f ρ).bind fun s => if isNew s.2 = true then some s.1 else none
theorem pui3_of {tg iter : Expr} {fi : IF} (h : PuI cm X tg iter fi) : PuI3 cm X tg iter (i3 fi) := by
  obtain ⟨wi, p, q⟩ := h
  refine ⟨wi, p, fun x B F ρ σ H ds R ok hf hR => ?_⟩
  unfold i3 at hf
  cases e1 : fi ρ with
  | none => rw [e1] at hf; cases hf
  | some s =>
    rw [e1] at hf
    obtain ⟨es, m⟩ := s
    cases m with
    | new =>
      cases hf
      refine q x B F ρ σ H _ .new R ok e1 fun J B' H' g ok' S => hR J B' H' g ok' ⟨S.go, fun i H d v H' s e y => ?_, S.stop⟩
      rcases S.yld i H d v H' s e y with h | h
      · exact .inl h
      · exact .inr (.inl h)
    | own => simp [isNew] at hf
    | par => simp [isNew] at hf
def i3En (f : EF) : I3 := fun ρ => (f ρ).bind fun a => if isNew a.2 = true then match a.1 with
  | .lst ds => some (enumL 0 ds)
  | _ => none else none
theorem pui3_enum {a : Expr} {fe : EF} {p tpos : Pos} {elts : List Expr} {kk : Nat} (hm : X.mg "enumerate" = none) (he : PuE cm X a fe) (hg : Gl X "enumerate" := by rfl) (hs : starEach [a] X.env = [(false, eval a X.env)] := by rfl) (hs2 : starEach [a] X.env = (false, eval a X.env) :: starEach [] X.env := by rfl) :
    PuI3 cm X (.Tuple elts kk tpos) (.Call (.Name "enumerate" p) [a] [] pos) (i3En fe) := by
  obtain ⟨t, pe, q⟩ := he
  refine ⟨_, pi_enum hg hm (pa_cons pe pa_nil hs2) hs, fun x B F ρ σ H ds R ok hf hR => ?_⟩
  unfold i3En at hf
  cases ea : fe ρ with
  | none => rw [ea] at hf; cases hf
  | some a =>
    rw [ea] at hf
    obtain ⟨a, ma⟩ := a
    simp only [Option.bind_some] at hf
    split at hf
    · rename_i hn
      cases a with
      | lst es =>
        cases hf
        refine q x B F ρ σ H _ ma _ ok ea fun v B' H' g ok' hv => ?_
        have hv2 : Is (gx X cm) B' (.lst es) v := by
          cases ma with
          | new => exact hv
          | own => simp [isNew] at hn
          | par => simp [isNew] at hn
        obtain ⟨b, vs, rfl, h1, h2⟩ := hv2
        refine ⟨b, vs, rfl, SqL.of (ok'.bh _ _ h1), hR _ B' H' g ok' ⟨fun i G d s e => ?_, fun i G d v G' s e y => ?_, fun i G s hl => ⟨vs, SqL.of (s _ _ h1), by rw [h2.length]; rw [enumL_length] at hl; exact hl⟩⟩⟩
        · rw [enumL_get] at e
          cases qe : es[i]? with
          | none => rw [qe] at e; cases e
          | some d0 =>
            obtain ⟨v, e1, _⟩ := h2.get qe
            exact ⟨vs, v, SqL.of (s _ _ h1), e1⟩
        · rw [enumL_get] at e
          cases qe : es[i]? with
          | none => rw [qe] at e; cases e
          | some d0 =>
            rw [qe] at e
            cases e
            obtain ⟨w, e1, e2⟩ := h2.get qe
            obtain ⟨T, z, rfl, hT, rfl, hz⟩ := y
            have z1 := hz vs (SqL.of (s _ _ h1))
            rw [e1] at z1
            cases z1
            exact .inr (.inr ⟨T, _, _, hT, rfl, rfl, rfl, ⟨_, _, rfl, by rw [Nat.zero_add]; rfl, w, [], rfl, e2, rfl⟩⟩)
      | _ => cases hf
    · cases hf
def i3Zip (f g : EF) : I3 := fun ρ => (f ρ).bind fun a => (g ρ).bind fun b => match a, b with
  | (.wtp xs, .new), (.tup es, .new) => some (zipL (xs.map .str) es)
  | _, _ => none
theorem src3_zip {Γ : Ga} {R : Hp} {a b : Addr} {xs : List Str} {us : List V} {es : List D} (h1 : SqT Γ.K R a (xs.map V.str)) (k1 : R b = some (.tup us)) (k2 : Iss Γ R es us) : Src3 Γ R (zipL (xs.map .str) es) (RZ.ItzT Γ.K a b) where
  go := fun i G d s e => by
    obtain ⟨y, z, e1, e2, _⟩ := zipL_get e
    obtain ⟨v, e3, _⟩ := (Iss.strs (Γ := Γ) (H := R) xs).get e1
    obtain ⟨u, e4, _⟩ := k2.get e2
    exact ⟨_, us, v, u, same_sqT s h1, SqT.of (s _ _ k1), e3, e4⟩
  yld := fun i G d v G' s e w => by
    obtain ⟨y, z, e1, e2, rfl⟩ := zipL_get e
    obtain ⟨v1, e3, w1⟩ := (Iss.strs (Γ := Γ) (H := R) xs).get e1
    obtain ⟨u1, e4, w2⟩ := k2.get e2
    obtain ⟨T, z1, z2, rfl, hT, rfl, hz1, hz2⟩ := w
    have q1 := hz1 _ (same_sqT s h1)
    have q2 := hz2 us (SqT.of (s _ _ k1))
    rw [e3] at q1
    rw [e4] at q2
    cases q1
    cases q2
    exact .inr (.inr ⟨T, _, _, hT, rfl, rfl, rfl, _, _, rfl, w1, _, [], rfl, w2, rfl⟩)
  stop := fun i G s hl => ⟨_, us, same_sqT s h1, SqT.of (s _ _ k1), by
    have hk := k2.length
    rw [zipL_length] at hl
    simp only [List.length_map] at hl ⊢
    omega⟩
theorem pui3_zip {a b : Expr} {fa fb : EF} {p tpos : Pos} {elts : List Expr} {kk : Nat} (hm : X.mg "zip" = none) (he : PuE cm X a fa) (he2 : PuE cm X b fb) (hg : Gl X "zip" := by rfl)
    (hs : starEach [a, b] X.env = (false, eval a X.env) :: starEach [b] X.env := by rfl) (hs2 : starEach [b] X.env = (false, eval b X.env) :: starEach [] X.env := by rfl) (hpl : (backTo pos (starEach [b] X.env)).any (·.1) = false := by rfl) :
    PuI3 cm X (.Tuple elts kk tpos) (.Call (.Name "zip" p) [a, b] [] pos) (i3Zip fa fb) := by
  obtain ⟨ta, pa, qa⟩ := he
  obtain ⟨tb, pb, qb⟩ := he2
  refine ⟨_, RZ.pi_zipA hg hm (pa_cons pa (pa_cons pb pa_nil hs2) hs) hs hpl, fun x B F ρ σ H ds R ok hf hR => ?_⟩
  unfold i3Zip at hf
  cases ea : fa ρ with
  | none => rw [ea] at hf; cases hf
  | some a1 =>
    cases eb : fb ρ with
    | none => rw [ea, eb] at hf; cases hf
    | some b1 =>
      rw [ea, eb] at hf
      simp only [Option.bind_some] at hf
      split at hf
      · cases hf
        refine qa x B F ρ σ H _ _ _ ok ea fun v B1 H1 g1 ok1 hv => qb x B1 F ρ σ H1 _ _ _ ok1 eb fun u B2 H2 g2 ok2 hu => ?_
        obtain ⟨c, rfl, h1⟩ := hv.mono g2
        obtain ⟨b, us, rfl, k1, k2⟩ := hu
        exact ⟨c, b, _, us, rfl, .inr ⟨same_sqT ok2.bh h1, SqT.of (ok2.bh _ _ k1), hR _ B2 H2 (g1.trans g2) ok2 (src3_zip h1 k1 k2)⟩⟩
      · cases hf
end
end DL

/-! DL45: try with named clauses; defs that raise; defs all of whose arguments lie in a region that is only read. -/
namespace DL
open PySem L2

/-! ### try -/
def tPb (Γ : Ga) (W : WX) (b : XF) : TS := fun D σ H => ∃ (x : Fx) (B : Hp) (F : Nat → List Addr) (ρ : Ev) (r : Fr), Ok Γ x B F ρ σ H ∧ b ρ = some r ∧ PostX Γ x B W r D
theorem PuBX.can {cm : Nat → Addr} {X : Cx} {W : WX} {sts : List Stmt} {b : XF} (h : PuBX cm X W sts b) : PSs X sts (tPb (gx X cm) W b) := by
  obtain ⟨t, p, q⟩ := h
  exact ⟨fun pins s σ H E I ⟨x, B, F, ρ, r, ok, e, hE⟩ => p.run pins s σ H E I (q x B F ρ σ H r E ok e hE)⟩
abbrev HF := Nat → Option D → Ev → Option Fl
/-- the suite of a clause whose name is at slot i -/
def PuH (cm : Nat → Addr) (X : Cx) (i : Nat) (su : List Stmt) (hf : HF) : Prop :=
  ∃ q : HTs, SuR X su q ∧ ∀ (x : Fx) (B : Hp) (F : Nat → List Addr) (ρ : Ev) (σ : St) (H : Hp) (r : Fl) (E : Ends) (n : Nat) (o : Option D) (dd : Option Addr) (a : Addr), Ok (gx X cm) x B F ρ σ H → σ[i]? = some (some (.ref a)) → H a = none → ExD B o dd →
    hf n o ρ = some r → Post (gx X cm) x B r E → q a (.ref (cm n)) dd E σ H
inductive HdsD (cm : Nat → Addr) (X : Cx) (n : Str) (i : Nat) : List ExceptHandler → List ((Nat → Option Bool) × HF) → Prop
  | nil : HdsD cm X n i [] []
  | cons {x : Str} {c : Value} {b0 : Stmt} {su : List Stmt} {np p2 : Pos} {tst : Nat → Option Bool} {hf : HF} {hds : List ExceptHandler} {l : List ((Nat → Option Bool) × HF)} (hc : Names X x c) (ht : ∀ m y, tst m = some y → PySem.W.exmOne X.K (.ref (cm m)) c = some y)
      (hq : PuH cm X i (b0 :: su) hf) (r : HdsD cm X n i hds l) : HdsD cm X n i (.ExceptHandler (some (.Name x np)) (some n) (b0 :: su) p2 :: hds) ((tst, hf) :: l)
/-- what the clauses come to -/
def pickH (i : Nat) (n : Nat) (o : Option D) (ρ : Ev) : List ((Nat → Option Bool) × HF) → Option Fl
  | [] => none
  | p :: l => (p.1 n).bind fun y => if y = true then (if i < ρ.length then p.2 n o (ρ.set i .emp) else none).bind fun r => match r with
      | .rt d ρ' => some (.rt d ρ')
      | _ => none else pickH i n o ρ l
def sTry (i : Nat) (b : XF) (l : List ((Nat → Option Bool) × HF)) : SF := fun ρ => (b ρ).bind fun r => match r with
  | .fl r => some r
  | .ex n o ρ' => pickH i n o ρ' l
section
variable {cm : Nat → Addr} {X : Cx} {pos : Pos} {n : Str} {i : Nat} {body : List Stmt} {b : XF}
theorem hdsD_mk {hds : List ExceptHandler} {l : List ((Nat → Option Bool) × HF)} (h : HdsD cm X n i hds l) : ∃ vl, HdsA X n hds vl ∧ ∀ (x : Fx) (B : Hp) (F : Nat → List Addr) (ρ : Ev) (σ : St) (H : Hp) (r : Fl) (E : Ends) (m : Nat) (o : Option D) (dd : Option Addr),
    Ok (gx X cm) x B F ρ σ H → ExD B o dd → pickH i m o ρ l = some r → Post (gx X cm) x B r E → wManyA X.K i (fun _ _ _ _ => False) E vl (.ref (cm m)) dd σ H := by
  induction h with
  | nil => exact ⟨[], .nil, fun x B F ρ σ H r E m o dd ok hd hp hE => by cases hp⟩
  | @cons y c b0 su np p2 tst hf hds l hc ht hq _ ih =>
    obtain ⟨vl, hv, hk⟩ := ih
    obtain ⟨q, hs, hq2⟩ := hq
    refine ⟨(c, q) :: vl, .cons hc hs hv, fun x B F ρ σ H r E m o dd ok hd hp hE => ?_⟩
    rw [pickH] at hp
    cases e1 : tst m with
    | none => simp [e1] at hp
    | some k =>
      simp only [e1, Option.bind_some] at hp
      refine ⟨k, ht m k e1, fun hy a ha => ?_, fun hn => ?_⟩
      · rw [if_pos hy] at hp
        by_cases hl : i < ρ.length
        · rw [if_pos hl] at hp
          cases e2 : hf m o (ρ.set i .emp) with
          | none => rw [e2] at hp; cases hp
          | some r1 =>
            rw [e2] at hp
            cases r1 with
            | rt d ρ2 =>
              cases hp
              have ok2 := ok.put (i := i) (s := .emp) (v := some (.ref a)) rfl hl
              refine hq2 x B _ _ _ H _ (offE i E) m o dd a ok2 (by rw [List.getElem?_set_self (by rw [← ok.len]; exact hl)]) ha hd e2 ?_
              exact hE
            | nx => cases hp
            | bk => cases hp
            | ct => cases hp
        · rw [if_neg hl] at hp; cases hp
      · rw [if_neg (by rw [hn]; decide)] at hp
        exact hk x B F ρ σ H r E m o dd ok hd hp hE
theorem pus_try {hd0 : ExceptHandler} {hdr : List ExceptHandler} {l : List ((Nat → Option Bool) × HF)} (nd : X.N.Nodup)
    (hb : ∀ (W : WX) (pn : List (Addr × Obj)) (xe : Value → Shared → Prop), Takes (X.tr pn xe) W → PassesOwn (model X.prog X.w) X.A X.env xe → PuBX cm (X.tr pn xe) W body b) (hh : HdsD cm X n i (hd0 :: hdr) l)
    (hst : X.stack = X.env :: X.outer := by rfl) (hfm : X.env.frame = some X.env.locals := by rfl) (hi : X.N[i]? = some n := by rfl) (hln : X.env.kindOf n = some .local := by rfl) : PuS cm X (.Try body (hd0 :: hdr) [] [] pos) (sTry i b l) := by
  obtain ⟨vl, hv, hk⟩ := hdsD_mk hh
  refine ⟨_, ps_try_asm (tb := fun W => tPb (gx X cm) W b) (Wo := fun _ _ _ _ => False) hst hfm nd hi hln takes0 (fun W pn xe tk po => (hb W pn xe tk po).can) hv, fun x B F ρ σ H r E ok hf hE => ?_⟩
  unfold sTry at hf
  cases e1 : b ρ with
  | none => rw [e1] at hf; cases hf
  | some r1 =>
    rw [e1] at hf
    refine ⟨x, B, F, ρ, r1, ok, e1, ?_⟩
    cases r1 with
    | fl r1 => cases hf; exact hE
    | ex m o ρ1 => exact fun dd B1 F1 σ1 H1 s ok1 hd _ => hk x B1 F1 ρ1 σ1 H1 r E m o dd ok1 hd hf (hE.mono s)
end

/-! ### defs -/
/-- the slots at the entry, all only read -/
def entF (n : Nat) (ds : List D) : Ev := ds.map .fn ++ List.replicate (n - ds.length) .emp
def resX (r : Fr) : Option (D ⊕ (Nat × Option D)) := match r with
  | .fl (.rt d _) => some (.inl d)
  | .fl (.nx _) => some (.inl .non)
  | .ex n o _ => some (.inr (n, o))
  | _ => none
def fnX (n k : Nat) (b : XF) (ds : List D) : Option (D ⊕ (Nat × Option D)) := if ds.length = k then (b (ent n ds)).bind resX else none
def flatR : (D ⊕ (Nat × Option D)) → Bool
  | .inl d => flat d
  | .inr _ => true
def fnXF (n k : Nat) (b : XF) (ds : List D) : Option (D ⊕ (Nat × Option D)) := if ds.length = k then ((b (entF n ds)).bind resX).bind fun r => if flatR r = true then some r else none else none
def fnF (n k : Nat) (b : SF) (ds : List D) : Option D := if ds.length = k then (b (entF n ds)).bind fun r => match r with
  | .rt d _ => if flat d = true then some d else none
  | .nx _ => some .non
  | _ => none else none
/-- what of H is not in R -/
def offR (H R : Hp) : Hp := fun a => match R a with
  | some _ => none
  | none => H a
theorem offR_out {H R : Hp} {a : Addr} {o : HO} (h : R a = some o) : offR H R a = none := by unfold offR; rw [h]
theorem offR_in {H R : Hp} {a : Addr} (h : R a = none) : offR H R a = H a := by unfold offR; rw [h]
theorem offR_some {H R : Hp} {a : Addr} {o : HO} (h : offR H R a = some o) : H a = some o ∧ R a = none := by
  unfold offR at h
  cases e : R a with
  | none => rw [e] at h; exact ⟨h, rfl⟩
  | some u => rw [e] at h; cases h
theorem ok_startF {K : PySem.W.Frag} {cm : Nat → Addr} {w : World} {H R : Hp} {ds : List D} {vs : List V} {N : List Str} (hR : Same R H) (h : Iss ⟨K, cm, w⟩ R ds vs) (hl : ds.length ≤ N.length) :
    Ok ⟨K, cm, w⟩ ⟨offR H R, offR H R, fun _ => False, L2.start N vs⟩ (jn (tupOf H) R R) (fun _ => []) (entF N.length ds) (L2.start N vs) H where
  kp := fun a o e => (offR_some e).1
  bh := fun a o e => by
    rcases jn_cases e with z | z | z
    · exact tupOf_same a o z
    · exact hR a o z
    · exact hR a o z
  tup := fun a xs e => jn_at tupOf_same hR hR (.inl (tupOf_tup e))
  born := fun a o e => by
    rcases jn_cases e with z | z | z
    · exact .inl (tupOf_some z).2
    · exact .inr (offR_out z)
    · exact .inr (offR_out z)
  bk := fun a o e => by
    rcases jn_cases e with z | z | z
    · exact .inl (tupOf_some z).2
    · exact .inr (offR_out z)
    · exact .inr (offR_out z)
  dom := fun a e => by
    show offR H R a = none
    unfold offR
    cases R a with
    | none => exact e
    | some u => rfl
  fk := fun i a ha => nomatch ha
  dj := fun i j a ha => nomatch ha
  nd := fun i => List.nodup_nil
  out := fun i _ => rfl
  len := by unfold entF L2.start; simp [h.length]
  at_ := fun i s e => by
    unfold entF at e
    by_cases q : i < ds.length
    · rw [List.getElem?_append_left (by simpa using q), List.getElem?_map] at e
      have e1 : ds[i]? = some ds[i] := List.getElem?_eq_getElem q
      rw [e1] at e
      cases e
      obtain ⟨v, ev, hv⟩ := h.get e1
      have e0 : (L2.start N vs)[i]? = some (some v) := by
        unfold L2.start
        rw [List.getElem?_append_left (by simpa [h.length] using q), List.getElem?_map, ev]; rfl
      exact ⟨rfl, v, e0, hv.mono fun a o z => jn_at tupOf_same hR hR (.inr (.inl z))⟩
    · rw [List.getElem?_append_right (by simpa using q)] at e
      have := List.mem_of_getElem? e
      rw [List.eq_of_mem_replicate this]
      rfl
section
variable {P : Program} {w : World} {K : PySem.W.Frag} {mg : Str → Option Value} {base : Heap} {cm : Nat → Addr} {x qual : Str} {st : Stmt} {f : Addr} {fd : FuncData} {N ps : List Str} {k : Nat}
/-- behind a def all stands as it stood, and what is given back flat is born -/
theorem same_end {Γ : Ga} {H H' B : Hp} {x : Fx} {F : Nat → List Addr} {ρ : Ev} {σ : St} (ok : Ok Γ x B F ρ σ H') (s : Same (jn (tupOf H) H H) B) : Same H H' := fun a o e => ok.bh a o (s a o (jn_at tupOf_same (Same.refl H) (Same.refl H) (.inr (.inl e))))
theorem born_end {Γ : Ga} {H H' B : Hp} {x : Fx} {F : Nat → List Addr} {ρ : Ev} {σ : St} {d : D} {v : V} (ok : Ok Γ x B F ρ σ H') (s : Same (jn (tupOf H) H H) B) (f : flat d = true) (hi : Is Γ B d v) : Born Γ H H' d v :=
  ⟨same_end ok s, tupOf H', tupOf_same, fun _ _ h => .inl (tupOf_some h).2, Is.ofFlat f (hi.mono ok.bh)⟩
theorem fn_pureF {b : SF} (F : Fun K x qual st f fd) (S : FnScope N ps (defScope st)) (hN : ps.length ≤ N.length)
    (hb : ∀ (cdv : Value) (A : Around) (outer : List Env) (s : Shared) (H : Hp) (E : XK), Room k (A.deeper (PyProof.Rows.envOfC qual (defScope st) s.heap.objs.size f cdv)) → PuB cm (cxOf CX0 P w K mg base N qual (defScope st) f cdv A outer s H E).nox (defBody st) b) :
    FnOk P w K mg base CX0 (k + 1) f fd ps (spP K cm w (fnF N.length ps.length b)) := by
  refine F.ok S (fun vs H Q E h => ?_) (fun cdv A outer s H vs Q E hr h => ?_)
  · obtain ⟨ds, d, h1, h2, _⟩ := h
    unfold fnF at h2
    split at h2
    · rename_i e
      rw [h1.length, e]
    · cases h2
  · obtain ⟨ds, d, h1, h2, h3⟩ := h
    unfold fnF at h2
    split at h2
    · rename_i e
      obtain ⟨t, p, q⟩ := hb cdv A outer s H E hr
      cases e1 : b (entF N.length ds) with
      | none => rw [e1] at h2; cases h2
      | some r =>
        rw [e1] at h2
        simp only [Option.bind_some] at h2
        refine ⟨t, p, q _ _ _ _ _ _ r _ (ok_startF (N := N) (Same.refl H) h1 (by omega)) e1 ?_⟩
        cases r with
        | nx ρ => cases h2; exact fun B F σ H' s ok => h3 _ _ (born_end ok s (v := .non) rfl rfl)
        | rt c ρ =>
          dsimp only at h2
          split at h2
          · rename_i fl
            cases h2
            exact fun v B F σ H' s ok hi => h3 _ _ (born_end ok s fl hi)
          · cases h2
        | bk => cases h2
        | ct => cases h2
    · cases h2
theorem fn_excF {b : XF} (F : Fun K x qual st f fd) (S : FnScope N ps (defScope st)) (hN : ps.length ≤ N.length)
    (hb : ∀ (cdv : Value) (A : Around) (outer : List Env) (s : Shared) (H : Hp) (E : XK), Room k (A.deeper (PyProof.Rows.envOfC qual (defScope st) s.heap.objs.size f cdv)) → PuBX cm (cxOf (L2.CX P w) P w K mg base N qual (defScope st) f cdv A outer s H E) (fun c d _ H' => E c d H') (defBody st) b) :
    FnOk P w K mg base (L2.CX P w) (k + 1) f fd ps (spX K cm w (fnXF N.length ps.length b)) := by
  refine F.okX S (fun vs H Q E h => ?_) (fun cdv A outer s H vs Q E hr h => ?_)
  · obtain ⟨ds, d, h1, h2, _⟩ := h
    unfold fnXF at h2
    split at h2
    · rename_i e
      rw [h1.length, e]
    · cases h2
  · obtain ⟨ds, d, h1, h2, h3, h4⟩ := h
    unfold fnXF at h2
    split at h2
    · rename_i e
      obtain ⟨t, p, q⟩ := hb cdv A outer s H E hr
      cases e1 : b (entF N.length ds) with
      | none => rw [e1] at h2; cases h2
      | some r =>
        rw [e1] at h2
        simp only [Option.bind_some] at h2
        refine ⟨t, p, q _ _ _ _ _ _ r _ (ok_startF (N := N) (Same.refl H) h1 (by omega)) e1 ?_⟩
        cases r with
        | ex m o ρ =>
          have ed : d = .inr (m, o) := by simpa [resX, flatR] using h2.symm
          exact fun dd B F σ H' s ok hd hn => h4 m o ed dd H' ⟨same_end ok s, hd.mono ok.bh, fun a ea => by
            cases eh : H a with
            | none => rfl
            | some u =>
              have z := jn_at tupOf_same (Same.refl H) (Same.refl H) (.inr (.inl eh))
              rw [hn a ea] at z
              cases z⟩
        | fl r =>
          cases r with
          | nx ρ =>
            have ed : d = .inl .non := by simpa [resX, flatR, flat] using h2.symm
            exact fun B F σ H' s ok => h3 _ ed _ _ (born_end ok s (v := .non) rfl rfl)
          | rt c ρ =>
            by_cases fl : flat c = true
            · have ed : d = .inl c := by simpa [resX, flatR, fl] using h2.symm
              exact fun v B F σ H' s ok hi => h3 _ ed _ _ (born_end ok s fl hi)
            · simp [resX, flatR, fl] at h2
          | bk => simp [resX] at h2
          | ct => simp [resX] at h2
    · cases h2
theorem fn_exc {b : XF} (F : Fun K x qual st f fd) (S : FnScope N ps (defScope st)) (hN : ps.length ≤ N.length)
    (hb : ∀ (cdv : Value) (A : Around) (outer : List Env) (s : Shared) (H : Hp) (E : XK), Room k (A.deeper (PyProof.Rows.envOfC qual (defScope st) s.heap.objs.size f cdv)) → PuBX cm (cxOf (L2.CX P w) P w K mg base N qual (defScope st) f cdv A outer s H E) (fun c d _ H' => E c d H') (defBody st) b) :
    FnOk P w K mg base (L2.CX P w) (k + 1) f fd ps (spX K cm w (fnX N.length ps.length b)) := by
  refine F.okX S (fun vs H Q E h => ?_) (fun cdv A outer s H vs Q E hr h => ?_)
  · obtain ⟨ds, d, h1, h2, _⟩ := h
    unfold fnX at h2
    split at h2
    · rename_i e
      rw [h1.length, e]
    · cases h2
  · obtain ⟨ds, d, h1, h2, h3, h4⟩ := h
    unfold fnX at h2
    split at h2
    · rename_i e
      obtain ⟨t, p, q⟩ := hb cdv A outer s H E hr
      cases e1 : b (ent N.length ds) with
      | none => rw [e1] at h2; cases h2
      | some r =>
        rw [e1] at h2
        simp only [Option.bind_some] at h2
        refine ⟨t, p, q _ _ _ _ _ _ r _ (ok_start (N := N) h1 (by omega)) e1 ?_⟩
        have born : ∀ {v : V} {B : Hp} {F : Nat → List Addr} {ρ : Ev} {σ : St} {H' : Hp} {d : D}, Ok ⟨K, cm, w⟩ ⟨H, H, fun _ => False, L2.start N vs⟩ B F ρ σ H' → Is ⟨K, cm, w⟩ B d v → Born ⟨K, cm, w⟩ H H' d v := fun ok hi => ⟨ok.kp, _, ok.bh, ok.born, hi⟩
        cases r with
        | ex m o ρ =>
          cases h2
          refine fun dd B F σ H' s ok hd hn => h4 m o rfl dd H' ⟨ok.kp, hd.mono ok.bh, fun a ea => ?_⟩
          cases o with
          | none => cases (show dd = none from hd); cases ea
          | some c =>
            obtain ⟨a', v, e', hx, _⟩ := hd
            rw [ea] at e'
            cases e'
            rcases ok.born a _ hx with ⟨xs, z⟩ | z
            · cases z
            · exact z
        | fl r =>
          cases r with
          | nx ρ => cases h2; exact fun B F σ H' s ok => h3 _ rfl _ _ (born ok (v := .non) rfl)
          | rt c ρ => cases h2; exact fun v B F σ H' s ok hi => h3 _ rfl _ _ (born ok hi)
          | bk => cases h2
          | ct => cases h2
    · cases h2
theorem DefAt.calX {fn : List D → Option (D ⊕ (Nat × Option D))} (z : DefAt K mg x st ps)
    (h : ∀ {f : Addr} {fd : FuncData}, Fun K x x st f fd → FnOk P w K mg base (L2.CX P w) k f fd ps (spX K cm w fn)) : CalX P w K mg base cm k x fn := by
  obtain ⟨f, fd, F, hm, kp, hb⟩ := z
  exact ⟨f, fd, ps, h F, hm, kp, hb⟩

/-! ### a def that hands on what it was given -/
/-- the arguments in a region R that is only read; what is given back lies in R and what is new -/
def spR (K : PySem.W.Frag) (cm : Nat → Addr) (w : World) (fn : List D → Option D) : L2.Sp := fun vs H Q _ => ∃ R ds d, Same R H ∧ Iss ⟨K, cm, w⟩ R ds vs ∧ fn ds = some d ∧
  ∀ v H' R', Same R R' → Same R' H' → Same H H' → (∀ a u, R' a = some u → (∃ xs, u = .tup xs) ∨ R a = some u ∨ H a = none) → Is ⟨K, cm, w⟩ R' d v → Q v H'
def CalR (P : Program) (w : World) (K : PySem.W.Frag) (mg : Str → Option Value) (base : Heap) (cm : Nat → Addr) (k : Nat) (x : Str) (fn : List D → Option D) : Prop :=
  ∃ (fa : Addr) (fd : FuncData) (ps : List Str), FnOk P w K mg base CX0 k fa fd ps (spR K cm w fn) ∧ mg x = some (.ref fa) ∧ PySem.W.keepIn K (.ref fa) = true ∧ Binds K fd ps []
def fnR (n k : Nat) (b : SF) (ds : List D) : Option D := if ds.length = k then (b (entF n ds)).bind fun r => match r with
  | .rt d _ => some d
  | .nx _ => some .non
  | _ => none else none
theorem fn_reg {b : SF} (F : Fun K x qual st f fd) (S : FnScope N ps (defScope st)) (hN : ps.length ≤ N.length)
    (hb : ∀ (cdv : Value) (A : Around) (outer : List Env) (s : Shared) (H : Hp) (E : XK), Room k (A.deeper (PyProof.Rows.envOfC qual (defScope st) s.heap.objs.size f cdv)) → PuB cm (cxOf CX0 P w K mg base N qual (defScope st) f cdv A outer s H E).nox (defBody st) b) :
    FnOk P w K mg base CX0 (k + 1) f fd ps (spR K cm w (DL.fnR N.length ps.length b)) := by
  refine F.ok S (fun vs H Q E h => ?_) (fun cdv A outer s H vs Q E hr h => ?_)
  · obtain ⟨R, ds, d, _, h1, h2, _⟩ := h
    unfold DL.fnR at h2
    split at h2
    · rename_i e
      rw [h1.length, e]
    · cases h2
  · obtain ⟨R, ds, d, hR, h1, h2, h3⟩ := h
    unfold DL.fnR at h2
    split at h2
    · rename_i e
      obtain ⟨t, p, q⟩ := hb cdv A outer s H E hr
      cases e1 : b (entF N.length ds) with
      | none => rw [e1] at h2; cases h2
      | some r =>
        rw [e1] at h2
        simp only [Option.bind_some] at h2
        refine ⟨t, p, q _ _ _ _ _ _ r _ (ok_startF (N := N) hR h1 (by omega)) e1 ?_⟩
        have fin : ∀ {v : V} {B : Hp} {F : Nat → List Addr} {ρ : Ev} {σ : St} {H' : Hp} {c : D}, Same (jn (tupOf H) R R) B → Ok ⟨K, cm, w⟩ ⟨offR H R, offR H R, fun _ => False, L2.start N vs⟩ B F ρ σ H' → Is ⟨K, cm, w⟩ B c v → some c = some d → Q v H' := fun {v B F ρ σ H' c} s ok hi ec => by
          cases ec
          have sR : Same R B := fun a o z => s a o (jn_at tupOf_same hR hR (.inr (.inl z)))
          refine h3 v H' B sR ok.bh (fun a o z => ?_) (fun a u z => ?_) hi
          · cases er : R a with
            | none => exact ok.kp a o ((offR_in er).trans z)
            | some o' =>
              have z2 := hR a o' er
              rw [z] at z2
              cases z2
              exact ok.bh a o (sR a o er)
          · rcases ok.born a u z with z1 | z1
            · exact .inl z1
            · cases er : R a with
              | none => exact .inr (.inr ((offR_in er).symm.trans z1))
              | some o' =>
                have z2 := sR a o' er
                rw [z] at z2
                cases z2
                exact .inr (.inl rfl)
        cases r with
        | nx ρ => exact fun B F σ H' s ok => fin s ok (v := .non) (c := .non) rfl h2
        | rt c ρ => exact fun v B F σ H' s ok hi => fin s ok hi h2
        | bk => cases h2
        | ct => cases h2
    · cases h2
theorem DefAt.calR {fn : List D → Option D} (z : DefAt K mg x st ps) (h : ∀ {f : Addr} {fd : FuncData}, Fun K x x st f fd → FnOk P w K mg base CX0 k f fd ps (spR K cm w fn)) : CalR P w K mg base cm k x fn := by
  obtain ⟨f, fd, F, hm, kp, hb⟩ := z
  exact ⟨f, fd, ps, h F, hm, kp, hb⟩
end
section
variable {cm : Nat → Addr} {X : Cx} {pos : Pos} {e : Expr} {es : List Expr}
def eCallR (fn : List D → Option D) (g : AF) : EF := fun ρ => (g ρ).bind fun as => if okNew as = true then (fn (as.map (·.1))).bind fun d => some (d, .new) else none
theorem pu_callR {k j : Nat} {y : Str} {fn : List D → Option D} {g : AF} {p : Pos} (C : CalR X.prog X.w X.K X.mg X.base cm k y fn) (hr : Room j X.A) (hk : k ≤ j) (ha : PuA cm X (e :: es) g) (hg : Gl X y := by rfl)
    (hdb : (y == ("__debug__" : Str)) = false := by decide) (he : starEach (e :: es) X.env = (false, eval e X.env) :: starEach es X.env := by rfl) (hpl : (backTo pos (starEach es X.env)).any (·.1) = false := by rfl) :
    PuE cm X (.Call (.Name y p) (e :: es) [] pos) (eCallR fn g) := by
  obtain ⟨fa, fd, ps, F, hm, kp, hb⟩ := C
  obtain ⟨t, pa, qa⟩ := ha
  refine ⟨_, pe_call F (hr.mono hk) hg hm kp hb .nil pass0 pa hdb he hpl, fun x B F ρ σ H d m Q ok hf hQ => ?_⟩
  unfold eCallR at hf
  cases e1 : g ρ with
  | none => rw [e1] at hf; cases hf
  | some as =>
    rw [e1] at hf
    simp only [Option.bind_some] at hf
    split at hf
    · rename_i hn
      cases e2 : fn (as.map (·.1)) with
      | none => rw [e2] at hf; cases hf
      | some c =>
        rw [e2] at hf
        cases hf
        refine qa x B F ρ σ H as _ ok e1 fun vs B' H' g ok' hvs => ?_
        rw [List.append_nil]
        refine ⟨B', _, d, ok'.bh, paired_issNew ok' hn hvs, e2, fun v H2 R2 s1 s2 s3 hn2 hi => ?_⟩
        obtain ⟨B2, g2, ok2, s4⟩ := ok'.joinR s3 s2 hn2
        exact hQ v B2 H2 (g.trans g2) ok2 (hi.mono s4)
    · cases hf
end
end DL

/-! DL46: rules for things of the mode new that are not flat; own lists of such; dict.update. -/
namespace DL
open PySem L2 PySem.Spec PyProof.Rows
section
variable {cm : Nat → Addr} {X : Cx} {pos : Pos} {a b e e2 : Expr} {es : List Expr} {fa fb f : EF}
/-- a new list or tuple, known -/
theorem Ok.lay {Γ : Ga} {x : Fx} {B : Hp} {F : Nat → List Addr} {ρ : Ev} {σ : L2.St} {H : Hp} (ok : Ok Γ x B F ρ σ H) {p : Addr} {ds : List D} {vs : List V} (hp : H p = none) (h : Iss Γ B ds vs) :
    (Gr B H (upd B p (.lst vs)) (upd H p (.lst vs)) ∧ Ok Γ x (upd B p (.lst vs)) F ρ σ (upd H p (.lst vs)) ∧ Is Γ (upd B p (.lst vs)) (.lst ds) (.ref p)) ∧
    (Gr B H (upd B p (.tup vs)) (upd H p (.tup vs)) ∧ Ok Γ x (upd B p (.tup vs)) F ρ σ (upd H p (.tup vs)) ∧ Is Γ (upd B p (.tup vs)) (.tup ds) (.ref p)) := by
  obtain ⟨g1, ok1⟩ := ok.laid (o := .lst vs) hp
  obtain ⟨g2, ok2⟩ := ok.laid (o := .tup vs) hp
  exact ⟨⟨g1, ok1, p, vs, rfl, upd_same, h.mono g1.bb⟩, g2, ok2, p, vs, rfl, upd_same, h.mono g2.bb⟩
/-! ### xs + ys -/
def eAddN (f g : EF) : EF := fun ρ => (f ρ).bind fun a => (g ρ).bind fun b => match a, b with
  | (.lst xs, .new), (.lst ys, .new) => if xs.length + ys.length ≤ 16777216 then some (.lst (xs ++ ys), .new) else none
  | _, _ => none
theorem eAddN_some {f g : EF} {ρ : Ev} {r : D × Md} (h : eAddN f g ρ = some r) : ∃ xs ys, f ρ = some (.lst xs, .new) ∧ g ρ = some (.lst ys, .new) ∧ xs.length + ys.length ≤ 16777216 ∧ r = (.lst (xs ++ ys), .new) := by
  unfold eAddN at h
  cases ea : f ρ with
  | none => rw [ea] at h; cases h
  | some a =>
    cases eb : g ρ with
    | none => rw [ea, eb] at h; cases h
    | some b =>
      rw [ea, eb] at h
      simp only [Option.bind_some] at h
      split at h
      · rename_i xs ys
        split at h
        · rename_i hl
          cases h
          exact ⟨xs, ys, rfl, rfl, hl, rfl⟩
        · cases h
      · cases h
/-- a fresh list of things that are only read -/
def PuQ (cm : Nat → Addr) (X : Cx) (e : Expr) (f : Ev → Option (List D)) : Prop :=
  ∃ t, PE X e t ∧ ∀ (x : Fx) (B : Hp) (F : Nat → List Addr) (ρ : Ev) (σ : L2.St) (H : Hp) (ds : List D) (Q : VK), Ok (gx X cm) x B F ρ σ H → f ρ = some ds →
    (∀ l vs B1 H1, Gr B H B1 H1 → Ok (gx X cm) x B1 F ρ σ H1 → H1 l = none → Iss (gx X cm) B1 ds vs → Q (.ref l) (upd H1 l (.lst vs))) → t σ H Q
def lq (f : EF) : Ev → Option (List D) := fun ρ => (f ρ).bind fun a => match a with
  | (.lst ds, .new) => some ds
  | _ => none
theorem pu_ofQ {f : Ev → Option (List D)} (h : PuQ cm X e f) : PuE cm X e (fun ρ => (f ρ).map fun ds => (.lst ds, .new)) := by
  obtain ⟨t, p, q⟩ := h
  refine ⟨t, p, fun x B F ρ σ H d m Q ok hf hQ => ?_⟩
  replace hf : (f ρ).map (fun ds => (D.lst ds, Md.new)) = some (d, m) := hf
  cases e1 : f ρ with
  | none => rw [e1] at hf; cases hf
  | some ds =>
    rw [e1] at hf
    cases hf
    refine q x B F ρ σ H ds Q ok e1 fun l vs B1 H1 g1 ok1 hl hi => ?_
    obtain ⟨⟨g2, ok2, h2⟩, _⟩ := ok1.lay hl hi
    exact hQ _ _ _ (g1.trans g2) ok2 h2
theorem puq_add (ha : PuE cm X a fa) (hb : PuE cm X b fb) : PuQ cm X (.BinOp a .Add b pos) (lq (eAddN fa fb)) := by
  obtain ⟨ta, pa, qa⟩ := ha
  obtain ⟨tb, pb, qb⟩ := hb
  refine ⟨_, pe_op op_cat pa pb, fun x B F ρ σ H ds Q ok hf hQ => ?_⟩
  unfold lq at hf
  cases e1 : eAddN fa fb ρ with
  | none => rw [e1] at hf; cases hf
  | some r =>
    obtain ⟨xs, ys, h1, h2, hl, rfl⟩ := eAddN_some e1
    rw [e1] at hf
    cases hf
    refine qa x B F ρ σ H _ _ _ ok h1 fun v B1 H1 g1 ok1 hv => qb x B1 F ρ σ H1 _ _ _ ok1 h2 fun u B2 H2 g2 ok2 hu => ?_
    obtain ⟨p, vs, rfl, k1, k2⟩ := hv.mono g2
    obtain ⟨q, us, rfl, j1, j2⟩ := hu
    exact ⟨p, q, vs, us, rfl, rfl, ok2.bh _ _ k1, ok2.bh _ _ j1, by rw [line_eq, k2.length, j2.length]; exact hl, fun l hl => hQ l _ B2 H2 (g1.trans g2) ok2 hl (k2.append j2)⟩
theorem pu_addN (ha : PuE cm X a fa) (hb : PuE cm X b fb) : PuE cm X (.BinOp a .Add b pos) (eAddN fa fb) := by
  obtain ⟨t, p, q⟩ := pu_ofQ (puq_add (pos := pos) ha hb)
  refine ⟨t, p, fun x B F ρ σ H d m Q ok hf hQ => q x B F ρ σ H d m Q ok ?_ hQ⟩
  obtain ⟨xs, ys, h1, h2, hl, hr⟩ := eAddN_some hf
  cases hr
  show (lq (eAddN fa fb) ρ).map _ = _
  unfold lq
  rw [hf]
  rfl
theorem puq_lst {g : AF} (ha : PuA cm X es g) : PuQ cm X (.List es pos) (lq (eDisp .lst g)) := by
  obtain ⟨t, p, q⟩ := ha
  refine ⟨_, pe_lst p, fun x B F ρ σ H ds Q ok hf hQ => ?_⟩
  unfold lq eDisp at hf
  cases ea : g ρ with
  | none => rw [ea] at hf; cases hf
  | some as =>
    rw [ea] at hf
    simp only [Option.bind_some] at hf
    split at hf
    · rename_i h
      cases hf
      refine q x B F ρ σ H as _ ok ea fun vs B' H' g ok' hvs => ?_
      exact ⟨by rw [line_eq, ← paired_len hvs]; exact h.2, fun l hl => hQ l vs B' H' g ok' hl (paired_issNew ok' h.1 hvs)⟩
    · cases hf
/-! ### slices -/
def eSlN (f : EF) (l h : OF) : EF := fun ρ => (f ρ).bind fun a => (l ρ).bind fun lo => (h ρ).bind fun hi => match a with
  | (.lst ds, .new) => some (.lst (cutL ds lo hi), .new)
  | (.tup ds, .new) => some (.tup (cutL ds lo hi), .new)
  | _ => none
theorem pu_slN {lo hi : Option Expr} {p2 : Pos} {fl fh : OF} (ha : PuE cm X a fa) (hl : PuO cm X lo fl) (hh : PuO cm X hi fh) : PuE cm X (.Subscript a (.Slice lo hi none p2) pos) (eSlN fa fl fh) := by
  obtain ⟨t, p, q⟩ := ha
  obtain ⟨tl, pl, ql⟩ := hl
  obtain ⟨th, ph, qh⟩ := hh
  refine ⟨_, pe_slice (sl_list.or (sl_str.or sl_tupA)) p pl ph, fun x B F ρ σ H d m Q ok hf hQ => ?_⟩
  unfold eSlN at hf
  cases e1 : fa ρ with
  | none => simp [e1] at hf
  | some a1 =>
    cases e2 : fl ρ with
    | none => simp [e1, e2] at hf
    | some l =>
      cases e3 : fh ρ with
      | none => simp [e1, e2, e3] at hf
      | some u =>
        rw [e1, e2, e3] at hf
        simp only [Option.bind_some] at hf
        refine q x B F ρ σ H a1.1 a1.2 _ ok e1 fun v B1 H1 g1 ok1 hv => ?_
        refine ql x B1 F ρ σ H1 l _ ok1 e2 fun B2 H2 g2 ok2 => ?_
        refine qh x B2 F ρ σ H2 u _ ok2 e3 fun B3 H3 g3 ok3 => ?_
        have g123 := g1.trans (g2.trans g3)
        split at hf
        · rename_i ds
          cases hf
          obtain ⟨r, vs, rfl, h1, h2⟩ := (hv.mono g2).mono g3
          refine .inl ⟨r, vs, rfl, SqL.of (ok3.bh _ _ h1), fun k hk => ?_⟩
          obtain ⟨⟨g4, ok4, h4⟩, _⟩ := ok3.lay hk (h2.cut l u)
          exact hQ _ _ _ (g123.trans g4) ok4 h4
        · rename_i ds
          cases hf
          obtain ⟨r, vs, rfl, h1, h2⟩ := (hv.mono g2).mono g3
          refine .inr (.inr ⟨r, vs, rfl, SqT.of (ok3.bh _ _ h1), fun w => ?_, fun _ k hk => ?_⟩)
          · refine hQ _ _ _ g123 ok3 ⟨r, vs, rfl, h1, ?_⟩
            have q1 := h2.cut l u
            have e1 : cutV vs l u = vs := by unfold cutV; rw [w.1, w.2, List.drop_zero, Nat.sub_zero, List.take_length]
            rw [e1] at q1
            exact q1
          · obtain ⟨_, g4, ok4, h4⟩ := ok3.lay hk (h2.cut l u)
            exact hQ _ _ _ (g123.trans g4) ok4 h4
        · cases hf
/-! ### list(x), tuple(x) -/
def eLstN (g : AF) : EF := fun ρ => (g ρ).bind fun as => match as with
  | [(.lst ds, .new)] => some (.lst ds, .new)
  | [(.tup ds, .new)] => some (.lst ds, .new)
  | _ => none
theorem paired1 {α β : Type} {G : α → β → Prop} {p : α} {vs : List β} (h : Paired G [p] vs) : ∃ v, vs = [v] ∧ G p v := by
  cases h with
  | cons h t => cases t; exact ⟨_, rfl, h⟩
theorem pu_lstN {g : AF} {p : Pos} (hm : X.mg "list" = none) (ha : PuA cm X (e :: es) g) (hg : Gl X "list" := by rfl)
    (he : starEach (e :: es) X.env = (false, eval e X.env) :: starEach es X.env := by rfl) (hpl : (backTo pos (starEach es X.env)).any (·.1) = false := by rfl) : PuE cm X (.Call (.Name "list" p) (e :: es) [] pos) (eLstN g) := by
  obtain ⟨t, pa, q⟩ := ha
  refine ⟨_, pe_callTy call_list_of hg hm (by decide +kernel) pa (by decide) (by decide) he hpl, fun x B F ρ σ H d m Q ok hf hQ => ?_⟩
  unfold eLstN at hf
  cases ea : g ρ with
  | none => rw [ea] at hf; cases hf
  | some as =>
    rw [ea] at hf
    simp only [Option.bind_some] at hf
    refine q x B F ρ σ H as _ ok ea fun vs B1 H1 g1 ok1 hvs => ?_
    split at hf
    · cases hf
      obtain ⟨v, rfl, c, us, rfl, h1, h2⟩ := paired1 hvs
      exact ⟨c, us, rfl, .inl (SqL.of (ok1.bh _ _ h1)), fun l hl => hQ _ _ _ (g1.trans (ok1.lay hl h2).1.1) (ok1.lay hl h2).1.2.1 (ok1.lay hl h2).1.2.2⟩
    · cases hf
      obtain ⟨v, rfl, c, us, rfl, h1, h2⟩ := paired1 hvs
      exact ⟨c, us, rfl, .inr (SqT.of (ok1.bh _ _ h1)), fun l hl => hQ _ _ _ (g1.trans (ok1.lay hl h2).1.1) (ok1.lay hl h2).1.2.1 (ok1.lay hl h2).1.2.2⟩
    · cases hf
def eTupN (g : AF) : EF := fun ρ => (g ρ).bind fun as => match as with
  | [(.lst ds, .new)] => some (.tup ds, .new)
  | [(.tup ds, .new)] => some (.tup ds, .new)
  | _ => none
theorem pu_tupN {g : AF} {p : Pos} (hm : X.mg "tuple" = none) (ha : PuA cm X (e :: es) g) (hg : Gl X "tuple" := by rfl)
    (he : starEach (e :: es) X.env = (false, eval e X.env) :: starEach es X.env := by rfl) (hpl : (backTo pos (starEach es X.env)).any (·.1) = false := by rfl) : PuE cm X (.Call (.Name "tuple" p) (e :: es) [] pos) (eTupN g) := by
  obtain ⟨t, pa, q⟩ := ha
  refine ⟨_, pe_callTy call_tuple_of hg hm (by decide +kernel) pa (by decide) (by decide) he hpl, fun x B F ρ σ H d m Q ok hf hQ => ?_⟩
  unfold eTupN at hf
  cases ea : g ρ with
  | none => rw [ea] at hf; cases hf
  | some as =>
    rw [ea] at hf
    simp only [Option.bind_some] at hf
    refine q x B F ρ σ H as _ ok ea fun vs B1 H1 g1 ok1 hvs => ?_
    split at hf
    · cases hf
      obtain ⟨v, rfl, c, us, rfl, h1, h2⟩ := paired1 hvs
      exact ⟨c, us, rfl, .inl ⟨SqL.of (ok1.bh _ _ h1), fun l hl => hQ _ _ _ (g1.trans (ok1.lay hl h2).2.1) (ok1.lay hl h2).2.2.1 (ok1.lay hl h2).2.2.2⟩⟩
    · cases hf
      obtain ⟨v, rfl, c, us, rfl, h1, h2⟩ := paired1 hvs
      exact ⟨c, us, rfl, .inr ⟨SqT.of (ok1.bh _ _ h1), hQ _ _ _ g1 ok1 ⟨c, us, rfl, h1, h2⟩⟩⟩
    · cases hf
/-! ### {} as a value, is True -/
def eDic0 : EF := fun _ => some (.dic [], .new)
theorem pu_dic0 : PuE cm X (.Dict [] [] pos) eDic0 := by
  refine ⟨_, pe_dnewK, fun x B F ρ σ H d m Q ok hf hQ => ?_⟩
  cases hf
  intro l hl
  obtain ⟨g2, ok2⟩ := ok.laid (o := .dK []) hl
  exact hQ _ _ _ g2 ok2 ⟨l, [], rfl, upd_same, rfl⟩
def isBl (c : Bool) : D → Bool
  | .bl b => b == c
  | _ => false
def isBD (c : Bool) (d : D) : Option D := some (.bl (isBl c d))
theorem bool_is {M : Model} {A : Around} {E Q : Value → Shared → Prop} {s : Shared} {v : Value} {c : Bool} (hn : ∀ n, v ≠ .builtin n) (h : Q (.bool (v == .bool c)) s) : wpAny M A (compareOp .Is v (.bool c)) Q E s := by
  cases v <;> first | exact wpAny_pure h | exact absurd rfl (hn _)
theorem isBl_rel {Γ : Ga} {H : Hp} {d : D} {x : V} {v : Value} {c : Bool} (h : Is Γ H d x) (r : RelV x v) : (v == Value.bool c) = isBl c d := by
  cases d with
  | bl b => cases h; cases r; cases b <;> cases c <;> rfl
  | non => cases h; cases r; rfl
  | int i => cases h; obtain ⟨t, rfl⟩ := r; rfl
  | str z => cases h; obtain ⟨t, rfl⟩ := r; rfl
  | scr => obtain ⟨p, rfl, _⟩ := h; cases r; rfl
  | wtp => obtain ⟨p, rfl, _⟩ := h; cases r; rfl
  | tup => obtain ⟨p, vs, rfl, _⟩ := h; cases r; rfl
  | lst => obtain ⟨p, vs, rfl, _⟩ := h; cases r; rfl
  | dic => obtain ⟨p, vs, rfl, _⟩ := h; cases r; rfl
  | ins => obtain ⟨p, dx, vs, rfl, _⟩ := h; cases r; rfl
  | dn => obtain ⟨p, vs, rfl, _⟩ := h; cases r; rfl
  | adr => cases h; cases r; rfl
def tIsB (c : Bool) (ta : TE) : TE := fun σ H Q => ta σ H fun x H1 => ∀ v, RelV x v → Q (.bl (v == Value.bool c)) H1
theorem pc_isB {j pos'} {c : Bool} {ta : TE} (ha : PE X a ta) : PC X .Is a (.Constant (.bool c) j pos') (tIsB c ta) := by
  refine ⟨fun pins s σ H Q I h => ?_⟩
  refine thn (ha.run pins s σ H _ I h) fun v s1 ⟨x, H1, I1, r1, q1⟩ => ?_
  exact wpAny_Constant_bool (bool_is (fun n z => by subst z; cases x <;> first | (cases r1; done) | (obtain ⟨t, z⟩ := r1; cases z)) ⟨.bl _, H1, I1, rfl, q1 v r1⟩)
theorem isB_reads {ta : TE} {c : Bool} (q : ∀ (x : Fx) (B : Hp) (F : Nat → List Addr) (ρ : Ev) (σ : L2.St) (H : Hp) (d : D) (m : Md) (Q : VK), Ok (gx X cm) x B F ρ σ H → fa ρ = some (d, m) →
      (∀ v B' H', Gr B H B' H' → Ok (gx X cm) x B' F ρ σ H' → Val (gx X cm) x m B' H' d v → Q v H') → ta σ H Q)
    (x : Fx) (B : Hp) (F : Nat → List Addr) (ρ : Ev) (σ : L2.St) (H : Hp) (d : D) (m : Md) (Q : VK) (ok : Ok (gx X cm) x B F ρ σ H) (hf : e1 (isBD c) fa ρ = some (d, m))
    (hQ : ∀ v B' H', Gr B H B' H' → Ok (gx X cm) x B' F ρ σ H' → Val (gx X cm) x m B' H' d v → Q v H') : tIsB c ta σ H Q := by
  obtain ⟨d1, m1, h1, h2, rfl⟩ := e1_some hf
  cases h2
  refine q x B F ρ σ H d1 m1 _ ok h1 fun v B' H' g ok' hv u ru => hQ _ B' H' g ok' ?_
  rw [isBl_rel (hv.is ok') ru]
  rfl
theorem pu_isB {j pos'} {c : Bool} (ha : PuE cm X a fa) : PuE cm X (.Compare a [.Is] [.Constant (.bool c) j pos'] pos) (e1 (isBD c) fa) := by
  obtain ⟨t, p, q⟩ := ha
  exact ⟨_, pe_cmp (pc_isB p) rfl, isB_reads q⟩
theorem put_isB {j pos'} {c : Bool} (ha : PuE cm X a fa) : PuT cm X (.Compare a [.Is] [.Constant (.bool c) j pos'] pos) (tE (e1 (isBD c) fa)) := by
  obtain ⟨t, p, q⟩ := ha
  refine ⟨_, pt_cmp (pc_isB p) rfl, fun x B F ρ σ H b Q ok hf hQ => ?_⟩
  obtain ⟨m, hm⟩ := tE_some hf
  exact isB_reads q x B F ρ σ H _ m _ ok hm fun v B' H' g ok' hv => ⟨b, hv.is ok', hQ B' H' g ok'⟩
end
end DL

/-! DL47: own lists of things that are only read: set, extend, insert, store, freeze; dict.update. -/
namespace DL
open PySem L2 PySem.Spec PyProof.Rows
section
variable {Γ : Ga} {x : Fx} {B : Hp} {F : Nat → List Addr} {ρ : Ev} {σ : L2.St} {H : Hp}
theorem Ok.putOl (o : Ok Γ x B F ρ σ H) {i : Nat} {ds : List D} {l : Addr} {vs : List V} (hi : i < ρ.length) (hl : H l = some (.lst vs)) (hd : Iss Γ B ds vs) (hf : Loose x B F l) : Ok Γ x B (onF F i [l]) (ρ.set i (.ol ds)) (σ.set i (some (.ref l))) H where
  kp := o.kp
  bh := o.bh
  tup := o.tup
  born := o.born
  bk := o.bk
  dom := o.dom
  fk := fun j c hc => by
    unfold onF at hc
    split at hc
    · cases List.mem_singleton.mp hc; exact ⟨hf.2.1, hf.1, .inr hf.2.2.1⟩
    · exact o.fk j c hc
  dj := fun j k c h1 h2 => by
    unfold onF at h1 h2
    split at h1
    · split at h2
      · rename_i q1 q2; rw [q1, q2]
      · cases List.mem_singleton.mp h1; exact absurd h2 (hf.2.2.2 k)
    · split at h2
      · cases List.mem_singleton.mp h2; exact absurd h1 (hf.2.2.2 j)
      · exact o.dj j k c h1 h2
  nd := fun j => by
    unfold onF
    split
    · simp
    · exact o.nd j
  out := fun j hj => by
    rw [List.length_set] at hj
    unfold onF
    split
    · omega
    · exact o.out j hj
  len := by rw [List.length_set, List.length_set, o.len]
  at_ := fun j s hs => by
    by_cases q : j = i
    · subst q
      rw [List.getElem?_set_self hi] at hs
      cases hs
      rw [List.getElem?_set_self (by rw [← o.len]; exact hi), show onF F j [l] j = [l] from if_pos rfl]
      exact ⟨l, vs, rfl, rfl, hl, hd, hf.2.2.1⟩
    · rw [List.getElem?_set_ne (Ne.symm q)] at hs ⊢
      rw [show onF F i [l] j = F j from if_neg q]
      exact o.at_ j s hs
/-- the list at the slot is exchanged -/
theorem Ok.writeOlG (o : Ok Γ x B F ρ σ H) {i : Nat} {ds es : List D} {l : Addr} {vs ws : List V} (h : ρ[i]? = some (.ol ds)) (hv : σ[i]? = some (some (.ref l))) (ha : H l = some (.lst vs)) (hu : Iss Γ B es ws) : Ok Γ x B F (ρ.set i (.ol es)) σ (upd H l (.lst ws)) := by
  have hlt := (List.getElem?_eq_some_iff.mp h).1
  obtain ⟨l', vs', q1, q2, q3, q4, q5⟩ := o.at_ i _ h
  rw [hv] at q1
  cases q1
  have hm : l ∈ F i := by rw [q2]; simp
  obtain ⟨k1, k2, k3⟩ := o.fk i l hm
  have tk : TupK H (upd H l (.lst ws)) := TupK.upd (by intro xs z; rw [ha] at z; cases z)
  have other : ∀ j, j ≠ i → ∀ c ∈ F j, (upd H l (.lst ws)) c = H c := fun j hj c hc => upd_ne fun z => hj (o.dj j i c hc (by rw [z]; exact hm))
  refine ⟨fun c u e => by rw [upd_ne (fun z => by rw [z, k1] at e; cases e)]; exact o.kp c u e, fun c u e => by rw [upd_ne (fun z => by rw [z, k2] at e; cases e)]; exact o.bh c u e, fun c xs e => ?_, o.born, o.bk, fun c e => ?_, o.fk, o.dj, o.nd, fun j hj => o.out j (by rwa [List.length_set] at hj), by rw [List.length_set]; exact o.len, fun j s hs => ?_⟩
  · by_cases z : c = l
    · subst z; rw [upd_same] at e; cases e
    · rw [upd_ne z] at e; exact o.tup c xs e
  · by_cases z : c = l
    · subst z; rw [upd_same] at e; cases e
    · rw [upd_ne z] at e; exact o.dom c e
  · by_cases q : j = i
    · subst q
      rw [List.getElem?_set_self hlt] at hs
      cases hs
      exact ⟨l, ws, hv, q2, upd_same, hu, q5⟩
    · rw [List.getElem?_set_ne (Ne.symm q)] at hs
      have r := o.at_ j s hs
      cases s with
      | ow => obtain ⟨v', r1, r2, r3⟩ := r; exact ⟨v', r1, r2.keep tk (other j q), r3⟩
      | on => obtain ⟨v', r1, r2, r3⟩ := r; exact ⟨v', r1, r2.keep tk (other j q), r3⟩
      | ol => obtain ⟨c, us, r1, r2, r3, r4, r5⟩ := r; exact ⟨c, us, r1, r2, (other j q c (by rw [r2]; simp)).trans r3, r4, r5⟩
      | _ => exact r
/-- from now on only read -/
theorem Ok.freezeOl (o : Ok Γ x B F ρ σ H) {i : Nat} {ds : List D} (h : ρ[i]? = some (.ol ds)) : ∃ B', Same B B' ∧ Ok Γ x B' (offF F i) (ρ.set i (.fn (.lst ds))) σ H := by
  obtain ⟨l, vs, hv, q2, h1, h2, h0⟩ := o.at_ i _ h
  have hlt := (List.getElem?_eq_some_iff.mp h).1
  have hm : l ∈ F i := by rw [q2]; simp
  obtain ⟨k1, k2, k3⟩ := o.fk i l hm
  have sB : Same B (upd B l (.lst vs)) := same_upd k2
  refine ⟨upd B l (.lst vs), sB, o.kp, fun c u z => ?_, fun c xs z => sB _ _ (o.tup c xs z), fun c u z => ?_, fun c u z => ?_, o.dom, fun j c hc => ?_, fun j k c z1 z2 => o.dj j k c (offF_sub z1).1 (offF_sub z2).1, fun j => by unfold offF; split; exact List.nodup_nil; exact o.nd j, fun j hj => ?_, by rw [List.length_set]; exact o.len, fun j s hs => ?_⟩
  · by_cases q : c = l
    · subst q; rw [upd_same] at z; cases z; exact h1
    · rw [upd_ne q] at z; exact o.bh c u z
  · by_cases q : c = l
    · subst q; exact .inr h0
    · rw [upd_ne q] at z; exact o.born c u z
  · by_cases q : c = l
    · subst q; exact .inr k1
    · rw [upd_ne q] at z; exact o.bk c u z
  · obtain ⟨hc, hj⟩ := offF_sub hc
    obtain ⟨z1, z2, z3⟩ := o.fk j c hc
    exact ⟨z1, by rw [upd_ne (fun z => hj (o.dj j i c hc (by rw [z]; exact hm)))]; exact z2, z3⟩
  · rw [List.length_set] at hj
    unfold offF
    split
    · rfl
    · exact o.out j hj
  · by_cases q : j = i
    · subst q
      rw [List.getElem?_set_self hlt] at hs
      cases hs
      rw [show offF F j j = [] from if_pos rfl]
      exact ⟨rfl, .ref l, hv, l, vs, rfl, upd_same, h2.mono sB⟩
    · rw [List.getElem?_set_ne (Ne.symm q)] at hs
      rw [show offF F i j = F j from if_neg q]
      have r := o.at_ j s hs
      cases s with
      | fn => obtain ⟨r0, v', r1, r2⟩ := r; exact ⟨r0, v', r1, r2.mono sB⟩
      | ol => obtain ⟨c, us, r1, r2, r3, r4, r5⟩ := r; exact ⟨c, us, r1, r2, r3, r4.mono sB, r5⟩
      | _ => exact r
end
section
variable {cm : Nat → Addr} {X : Cx} {pos : Pos} {e e2 k : Expr} {f fk : EF} {i : Nat}
def sSetO (i : Nat) (f : Ev → Option (List D)) : SF := fun ρ => (f ρ).bind fun ds => (ρ[i]?).bind fun s => if freeS s = true then some (.nx (ρ.set i (.ol ds))) else none
theorem pus_setO (i : Nat) {y : Str} {pos' : Pos} {g : Ev → Option (List D)} (hN : X.N.Nodup) (he : PuQ cm X e g) (hi : X.N[i]? = some y := by rfl) (hx : Loc X.env.scope y := by first | exact .inl rfl | exact .inr rfl)
    (hs : swapsWith e (some (.Name y pos')) pos.line X.env = pure false := by rfl) (hf : X.fn y = true ∨ X.env.scope.names.lookup y = some .local := by first | exact .inl rfl | exact .inr rfl) : PuS cm X (.Assign [.Name y pos'] e pos) (sSetO i g) := by
  obtain ⟨t, p, q⟩ := he
  refine ⟨_, ps_set hN hi hx p hs hf, fun x B F ρ σ H r E ok hf hE => ?_⟩
  unfold sSetO at hf
  cases e1 : g ρ with
  | none => rw [e1] at hf; cases hf
  | some ds =>
    rw [e1] at hf
    simp only [Option.bind_some] at hf
    cases e2 : ρ[i]? with
    | none => rw [e2] at hf; cases hf
    | some s =>
      rw [e2] at hf
      simp only [Option.bind_some] at hf
      split at hf
      · cases hf
        have hlt := (List.getElem?_eq_some_iff.mp e2).1
        refine q x B F ρ σ H ds _ ok e1 fun l vs B1 H1 g1 ok1 hl hd => ?_
        obtain ⟨g2, ok2⟩ := ok1.laidH (o := .lst vs) hl (fun xs z => nomatch z)
        exact hE B1 _ _ _ (g1.trans g2).bb (ok2.putOl hlt upd_same hd (ok2.loose ok1 hl (ok1.bh.free hl)))
      · cases hf
noncomputable def bFrozO (i : Nat) (g : SF) : SF := fun ρ => match ρ[i]? with
  | some (.ol ds) => g (ρ.set i (.fn (.lst ds)))
  | _ => none
theorem pub_frozO (i : Nat) {sts : List Stmt} {g : SF} (h : PuB cm X sts g) : PuB cm X sts (bFrozO i g) := by
  obtain ⟨t, p, q⟩ := h
  refine ⟨t, p, fun x B F ρ σ H r E ok hf hE => ?_⟩
  unfold bFrozO at hf
  split at hf
  · rename_i ds e
    obtain ⟨B', sB, ok'⟩ := ok.freezeOl e
    exact q x B' _ _ σ H r E ok' hf (hE.mono sB)
  · cases hf
/-- .. behind a statement -/
noncomputable def sFrozO (i : Nat) (g : SF) : SF := fun ρ => (g ρ).bind fun r => match r with
  | .nx ρ' => match ρ'[i]? with
    | some (.ol ds) => some (.nx (ρ'.set i (.fn (.lst ds))))
    | _ => none
  | r => some r
theorem pus_frozO (i : Nat) {st : Stmt} {g : SF} (h : PuS cm X st g) : PuS cm X st (sFrozO i g) := by
  obtain ⟨t, p, q⟩ := h
  refine ⟨t, p, fun x B F ρ σ H r E ok hf hE => ?_⟩
  unfold sFrozO at hf
  cases e1 : g ρ with
  | none => rw [e1] at hf; cases hf
  | some r1 =>
    rw [e1] at hf
    refine q x B F ρ σ H r1 E ok e1 ?_
    cases r1 with
    | nx ρ1 =>
      simp only [Option.bind_some] at hf
      split at hf
      · rename_i ds e
        cases hf
        intro B1 F1 σ1 H1 s ok1
        obtain ⟨B', sB, ok'⟩ := ok1.freezeOl e
        exact hE B' _ σ1 H1 (s.trans sB) ok'
      · cases hf
    | rt => cases hf; exact hE
    | bk => cases hf; exact hE
    | ct => cases hf; exact hE
/-- P.extend(e) -/
def sExtO (i : Nat) (f : EF) : SF := fun ρ => match ρ[i]? with
  | some (.ol ds) => (f ρ).bind fun y => match y with
    | (.lst es, .new) => if ds.length + es.length ≤ 16777216 then some (.nx (ρ.set i (.ol (ds ++ es)))) else none
    | _ => none
  | _ => none
theorem pus_extO (i : Nat) {y : Str} {xpos apos : Pos} {pos2 : Pos} (hv : PuE cm X e2 f) (hN : X.N[i]? = some y := by rfl) (hvi : Vis X.env.scope y := by first | exact Or.inl rfl | exact Or.inr (Or.inl rfl) | exact Or.inr (Or.inr rfl))
    (hd : (y == ("__debug__" : Str)) = false := by decide) (hcd : (y == ("__classdict__" : Str)) = false := by decide) (hs : swapsWith (.Call (.Attribute (.Name y xpos) "extend" apos) [e2] [] pos) none pos2.line X.env = pure false := by rfl)
    (hbase : attributeBase (.Name y xpos) "extend" X.env (eval (.Name y xpos) X.env) = eval (.Name y xpos) X.env := by rfl)
    (hfew : ((backTo pos (starEach [e2] X.env)).all (fun x => !x.1) && (backToKw pos (keywordEach [] X.env)).all (fun x => x.1.isSome)
      && decide ([e2].length + ([] : List Keyword).length + (if ([] : List Keyword).isEmpty then 0 else 1) < 30)) = true := by rfl)
    (hline : (apos.endLine == pos.line) = true := by rfl) (hst : starEach [e2] X.env = (false, eval e2 X.env) :: starEach [] X.env := by rfl) (hplain : (backTo pos (starEach [] X.env)).any (·.1) = false := by rfl) :
    PuS cm X (.Expr (.Call (.Attribute (.Name y xpos) "extend" apos) [e2] [] pos) pos2) (sExtO i f) := by
  obtain ⟨t2, p2, q2⟩ := hv
  refine ⟨_, ps_expr (pe_bm PySem.F.plainAttrs_list PySem.F.slot_list_extend PySem.F.type_list_extend mt_extend (pe_var hN hvi hd hcd) (pa_cons p2 pa_nil hst) hbase hfew hline hst hplain) hs, fun x B F ρ σ H r E ok hf hE => ?_⟩
  unfold sExtO at hf
  split at hf
  · rename_i ds hρ
    cases en : f ρ with
    | none => rw [en] at hf; cases hf
    | some y =>
      rw [en] at hf
      simp only [Option.bind_some] at hf
      split at hf
      · rename_i es
        split at hf
        · rename_i hlen
          cases hf
          obtain ⟨l, vs, q1, q3, q4, q5, q6⟩ := ok.at_ i _ hρ
          refine ⟨.ref l, q1, .inl ⟨rfl, _, SqL.of q4⟩, ?_⟩
          refine q2 x B F ρ σ H _ _ _ ok en fun u B2 H2 g2 ok2 hu => ?_
          obtain ⟨c, us, rfl, k1, k2⟩ := hu
          have h1 := g2.hh _ _ q4
          refine ⟨l, c, vs, us, rfl, rfl, h1, ok2.bh _ _ k1, by rw [line_eq, q5.length, k2.length]; exact hlen, ?_⟩
          exact hE B2 F σ _ g2.bb (ok2.writeOlG hρ q1 h1 ((q5.mono g2.bb).append k2))
        · cases hf
      · cases hf
  · cases hf
/-- P.insert(k, e) -/
def sInsO (i : Nat) (fk f : EF) : SF := fun ρ => match ρ[i]? with
  | some (.ol ds) => (fk ρ).bind fun j => (f ρ).bind fun y => match j.1 with
    | .int j => if (flat y.1 || isNew y.2) = true ∧ ds.length < 16777216 ∧ 0 ≤ j ∧ j < 16777217 then some (.nx (ρ.set i (.ol (ds.take j.toNat ++ [y.1] ++ ds.drop j.toNat)))) else none
    | _ => none
  | _ => none
theorem pus_insO (i : Nat) {y : Str} {xpos apos : Pos} {pos2 : Pos} (hk : PuE cm X k fk) (hv : PuE cm X e2 f) (hN : X.N[i]? = some y := by rfl) (hvi : Vis X.env.scope y := by first | exact Or.inl rfl | exact Or.inr (Or.inl rfl) | exact Or.inr (Or.inr rfl))
    (hd : (y == ("__debug__" : Str)) = false := by decide) (hcd : (y == ("__classdict__" : Str)) = false := by decide) (hs : swapsWith (.Call (.Attribute (.Name y xpos) "insert" apos) [k, e2] [] pos) none pos2.line X.env = pure false := by rfl)
    (hbase : attributeBase (.Name y xpos) "insert" X.env (eval (.Name y xpos) X.env) = eval (.Name y xpos) X.env := by rfl)
    (hfew : ((backTo pos (starEach [k, e2] X.env)).all (fun x => !x.1) && (backToKw pos (keywordEach [] X.env)).all (fun x => x.1.isSome)
      && decide ([k, e2].length + ([] : List Keyword).length + (if ([] : List Keyword).isEmpty then 0 else 1) < 30)) = true := by rfl)
    (hline : (apos.endLine == pos.line) = true := by rfl) (hst : starEach [k, e2] X.env = (false, eval k X.env) :: starEach [e2] X.env := by rfl) (hst2 : starEach [e2] X.env = (false, eval e2 X.env) :: starEach [] X.env := by rfl)
    (hplain : (backTo pos (starEach [e2] X.env)).any (·.1) = false := by rfl) :
    PuS cm X (.Expr (.Call (.Attribute (.Name y xpos) "insert" apos) [k, e2] [] pos) pos2) (sInsO i fk f) := by
  obtain ⟨t1, p1, q1'⟩ := hk
  obtain ⟨t2, p2, q2⟩ := hv
  refine ⟨_, ps_expr (pe_bm PySem.F.plainAttrs_list PySem.F.slot_list_insert PySem.F.type_list_insert mt_insert (pe_var hN hvi hd hcd) (pa_cons p1 (pa_cons p2 pa_nil hst2) hst) hbase hfew hline hst hplain) hs, fun x B F ρ σ H r E ok hf hE => ?_⟩
  unfold sInsO at hf
  split at hf
  · rename_i ds hρ
    cases ek : fk ρ with
    | none => rw [ek] at hf; cases hf
    | some j =>
      cases en : f ρ with
      | none => rw [ek, en] at hf; cases hf
      | some y =>
        rw [ek, en] at hf
        simp only [Option.bind_some] at hf
        obtain ⟨j, mj⟩ := j
        cases j with
        | int j =>
          dsimp only at hf
          split at hf
          · rename_i hc
            cases hf
            obtain ⟨l, vs, q1, q3, q4, q5, q6⟩ := ok.at_ i _ hρ
            refine ⟨.ref l, q1, .inl ⟨rfl, _, SqL.of q4⟩, ?_⟩
            refine q1' x B F ρ σ H _ _ _ ok ek fun w B1 H1 g1 ok1 hw => ?_
            cases hw.is ok1
            refine q2 x B1 F ρ σ H1 y.1 y.2 _ ok1 en fun u B2 H2 g2 ok2 hu => ?_
            have h1 := g2.hh _ _ (g1.hh _ _ q4)
            refine ⟨l, vs, j, u, rfl, rfl, h1, by rw [line_eq, q5.length]; exact hc.2.1, hc.2.2.1, by have := hc.2.2.2; omega, ?_⟩
            have q5' := q5.mono (g1.bb.trans g2.bb)
            exact hE B2 F σ _ (g1.bb.trans g2.bb) (ok2.writeOlG hρ q1 h1 (((q5'.take _).snoc (Val.new ok2 hc.1 hu)).append (q5'.drop _)))
          · cases hf
        | _ => cases hf
  · cases hf
/-- P[k] = e -/
def sSubO (i : Nat) (fk f : EF) : SF := fun ρ => match ρ[i]? with
  | some (.ol ds) => (f ρ).bind fun y => (fk ρ).bind fun j => match j.1 with
    | .int j => if (flat y.1 || isNew y.2) = true then (ixN ds.length j).map fun n => .nx (ρ.set i (.ol (ds.set n y.1))) else none
    | _ => none
  | _ => none
theorem Iss.set {Γ : Ga} {H : Hp} {y : D} {u : V} (hu : Is Γ H y u) : ∀ {ds : List D} {vs : List V} (n : Nat), Iss Γ H ds vs → Iss Γ H (ds.set n y) (vs.set n u)
  | [], _, _, h => by rw [show _ = [] from h]; rfl
  | _ :: _, _, 0, ⟨v, r, e, h1, h2⟩ => by subst e; exact ⟨u, r, rfl, hu, h2⟩
  | _ :: _, _, n + 1, ⟨v, r, e, h1, h2⟩ => by subst e; exact ⟨v, r.set n u, rfl, h1, Iss.set hu n h2⟩
theorem pus_subO (i : Nat) {y : Str} {xpos pos' : Pos} (hv : PuE cm X e2 f) (hk : PuE cm X k fk) (hN : X.N[i]? = some y := by rfl) (hvi : Vis X.env.scope y := by first | exact Or.inl rfl | exact Or.inr (Or.inl rfl) | exact Or.inr (Or.inr rfl))
    (hd : (y == ("__debug__" : Str)) = false := by decide) (hcd : (y == ("__classdict__" : Str)) = false := by decide)
    (hs : swapsWithSole [.Subscript (.Name y xpos) k pos'] e2 pos.line X.env = pure false := by rfl) (hw : swappedStores [.Subscript (.Name y xpos) k pos'] e2 X.env = pure none := by rfl)
    (h1 : (assignEach [.Subscript (.Name y xpos) k pos'] X.env).map (·.2) = [assign (.Subscript (.Name y xpos) k pos') X.env] := by rfl)
    (ha : ∀ v, assign (.Subscript (.Name y xpos) k pos') X.env v = (do
      let ov ← holding [v] (eval (.Name y xpos) X.env)
      let iv ← holding [v, ov] (eval k X.env)
      standAt pos'
      holding [v, ov, iv] (setItem ov iv v)
      release [v, ov, iv] []) := by intro _; rfl) : PuS cm X (.Assign [.Subscript (.Name y xpos) k pos'] e2 pos) (sSubO i fk f) := by
  obtain ⟨t2, p2, q2⟩ := hv
  obtain ⟨t3, p3, q3⟩ := hk
  refine ⟨_, ps_asg p2 (pg_sub (pe_var hN hvi hd hcd) p3 set_list ha) hs hw h1, fun x B F ρ σ H r E ok hf hE => ?_⟩
  unfold sSubO at hf
  split at hf
  · rename_i ds hρ
    cases en : f ρ with
    | none => rw [en] at hf; cases hf
    | some y =>
      rw [en] at hf
      simp only [Option.bind_some] at hf
      cases ek : fk ρ with
      | none => rw [ek] at hf; cases hf
      | some j =>
        rw [ek] at hf
        simp only [Option.bind_some] at hf
        obtain ⟨j, mj⟩ := j
        cases j with
        | int j =>
          dsimp only at hf
          split at hf
          · rename_i hc
            cases ex : ixN ds.length j with
            | none => rw [ex] at hf; cases hf
            | some n =>
              rw [ex] at hf
              cases hf
              refine q2 x B F ρ σ H y.1 y.2 _ ok en fun u B1 H1 g1 ok1 hu => ?_
              obtain ⟨l, vs, q1, q3', q4, q5, q6⟩ := ok1.at_ i _ hρ
              refine ⟨.ref l, q1, ?_⟩
              refine q3 x B1 F ρ σ H1 _ _ _ ok1 ek fun w B2 H2 g2 ok2 hw2 => ?_
              cases hw2.is ok2
              have h2 := g2.hh _ _ q4
              refine ⟨l, vs, j, n, rfl, rfl, h2, by rw [q5.length]; exact ex, ?_⟩
              exact hE B2 F σ _ (g1.bb.trans g2.bb) (ok2.writeOlG hρ q1 h2 (Iss.set ((Val.new ok1 hc hu).mono g2.bb) n (q5.mono g2.bb)))
          · cases hf
        | _ => cases hf
  · cases hf
end
end DL

/-! DL48: dict.update of one's own dict; != of like things that hold empty dicts. -/
namespace DL
open PySem L2 PySem.Spec PyProof.Rows
theorem kv_app {κ : Type} {b : List (κ × V)} {v : List (κ × Value)} (k : KV b v) : ∀ {a : List (κ × V)} {u : List (κ × Value)}, KV a u → KV (a ++ b) (u ++ v)
  | _, _, .nil => k
  | _, _, .cons h t => .cons h (kv_app k t)
theorem kv_keys {κ : Type} : ∀ {a : List (κ × V)} {u : List (κ × Value)}, KV a u → u.map (·.1) = a.map (·.1)
  | _, _, .nil => rfl
  | _, _, .cons h t => by rw [List.map_cons, List.map_cons, kv_keys t, h.1]
/-- d.update(d2), no key in both -/
theorem mt_update {X : Cx} : MtR X "dict.update" (fun x vs H Q => ∃ (a b : Addr) (ks ls : List (Key × V)), x = .ref a ∧ vs = [.ref b] ∧ a ≠ b ∧ H a = some (.dK ks) ∧ H b = some (.dK ls) ∧ ks.length + ls.length ≤ sizeLine ∧ ((ks ++ ls).map (·.1)).Nodup ∧ Q .non (upd H a (.dK (ks ++ ls)))) := by
  intro pins s σ H x vs v us Q I rx rv h
  obtain ⟨a, b, ks, ls, rfl, rfl, hab, ha, hb, hl, hn, q⟩ := h
  cases rx
  obtain ⟨u, rfl, ru⟩ := vals1 rv
  cases ru
  obtain ⟨la, lo, ka, ra, da⟩ := (show ObjOk X.prog X.w H s.heap a (.dK ks) from I.hok a _ ha)
  obtain ⟨lb, lo2, kb, rb, db⟩ := (show ObjOk X.prog X.w H s.heap b (.dK ls) from I.hok b _ hb)
  refine call_meetsIn PySem.F.slot_dict_update da.typeIs PySem.F.entry_dict_update (PySem.F.args_dict_update_2 _ _) (meets_dict_update (mixKind X.prog X.w) a b hab lo2)
    ⟨ka, kb, da, db, by rw [← ra.length, ← rb.length]; exact hl, fun h' hd' _ hs => ?_⟩
  have ek : (ka ++ kb).map (·.1) = (ks ++ ls).map (·.1) := by rw [List.map_append, List.map_append, kv_keys ra, kv_keys rb]
  rw [merged_append_of_fresh ka kb (by rw [ek]; exact hn)] at hd'
  have J := I.write (t' := s.toks) (x := a) (e := a) (o := .dK (ks ++ ls)) (by rw [ha]; exact True.intro) (.inl rfl) (fun c u hc e => (hs.2 c hc).trans e) (by obtain ⟨o, _, _, ho, _⟩ := hd'; exact ⟨o, ho⟩)
    ⟨by rw [List.length_append]; exact hl, lo, ka ++ kb, kv_app rb ra, hd'⟩
  exact ⟨.non, _, J, rfl, q⟩
section
variable {cm : Nat → Addr} {X : Cx} {pos : Pos} {e e2 k : Expr} {f fk : EF} {i : Nat}
def sUpd (i : Nat) (f : EF) : SF := fun ρ => match ρ[i]? with
  | some (.on (.dic ks)) => (f ρ).bind fun y => match y with
    | (.dic ls, .new) => if flats (ks.map (·.2)) = true ∧ flats (ls.map (·.2)) = true ∧ ks.length + ls.length ≤ 16777216 ∧ decide (((ks ++ ls).map (·.1)).Nodup) = true then some (.nx (ρ.set i (.on (.dic (ks ++ ls))))) else none
    | _ => none
  | _ => none
theorem ownK_flat {Γ : Ga} {H : Hp} : ∀ {ks : List (Key × D)} {vs : List (Key × V)}, flats (ks.map (·.2)) = true → IsK Γ H ks vs → OwnK Γ H ks vs []
  | [], _, _, h => ⟨h, rfl⟩
  | (_, _) :: _, _, f, ⟨v, r, e, h1, h2⟩ => by
    rw [List.map_cons, flats, Bool.and_eq_true] at f
    exact ⟨v, r, [], [], e, Own.ofFlat f.1 h1, ownK_flat f.2 h2, rfl⟩
theorem isK_app {Γ : Ga} {H : Hp} {js : List (Key × D)} {us : List (Key × V)} (k : IsK Γ H js us) : ∀ {ks : List (Key × D)} {vs : List (Key × V)}, IsK Γ H ks vs → IsK Γ H (ks ++ js) (vs ++ us)
  | [], _, h => by rw [show _ = [] from h]; exact k
  | (_, _) :: _, _, ⟨v, r, e, h1, h2⟩ => by subst e; exact ⟨v, r ++ us, rfl, h1, isK_app k h2⟩
theorem isK_keys {Γ : Ga} {H : Hp} : ∀ {ks : List (Key × D)} {vs : List (Key × V)}, IsK Γ H ks vs → vs.map (·.1) = ks.map (·.1)
  | [], _, h => by rw [show _ = [] from h]; rfl
  | (_, _) :: _, _, ⟨v, r, e, h1, h2⟩ => by subst e; rw [List.map_cons, List.map_cons, isK_keys h2]
theorem ownK_flatIs {Γ : Ga} {H : Hp} : ∀ {ks : List (Key × D)} {vs : List (Key × V)} {fp : List Addr}, flats (ks.map (·.2)) = true → OwnK Γ H ks vs fp → fp = [] ∧ IsK Γ H ks vs
  | [], _, _, _, h => ⟨h.2, h.1⟩
  | (_, _) :: _, _, _, f, ⟨v, r, f1, f2, e, h1, h2, ef⟩ => by
    rw [List.map_cons, flats, Bool.and_eq_true] at f
    obtain ⟨z, h3⟩ := ownK_flatIs f.2 h2
    exact ⟨by rw [ef, z, own_flat_nil f.1 h1]; rfl, v, r, e, h1.is, h3⟩
theorem pus_upd (i : Nat) {y : Str} {xpos apos : Pos} {pos2 : Pos} (hv : PuE cm X e2 f) (hN : X.N[i]? = some y := by rfl) (hvi : Vis X.env.scope y := by first | exact Or.inl rfl | exact Or.inr (Or.inl rfl) | exact Or.inr (Or.inr rfl))
    (hd : (y == ("__debug__" : Str)) = false := by decide) (hcd : (y == ("__classdict__" : Str)) = false := by decide) (hs : swapsWith (.Call (.Attribute (.Name y xpos) "update" apos) [e2] [] pos) none pos2.line X.env = pure false := by rfl)
    (hbase : attributeBase (.Name y xpos) "update" X.env (eval (.Name y xpos) X.env) = eval (.Name y xpos) X.env := by rfl)
    (hfew : ((backTo pos (starEach [e2] X.env)).all (fun x => !x.1) && (backToKw pos (keywordEach [] X.env)).all (fun x => x.1.isSome)
      && decide ([e2].length + ([] : List Keyword).length + (if ([] : List Keyword).isEmpty then 0 else 1) < 30)) = true := by rfl)
    (hline : (apos.endLine == pos.line) = true := by rfl) (hst : starEach [e2] X.env = (false, eval e2 X.env) :: starEach [] X.env := by rfl) (hplain : (backTo pos (starEach [] X.env)).any (·.1) = false := by rfl) :
    PuS cm X (.Expr (.Call (.Attribute (.Name y xpos) "update" apos) [e2] [] pos) pos2) (sUpd i f) := by
  obtain ⟨t2, p2, q2⟩ := hv
  refine ⟨_, ps_expr (pe_bm PySem.F.plainAttrs_dict PySem.F.slot_dict_update PySem.F.type_dict_update mt_update (pe_var hN hvi hd hcd) (pa_cons p2 pa_nil hst) hbase hfew hline hst hplain) hs, fun x B F ρ σ H r E ok hf hE => ?_⟩
  unfold sUpd at hf
  split at hf
  · rename_i ks hρ
    cases en : f ρ with
    | none => rw [en] at hf; cases hf
    | some y =>
      rw [en] at hf
      simp only [Option.bind_some] at hf
      split at hf
      · rename_i ls
        split at hf
        · rename_i hc
          obtain ⟨c1, c2, c3, c4⟩ := hc
          cases hf
          obtain ⟨v, q1, ho, hn⟩ := ok.at_ i _ hρ
          obtain ⟨a, vs, fq, rfl, h1, h2, ef⟩ := id ho
          refine ⟨.ref a, q1, .inr (.inr (.inl ⟨rfl, .inl ⟨_, h1⟩⟩)), ?_⟩
          refine q2 x B F ρ σ H _ _ _ ok en fun u B2 H2 g2 ok2 hu => ?_
          obtain ⟨b, us, rfl, k1, k2⟩ := hu
          have h1' := g2.hh _ _ h1
          have hm : a ∈ F i := by rw [ef]; simp
          have hab : a ≠ b := fun z => by
            have z2 := (ok2.fk i a hm).2.1
            rw [z, k1] at z2
            cases z2
          obtain ⟨rfl, hk1⟩ := ownK_flatIs c1 h2
          have hv2 : IsK (gx X cm) H2 ks vs := IsK.mono g2.hh hk1
          have hu2 : IsK (gx X cm) H2 ls us := IsK.mono ok2.bh k2
          have happ := isK_app hu2 hv2
          have lv : vs.length = ks.length := by have := congrArg List.length (isK_keys hv2); simpa using this
          have lu : us.length = ls.length := by have := congrArg List.length (isK_keys hu2); simpa using this
          refine ⟨a, b, vs, us, rfl, rfl, hab, h1', ok2.bh _ _ k1, by rw [line_eq, lv, lu]; exact c3, by rw [isK_keys happ]; exact of_decide_eq_true c4, ?_⟩
          have tk : Same (tupOf H2) (upd H2 a (.dK (vs ++ us))) := fun c o z => by
            obtain ⟨z1, xs, rfl⟩ := tupOf_some z
            rw [upd_ne (fun q => by rw [q, h1'] at z1; cases z1)]
            exact z1
          have hfl : flats ((ks ++ ls).map (·.2)) = true := by rw [List.map_append, flats_append, c1, c2]; rfl
          have hflat : OwnK (gx X cm) (upd H2 a (.dK (vs ++ us))) (ks ++ ls) (vs ++ us) [] := by
            refine ownK_flat hfl ?_
            have go : ∀ {js : List (Key × D)} {ws : List (Key × V)}, flats (js.map (·.2)) = true → IsK (gx X cm) H2 js ws → IsK (gx X cm) (upd H2 a (.dK (vs ++ us))) js ws := by
              intro js
              induction js with
              | nil => intro ws _ h; exact h
              | cons p js ih =>
                intro ws ff h
                obtain ⟨key, d⟩ := p
                rw [List.map_cons, flats, Bool.and_eq_true] at ff
                obtain ⟨w, r, e, z1, z2⟩ := h
                exact ⟨w, r, e, (Is.ofFlat ff.1 z1).mono tk, ih ff.2 z2⟩
            exact go hfl happ
          have ok3 := ok2.write (i := i) (d := .dic ks) (d' := .dic (ks ++ ls)) (v := .ref a) (fp := [a]) (H' := upd H2 a (.dK (vs ++ us))) (by unfold ownD; rw [hρ]) q1 (fun c u hc z => by rw [upd_ne (fun q => hc (by rw [q]; exact hm))]; exact z)
            (fun c z => by
              by_cases q : c = a
              · subst q; rw [upd_same] at z; cases z
              · rw [upd_ne q] at z; exact z)
            (fun c xs z => by
              by_cases q : c = a
              · subst q; rw [upd_same] at z; cases z
              · rw [upd_ne q] at z; exact z)
            ⟨a, vs ++ us, [], rfl, upd_same, hflat, rfl⟩ (by simp) (fun c hc => .inl (by rw [List.mem_singleton.mp hc]; exact hm))
          have es : setOwn ρ i (.dic (ks ++ ls)) = ρ.set i (.on (.dic (ks ++ ls))) := by unfold setOwn; rw [hρ]
          rw [es] at ok3
          exact hE B2 _ σ _ g2.bb ok3
        · cases hf
      · cases hf
  · cases hf
end

/-! ### != of like things -/
/-- what may be compared: of a depth below k; empty dicts too -/
def dq : Nat → D → Bool
  | _, .non => true
  | _, .bl _ => true
  | _, .int _ => true
  | _, .str z => PyData.strOk z
  | n + 1, .tup ds => ds.all (dq n)
  | n + 1, .lst ds => ds.all (dq n)
  | n + 1, .dic [] => true
  | _, _ => false
theorem dictOf_any {P P' : Program} {w w' : World} {h : Heap} {a : Addr} (d : h.DictOf (mixKind P w) a []) : h.DictOf (mixKind P' w') a ([] : List (Key × Value)) := by
  obtain ⟨o, es, ep, ho, hx, hd, hk, hp, hn⟩ := d
  have e0 : es.toList = [] := by
    cases he : es.toList with
    | nil => rfl
    | cons c r => rw [he] at hp; cases hp
  have e1 : es = #[] := by
    obtain ⟨l⟩ := es
    simp only at e0
    rw [e0]
  subst e1
  exact ⟨o, #[], ep, ho, hx, hd, fun c hc => by simp at hc, .nil, hn⟩
section
variable {X : Cx} {pins : List (Addr × Obj)} {σ : L2.St} {H : Hp} {s : Shared} {cm : Nat → Addr}
theorem like_at (I : Inv X pins σ H s) : ∀ (n : Nat) (d : D), dq n d = true → ∀ (x y : V) (u v : Value), Is (gx X cm) H d x → Is (gx X cm) H d y → RelV x u → RelV y v → ∀ A : Around, A.units + n < cLine → SeqAt.EqAt A s u v true
  | _, .non, _, x, y, u, v, hx, hy, rx, ry, A, _ => by cases hx; cases hy; cases rx; cases ry; exact SeqAt.EqAt.same _
  | _, .bl b, _, x, y, u, v, hx, hy, rx, ry, A, _ => by cases hx; cases hy; cases rx; cases ry; exact SeqAt.EqAt.same _
  | _, .int z, _, x, y, u, v, hx, hy, rx, ry, A, hu => by
    cases hx; cases hy
    obtain ⟨t, rfl⟩ := rx
    obtain ⟨t', rfl⟩ := ry
    have q := SeqAt.eqAt_reads (.int z) (.int z) A s _ _ _ _ (Reads.int z t) (Reads.int z t') rfl rfl (by simp [PyData.depth]; omega)
    simpa [PyData.eqv] using q
  | _, .str z, hz, x, y, u, v, hx, hy, rx, ry, A, hu => by
    cases hx; cases hy
    obtain ⟨t, rfl⟩ := rx
    obtain ⟨t', rfl⟩ := ry
    have hz' : PyData.strOk z = true := by
      revert hz
      unfold dq
      exact id
    have q := SeqAt.eqAt_reads (.str z) (.str z) A s _ _ _ _ (Reads.str z t) (Reads.str z t') hz' hz' (by simp [PyData.depth]; omega)
    simpa [PyData.eqv] using q
  | n + 1, .tup ds, hd, x, y, u, v, hx, hy, rx, ry, A, hu => by
    obtain ⟨a, vs, rfl, h1, h2⟩ := hx
    obtain ⟨b, us, rfl, k1, k2⟩ := hy
    cases rx
    cases ry
    by_cases e : a = b
    · subst e; exact SeqAt.EqAt.same _
    · obtain ⟨its, r1, p1, _⟩ := I.tuple (SqT.of h1)
      obtain ⟨its2, r2, p2, _⟩ := I.tuple (SqT.of k1)
      have l1 : its.toArray.size = ds.length := by rw [List.size_toArray, ← r1.length, h2.length]
      have l2 : its2.toArray.size = ds.length := by rw [List.size_toArray, ← r2.length, k2.length]
      refine SeqAt.EqAt.of_refs e ?_
      have q := SeqAt.RcAt.tuples (A := A) (e := fun _ => true) p1 p2 (by omega) fun j j1 j2 => by
        have hj : j < ds.length := by omega
        obtain ⟨v1, e1, w1⟩ := h2.get (List.getElem?_eq_getElem hj)
        obtain ⟨v2, e2, w2⟩ := k2.get (List.getElem?_eq_getElem hj)
        obtain ⟨c1, f1, g1⟩ := r1.get e1
        obtain ⟨c2, f2, g2⟩ := r2.get e2
        have hdj : dq n ds[j] = true := by
          unfold dq at hd
          exact List.all_eq_true.mp hd _ (List.getElem_mem hj)
        have t1 : its.toArray[j] = c1 := by
          have := (List.getElem?_eq_some_iff.mp f1).2
          simpa using this
        have t2 : its2.toArray[j] = c2 := by
          have := (List.getElem?_eq_some_iff.mp f2).2
          simpa using this
        rw [t1, t2]
        exact like_at I n ds[j] hdj v1 v2 c1 c2 w1 w2 g1 g2 A.in1 (by show A.units + 1 + n < cLine; omega)
      have ez : ((List.range (min its.toArray.size its2.toArray.size)).all (fun _ => true) && its.toArray.size == its2.toArray.size) = true := by
        rw [l1, l2]; simp
      rw [ez] at q
      exact q
  | n + 1, .lst ds, hd, x, y, u, v, hx, hy, rx, ry, A, hu => by
    obtain ⟨a, vs, rfl, h1, h2⟩ := hx
    obtain ⟨b, us, rfl, k1, k2⟩ := hy
    cases rx
    cases ry
    by_cases e : a = b
    · subst e; exact SeqAt.EqAt.same _
    · obtain ⟨its, r1, p1, _⟩ := I.list (SqL.of h1)
      obtain ⟨its2, r2, p2, _⟩ := I.list (SqL.of k1)
      have l1 : its.toArray.size = ds.length := by rw [List.size_toArray, ← r1.length, h2.length]
      have l2 : its2.toArray.size = ds.length := by rw [List.size_toArray, ← r2.length, k2.length]
      refine SeqAt.EqAt.of_refs e ?_
      have q := SeqAt.RcAt.lists (A := A) (e := fun _ => true) p1.isList p2.isList (by omega) (by omega) fun j j1 j2 => by
        have hj : j < ds.length := by omega
        obtain ⟨v1, e1, w1⟩ := h2.get (List.getElem?_eq_getElem hj)
        obtain ⟨v2, e2, w2⟩ := k2.get (List.getElem?_eq_getElem hj)
        obtain ⟨c1, f1, g1⟩ := r1.get e1
        obtain ⟨c2, f2, g2⟩ := r2.get e2
        have hdj : dq n ds[j] = true := by
          unfold dq at hd
          exact List.all_eq_true.mp hd _ (List.getElem_mem hj)
        have t1 : its.toArray[j] = c1 := by
          have := (List.getElem?_eq_some_iff.mp f1).2
          simpa using this
        have t2 : its2.toArray[j] = c2 := by
          have := (List.getElem?_eq_some_iff.mp f2).2
          simpa using this
        rw [t1, t2]
        exact like_at I n ds[j] hdj v1 v2 c1 c2 w1 w2 g1 g2 A.in1 (by show A.units + 1 + n < cLine; omega)
      rw [show (List.range its.toArray.size).all (fun _ => true) = true by simp] at q
      exact q
  | n + 1, .dic [], hd, x, y, u, v, hx, hy, rx, ry, A, hu => by
    obtain ⟨a, vs, rfl, h1, h2⟩ := hx
    obtain ⟨b, us, rfl, k1, k2⟩ := hy
    cases rx
    cases ry
    cases (show vs = [] from h2)
    cases (show us = [] from k2)
    by_cases e : a = b
    · subst e; exact SeqAt.EqAt.same _
    · refine SeqAt.EqAt.of_refs e fun P w E Q hq => ?_
      obtain ⟨_, la, va, ra, da⟩ := (show ObjOk X.prog X.w H s.heap a (.dK []) from I.hok a _ h1)
      obtain ⟨_, lb, vb, rb, db⟩ := (show ObjOk X.prog X.w H s.heap b (.dK []) from I.hok b _ k1)
      cases ra
      cases rb
      exact PySem.W.keq_eq (knd := mixKind P w) (r := true) la lb (dictOf_any da) (dictOf_any db) (by omega) (fun _ => .nil) (by simpa using hq)
  | n + 1, .dic (_ :: _), hd, _, _, _, _, _, _, _, _, _, _ => by simp [dq] at hd
  | 0, .tup _, hd, _, _, _, _, _, _, _, _, _, _ => by simp [dq] at hd
  | 0, .lst _, hd, _, _, _, _, _, _, _, _, _, _ => by simp [dq] at hd
  | 0, .dic _, hd, _, _, _, _, _, _, _, _, _, _ => by simp [dq] at hd
  | _, .scr _, hd, _, _, _, _, _, _, _, _, _, _ => by simp [dq] at hd
  | _, .wtp _, hd, _, _, _, _, _, _, _, _, _, _ => by simp [dq] at hd
  | _, .ins _ _, hd, _, _, _, _, _, _, _, _, _, _ => by simp [dq] at hd
  | _, .dn _ _, hd, _, _, _, _, _, _, _, _, _, _ => by simp [dq] at hd
  | _, .adr _, hd, _, _, _, _, _, _, _, _, _, _ => by simp [dq] at hd
end
end DL

/-! DL49: zip of a text and a tuple; != of like lists as data. -/
namespace DL
open PySem L2 PySem.Spec PyProof.Rows
open PySem.Sem (wp)
abbrev sAsc : String := "str_ascii_iterator"
section
variable {prog : Program} {w : World} {A : Around} {E : Value → Shared → Prop} {s : Shared}
theorem nxS_item {it : Addr} {x : Str} {t : Tok} {i c : Nat} {Q : Value → Shared → Prop} (hit : s.heap.IsStrIter it sAsc x t i) (hx : x.cps[i]? = some c)
    (hQ : ∀ g, g.IsStrIter it sAsc x t (i + 1) → Heap.SameBut it s.heap g → Q (.str ⟨#[c]⟩ s.toks) { s with heap := g, toks := s.toks + 1 }) : wpAny (model prog w) A (Builtin.SmallTypes.nextOf (.ref it)) Q E s := by
  obtain ⟨ob, ho, hcl, hda⟩ := id hit
  unfold Builtin.SmallTypes.nextOf
  refine wpAny_bind (wpAny_callSpecial?_slot (name := Str.ofString "__next__") hit.typeIs PySem.F.slot_str_ascii_iterator_next (wpAny_call_entry PySem.F.slot_str_ascii_iterator_next hit.typeIs PySem.F.entry_str_ascii_iterator_next ?_ (PySem.F.args_str_ascii_iterator_next_1 _)))
  refine wpAny_bind (m := field (.ref it) 0) (wpAny_field ho hda (x := .str x t) rfl (wpAny_bind (m := field (.ref it) 1) (wpAny_field ho hda (x := .int i 0) rfl ?_)))
  simp only [Int.toNat_natCast, hx]
  refine wpAny_bind (wpAny_setField ho hda (by simp) (wpAny_bind (wpAny_mkStr (wpAny_pure ⟨_, rfl, wpAny_pure (hQ _ ⟨_, Heap.get?_update_self _ ho (Obj.isFreed_of_fields (Obj.data_mapFields hda _)), (Obj.cls_mapFields ..).trans hcl, ?_⟩ (Heap.SameBut.update ..))⟩) (show 1 ≤ sizeLine by decide))))
  rw [Obj.data_mapFields hda]
  simp [rawInt]
theorem nxS_end {it : Addr} {x : Str} {t : Tok} {i : Nat} {Q : Value → Shared → Prop} (hh : A.handled = none) (hit : s.heap.IsStrIter it sAsc x t i) (hx : x.cps[i]? = none)
    (hE : ∀ g e, Heap.ExtBut it s.heap g → (∃ o, g.get? e = some o ∧ o.cls = .type "StopIteration") → E (.ref e) { s with heap := g }) : wpAny (model prog w) A (Builtin.SmallTypes.nextOf (.ref it)) Q E s := by
  obtain ⟨ob, ho, hcl, hda⟩ := id hit
  unfold Builtin.SmallTypes.nextOf
  refine wpAny_bind (wpAny_callSpecial?_slot (name := Str.ofString "__next__") hit.typeIs PySem.F.slot_str_ascii_iterator_next (wpAny_call_entry PySem.F.slot_str_ascii_iterator_next hit.typeIs PySem.F.entry_str_ascii_iterator_next ?_ (PySem.F.args_str_ascii_iterator_next_1 _)))
  refine wpAny_bind (m := field (.ref it) 0) (wpAny_field ho hda (x := .str x t) rfl (wpAny_bind (m := field (.ref it) 1) (wpAny_field ho hda (x := .int i 0) rfl ?_)))
  simp only [Int.toNat_natCast, hx]
  refine wpAny_bind (wpAny_rule (wpAny_bind (wpAny_setField ho hda (by simp) (wpAny_bind (wpAny_letGo (wpAny_bind (m := newExc (.type "StopIteration") []) ?_))))))
  simp only [newExc, newTuple]
  refine wpAny_bind (wpAny_newObj_type (wpAny_bind (m := firstArgMember _ _) (wpAny_of_eq (a := Value.none) (by first | rfl | (simp only [firstArgMember]; rfl)) (wpAny_newObj_type ?_ (by size_fits)))) (by size_fits))
  simp only [raiseNew]
  refine wpAny_bind (wpAny_handled (by
    first | rw [show A.in1.handled = none from hh] | rw [hh]
    exact wpAny_bind (wpAny_pure (wpAny_throw (hE _ _ (((Heap.SameBut.update ..).extBut.push _).push _) ⟨_, Heap.get?_push_size _ rfl, rfl⟩)))))
/-- the parts of such a zip lie apart -/
structure ZAp (z TI TO i1 i2 l2 : Addr) : Prop where
  TIz : TI ≠ z
  TOz : TO ≠ z
  i1z : i1 ≠ z
  i2z : i2 ≠ z
  TITO : TI ≠ TO
  TIi1 : TI ≠ i1
  TIi2 : TI ≠ i2
  TOi1 : TO ≠ i1
  TOi2 : TO ≠ i2
  i12 : i1 ≠ i2
  l2z : l2 ≠ z
  l2TO : l2 ≠ TO
  l2i1 : l2 ≠ i1
  l2i2 : l2 ≠ i2
def ZKeep (z TO i1 i2 : Addr) (h g : Heap) : Prop := ∀ c o, c ≠ z → c ≠ TO → c ≠ i1 → c ≠ i2 → h.get? c = some o → g.get? c = some o
theorem zs_item {z TI TO i1 i2 l2 : Addr} {k1 k2 c : Nat} {x : Str} {t : Tok} {ys : Array Value} {y a b : Value} {Q : Value → Shared → Prop} (D : ZAp z TI TO i1 i2 l2)
    (hz : IsZip s.heap z TI TO .none) (hTI : IsPair s.heap TI (.ref i1) (.ref i2)) (hTO : IsPair s.heap TO a b) (h1 : s.heap.IsStrIter i1 sAsc x t k1) (h2 : s.heap.IsTupleIter i2 l2 k2) (hl2 : s.heap.IsTuple l2 ys) (hx : x.cps[k1]? = some c) (hy : ys[k2]? = some y)
    (hQ : ∀ g u, (∃ tt, u = .str ⟨#[c]⟩ tt) → IsZip g z TI TO (rawInt s.heap.objs.size) → IsPair g TO u y → g.IsStrIter i1 sAsc x t (k1 + 1) → g.IsTupleIter i2 l2 (k2 + 1) → IsPair g s.heap.objs.size u y → g.objs.size = s.heap.objs.size + 1 → ZKeep z TO i1 i2 s.heap g →
      ∀ tk, Q (.ref s.heap.objs.size) { s with heap := g, toks := tk }) : wpAny (model prog w) A (Builtin.«zip.__next__» ⟨[.ref z], []⟩) (fun fin sx => ∃ v, fin = .done (.ret v) ∧ Q v sx) E s := by
  refine wpAny_bind (m := field (.ref z) 2) (wpAny_field hz rfl (x := .bool false) rfl (wpAny_bind (m := field (.ref z) 3) (wpAny_field hz rfl (x := .ref TI) rfl (wpAny_bind (wpAny_seqItems hTI rfl (wpAny_bind (m := Builtin.SmallTypes.ownedTupleIsFree (.ref z)) ?_))))))
  unfold Builtin.SmallTypes.ownedTupleIsFree
  refine wpAny_bind (wpAny_field hz rfl (x := .none) rfl (wpAny_pure ?_))
  simp only [if_true]
  refine wpAny_bind (wpAny_rule (wpAny_bind (wpAny_field hz rfl (x := .ref TO) rfl (wpAny_bind (wpAny_setField_rec hz (by simp) fun g1 hz1 hs1 => wpAny_bind ?_)))))
  replace hz1 : IsZip g1 z TI TO .ellipsis := hz1
  simp only [List.zipIdx_cons, List.zipIdx_nil, List.forIn_cons, List.forIn_nil]
  refine wpAny_bind (wpAny_bind (wpAny_onRaise (wpAny_bind (m := Builtin.SmallTypes.nextOf (.ref i1)) (nxS_item (h1.extBut hs1.extBut D.i1z) hx fun g2 h12 hs2 => wpAny_pure ?_))))
  have hTO2 : IsPair g2 TO a b := hs2.extBut _ _ D.TOi1 (hs1.extBut _ _ D.TOz hTO)
  refine wpAny_bind (wpAny_seqItems hTO2 rfl (wpAny_bind (wpAny_updateSeq_pair hTO2 fun g3 hTO3 hs3 => wpAny_bind (wpAny_letGo (wpAny_pure ?_)))))
  replace hTO3 : IsPair g3 TO _ b := hTO3
  refine wpAny_bind (wpAny_bind (wpAny_onRaise (wpAny_bind (m := Builtin.SmallTypes.nextOf (.ref i2)) (RZ.nextOf_tuple_item (((h2.extBut hs1.extBut D.i2z).extBut hs2.extBut D.i12.symm).extBut hs3.extBut D.TOi2.symm) (((hl2.extBut hs1.extBut D.l2z).extBut hs2.extBut D.l2i1).extBut hs3.extBut D.l2TO) hy fun g4 h24 hs4 => wpAny_pure ?_))))
  have hTO4 : IsPair g4 TO _ b := hs4.extBut _ _ D.TOi2 hTO3
  refine wpAny_bind (wpAny_seqItems hTO4 rfl (wpAny_bind (wpAny_updateSeq_pair hTO4 fun g5 hTO5 hs5 => wpAny_bind (wpAny_letGo (wpAny_pure (wpAny_pure ?_))))))
  replace hTO5 : IsPair g5 TO _ y := hTO5
  refine wpAny_bind (wpAny_seqItems hTO5 rfl (wpAny_bind (wpAny_newTuple ?_)))
  have hsz : g5.objs.size = s.heap.objs.size := by rw [hs5.1, hs4.1, hs3.1, hs2.1, hs1.1]
  have hz5 : IsZip g5 z TI TO .ellipsis := hs5.extBut _ _ D.TOz.symm (hs4.extBut _ _ D.i2z.symm (hs3.extBut _ _ D.TOz.symm (hs2.extBut _ _ D.i1z.symm hz1)))
  have hk5 : ZKeep z TO i1 i2 s.heap g5 := fun d o d1 d2 d3 d4 q => hs5.extBut _ _ d2 (hs4.extBut _ _ d4 (hs3.extBut _ _ d2 (hs2.extBut _ _ d3 (hs1.extBut _ _ d1 q))))
  have h15 : g5.IsStrIter i1 sAsc x t (k1 + 1) := ((h12.extBut hs3.extBut D.TOi1.symm).extBut hs4.extBut D.i12).extBut hs5.extBut D.TOi1.symm
  have h25 : g5.IsTupleIter i2 l2 (k2 + 1) := h24.extBut hs5.extBut D.TOi2.symm
  have hzl : z < g5.objs.size := Heap.lt_size hz5
  refine wpAny_bind (m := Builtin.SmallTypes.ownedTupleHandOut (.ref z) (.ref g5.objs.size)) ?_
  unfold Builtin.SmallTypes.ownedTupleHandOut
  have hz6 : IsZip (g5.push { cls := .type "tuple", data := .seq #[Value.str ⟨#[c]⟩ s.toks, y] }) z TI TO .ellipsis := Heap.get?_push_of_some _ hz5
  refine wpAny_bind (wpAny_setField_rec hz6 (by simp) fun g7 hz7 hs7 => ?_)
  replace hz7 : IsZip g7 z TI TO (rawInt g5.objs.size) := hz7
  refine wpAny_setField_rec hz7 (by simp) fun g8 hz8 hs8 => wpAny_pure ⟨_, rfl, ?_⟩
  replace hz8 : IsZip g8 z TI TO (rawInt g5.objs.size) := hz8
  have up : ∀ d o, d ≠ z → g5.get? d = some o → g8.get? d = some o := fun d o d1 q => hs8.extBut _ _ d1 (hs7.extBut _ _ d1 (Heap.get?_push_of_some _ q))
  have hT8 : IsPair g8 g5.objs.size (.str ⟨#[c]⟩ s.toks) y := hs8.extBut _ _ (Nat.ne_of_gt hzl) (hs7.extBut _ _ (Nat.ne_of_gt hzl) (Heap.get?_push_size _ rfl))
  have hn8 : g8.objs.size = g5.objs.size + 1 := by rw [hs8.1, hs7.1, Heap.size_push]
  rw [hsz] at hz8 hT8 hn8
  show Q (.ref g5.objs.size) _
  rw [hsz]
  exact hQ g8 _ ⟨_, rfl⟩ hz8 (up _ _ D.TOz hTO5) (by obtain ⟨o, q, r⟩ := h15; exact ⟨o, up _ o D.i1z q, r⟩) (h25.at fun o q => up _ o D.i2z q) hT8 hn8 (fun d o d1 d2 d3 d4 q => up d o d1 (hk5 d o d1 d2 d3 d4 q)) _
theorem zs_end {z TI TO i1 i2 l2 : Addr} {k1 k2 : Nat} {x : Str} {t : Tok} {ys : Array Value} {a b : Value} {Q : Fin → Shared → Prop} (hh : A.handled = none) (D : ZAp z TI TO i1 i2 l2)
    (hz : IsZip s.heap z TI TO .none) (hTI : IsPair s.heap TI (.ref i1) (.ref i2)) (hTO : IsPair s.heap TO a b) (h1 : s.heap.IsStrIter i1 sAsc x t k1) (h2 : s.heap.IsTupleIter i2 l2 k2) (hl2 : s.heap.IsTuple l2 ys) (hend : x.cps[k1]? = none ∨ ys[k2]? = none)
    (hE : ∀ g e tk, ZKeep z TO i1 i2 s.heap g → (∃ o, g.get? e = some o ∧ o.cls = .type "StopIteration") → E (.ref e) { s with heap := g, toks := tk }) : wpAny (model prog w) A (Builtin.«zip.__next__» ⟨[.ref z], []⟩) Q E s := by
  refine wpAny_bind (m := field (.ref z) 2) (wpAny_field hz rfl (x := .bool false) rfl (wpAny_bind (m := field (.ref z) 3) (wpAny_field hz rfl (x := .ref TI) rfl (wpAny_bind (wpAny_seqItems hTI rfl (wpAny_bind (m := Builtin.SmallTypes.ownedTupleIsFree (.ref z)) ?_))))))
  unfold Builtin.SmallTypes.ownedTupleIsFree
  refine wpAny_bind (wpAny_field hz rfl (x := .none) rfl (wpAny_pure ?_))
  simp only [if_true]
  refine wpAny_bind (wpAny_rule (wpAny_bind (wpAny_field hz rfl (x := .ref TO) rfl (wpAny_bind (wpAny_setField_rec hz (by simp) fun g1 hz1 hs1 => wpAny_bind ?_)))))
  replace hz1 : IsZip g1 z TI TO .ellipsis := hz1
  simp only [List.zipIdx_cons, List.zipIdx_nil, List.forIn_cons, List.forIn_nil]
  refine wpAny_bind (wpAny_bind (wpAny_onRaise (wpAny_bind (m := Builtin.SmallTypes.nextOf (.ref i1)) ?_)))
  cases hx : x.cps[k1]? with
  | none =>
    refine nxS_end hh (h1.extBut hs1.extBut D.i1z) hx fun g2 e hs2 he => ?_
    obtain ⟨oe, hoe, hce⟩ := he
    have hz2 : IsZip g2 z TI TO .ellipsis := hs2 _ _ D.i1z.symm hz1
    have hez : e ≠ z := fun q => by subst q; rw [hz2] at hoe; cases hoe; simp at hce
    exact wpAny_setField_rec hz2 (by simp) fun g3 _ hs3 => hE g3 e _ (fun d o d1 _ d3 _ q => hs3.extBut _ _ d1 (hs2 _ _ d3 (hs1.extBut _ _ d1 q))) ⟨oe, hs3.extBut _ _ hez hoe, hce⟩
  | some c =>
    have hy : ys[k2]? = none := hend.elim (fun h => by rw [hx] at h; cases h) id
    refine nxS_item (h1.extBut hs1.extBut D.i1z) hx fun g2 h12 hs2 => wpAny_pure ?_
    have hTO2 : IsPair g2 TO a b := hs2.extBut _ _ D.TOi1 (hs1.extBut _ _ D.TOz hTO)
    refine wpAny_bind (wpAny_seqItems hTO2 rfl (wpAny_bind (wpAny_updateSeq_pair hTO2 fun g3 hTO3 hs3 => wpAny_bind (wpAny_letGo (wpAny_pure ?_)))))
    refine wpAny_bind (wpAny_bind (wpAny_onRaise (wpAny_bind (m := Builtin.SmallTypes.nextOf (.ref i2)) (RZ.nextOf_tuple_end hh (((h2.extBut hs1.extBut D.i2z).extBut hs2.extBut D.i12.symm).extBut hs3.extBut D.TOi2.symm)
      (((hl2.extBut hs1.extBut D.l2z).extBut hs2.extBut D.l2i1).extBut hs3.extBut D.l2TO) hy fun g4 e hs4 he => ?_))))
    obtain ⟨oe, hoe, hce⟩ := he
    have hz4 : IsZip g4 z TI TO .ellipsis := hs4 _ _ D.i2z.symm (hs3.extBut _ _ D.TOz.symm (hs2.extBut _ _ D.i1z.symm hz1))
    have hez : e ≠ z := fun q => by subst q; rw [hz4] at hoe; cases hoe; simp at hce
    exact wpAny_setField_rec hz4 (by simp) fun g5 _ hs5 => hE g5 e _ (fun d o d1 d2 d3 d4 q => hs5.extBut _ _ d1 (hs4 _ _ d4 (hs3.extBut _ _ d2 (hs2.extBut _ _ d3 (hs1.extBut _ _ d1 q))))) ⟨oe, hs5.extBut _ _ hez hoe, hce⟩
theorem nxZS_item {z TI TO i1 i2 l2 : Addr} {k1 k2 c : Nat} {x : Str} {t : Tok} {ys : Array Value} {y a b : Value} {Q : Option Value → Shared → Prop} (D : ZAp z TI TO i1 i2 l2)
    (hz : IsZip s.heap z TI TO .none) (hTI : IsPair s.heap TI (.ref i1) (.ref i2)) (hTO : IsPair s.heap TO a b) (h1 : s.heap.IsStrIter i1 sAsc x t k1) (h2 : s.heap.IsTupleIter i2 l2 k2) (hl2 : s.heap.IsTuple l2 ys) (hx : x.cps[k1]? = some c) (hy : ys[k2]? = some y)
    (hQ : ∀ g u, (∃ tt, u = .str ⟨#[c]⟩ tt) → IsZip g z TI TO (rawInt s.heap.objs.size) → IsPair g TO u y → g.IsStrIter i1 sAsc x t (k1 + 1) → g.IsTupleIter i2 l2 (k2 + 1) → IsPair g s.heap.objs.size u y → g.objs.size = s.heap.objs.size + 1 → ZKeep z TO i1 i2 s.heap g →
      ∀ tk, Q (some (.ref s.heap.objs.size)) { s with heap := g, toks := tk }) : wpAny (model prog w) A (pyNext (.ref z)) Q E s := by
  have hT : s.TypeIs (.ref z) "zip" := ⟨_, hz, rfl⟩
  unfold pyNext
  exact wpAny_bind (wpAny_attempt (wpAny_callSpecial?_slot (name := Str.ofString "__next__") hT PySem.F.slot_zip_next (wpAny_call_entry PySem.F.slot_zip_next hT PySem.F.entry_zip_next
    (zs_item D hz hTI hTO h1 h2 hl2 hx hy fun g u a0 a1 a2 a3 a4 a5 a6 a7 tk => wpAny_pure (hQ g u a0 a1 a2 a3 a4 a5 a6 a7 tk)) (PySem.F.args_zip_next_1 _))))
theorem nxZS_end {z TI TO i1 i2 l2 : Addr} {k1 k2 : Nat} {x : Str} {t : Tok} {ys : Array Value} {a b : Value} {Q : Option Value → Shared → Prop} (hh : A.handled = none) (D : ZAp z TI TO i1 i2 l2)
    (hz : IsZip s.heap z TI TO .none) (hTI : IsPair s.heap TI (.ref i1) (.ref i2)) (hTO : IsPair s.heap TO a b) (h1 : s.heap.IsStrIter i1 sAsc x t k1) (h2 : s.heap.IsTupleIter i2 l2 k2) (hl2 : s.heap.IsTuple l2 ys) (hend : x.cps[k1]? = none ∨ ys[k2]? = none)
    (hQ : ∀ g tk, ZKeep z TO i1 i2 s.heap g → Q none { s with heap := g, toks := tk }) : wpAny (model prog w) A (pyNext (.ref z)) Q E s := by
  have hT : s.TypeIs (.ref z) "zip" := ⟨_, hz, rfl⟩
  unfold pyNext
  refine wpAny_bind (wpAny_attempt (wpAny_callSpecial?_slot (name := Str.ofString "__next__") hT PySem.F.slot_zip_next (wpAny_call_entry PySem.F.slot_zip_next hT PySem.F.entry_zip_next (zs_end hh D hz hTI hTO h1 h2 hl2 hend fun g e tk hk he => ?_) (PySem.F.args_zip_next_1 _))))
  obtain ⟨o, ho, hc⟩ := he
  exact wpAny_bind (wpAny_isInstance (T := "StopIteration") (b := true) ⟨o, ho, hc⟩ isSubtype_stop (wpAny_pure (hQ _ _ hk)))
end
/-- the pairs of a text's signs and a tuple's things -/
def ItzS (K : PySem.W.Frag) (x : Str) (b : Addr) : It :=
  ⟨fun i H => i < x.cps.size ∧ ∃ (ys : List V) (y : V), SqT K H b ys ∧ ys[i]? = some y,
    fun i H v H' => ∃ T c y, v = .ref T ∧ H T = none ∧ H' = upd H T (.tup [.str ⟨#[c]⟩, y]) ∧ x.cps[i]? = some c ∧ ∀ ys, SqT K H b ys → ys[i]? = some y,
    fun i H => ∃ ys : List V, SqT K H b ys ∧ (x.cps.size ≤ i ∨ ys.length ≤ i)⟩
theorem turn_zipS {P : Program} {w : World} {K : PySem.W.Frag} {elts : List Expr} {kk : Nat} {tpos : Pos} {x : Str} {t : Tok} {b z TI TO i1 i2 : Addr} (D : ZAp z TI TO i1 i2 b) :
    Turn P w K (.Tuple elts kk tpos) (ItzS K x b) [z, TI, TO, i1, i2] z (fun i h => IsZip h z TI TO .none ∧ IsPair h TI (.ref i1) (.ref i2) ∧ (∃ u v, IsPair h TO u v) ∧ h.IsStrIter i1 sAsc x t i ∧ h.IsTupleIter i2 b i) where
  mem := by simp
  obj := fun i h st c hc => by
    obtain ⟨hz, hTI, ⟨u, v, hTO⟩, ⟨o1, e1, _, d1⟩, ⟨o2, e2, _, d2⟩⟩ := st
    have hm : c = z ∨ c = TI ∨ c = TO ∨ c = i1 ∨ c = i2 := by simpa using hc
    rcases hm with q | q | q | q | q <;> rw [q]
    · exact ⟨_, hz, fun _ y => nomatch y⟩
    · exact ⟨_, hTI, fun _ y => nomatch y⟩
    · exact ⟨_, hTO, fun _ y => nomatch y⟩
    · exact ⟨o1, e1, fun _ y => by rw [d1] at y; cases y⟩
    · exact ⟨o2, e2, fun _ y => by rw [d2] at y; cases y⟩
  keep := fun i h g st k => by
    obtain ⟨hz, hTI, ⟨u, v, hTO⟩, ⟨o1, e1, r1⟩, h2⟩ := st
    exact ⟨k z (by simp) _ hz, k TI (by simp) _ hTI, ⟨u, v, k TO (by simp) _ hTO⟩, ⟨o1, k i1 (by simp) _ e1, r1⟩, h2.at fun o q => k i2 (by simp) o q⟩
  item := by
    intro X hP hw hK hc i pins s σ H E I hf st hg
    subst hP hw hK
    obtain ⟨hz, hTI, ⟨u0, v0, hTO⟩, h1, h2⟩ := st
    obtain ⟨hlt, ys, y, hqy, hy⟩ := hg
    obtain ⟨its2, rv2, p2, _⟩ := I.tuple hqy
    obtain ⟨u2, hu2, ru2⟩ := rv2.get hy
    have hxc : x.cps[i]? = some x.cps[i] := Array.getElem?_eq_getElem hlt
    have hzl : z < s.heap.objs.size := Heap.lt_size hz
    refine nxZS_item D hz hTI hTO h1 h2 p2 hxc (y := u2) (by simpa using hu2) fun g u hu z' TO' h1' h2' hT hsz hk tk => ?_
    obtain ⟨tt, rfl⟩ := hu
    refine ⟨_, rfl, wpAny_letOwnedTupleGo_zip (s := { s with heap := g, toks := tk }) z' fun g2 z'' sb => ?_⟩
    have hT2 : g2.get? s.heap.objs.size = some { cls := .type "tuple", data := .seq #[.str ⟨#[x.cps[i]]⟩ tt, u2] } := (sb.2 _ (Nat.ne_of_gt hzl)).trans hT
    have new : ObjOk X.prog X.w (upd H s.heap.objs.size (.tup [.str ⟨#[x.cps[i]]⟩, y])) g2 s.heap.objs.size (.tup [.str ⟨#[x.cps[i]]⟩, y]) :=
      ⟨show 2 ≤ sizeLine by decide, [.str ⟨#[x.cps[i]]⟩ tt, u2], .cons ⟨tt, rfl⟩ (.cons ru2 .nil), ⟨_, hT2, rfl, _, rfl⟩⟩
    have I1 := I.turnedNew (t' := tk) (ch := [z, TI, TO, i1, i2]) (fun c o hb q => (sb.2 c (fun e => hb (by simp [e]))).trans (hk c o (fun e => hb (by simp [e])) (fun e => hb (by simp [e])) (fun e => hb (by simp [e])) (fun e => hb (by simp [e])) q)) hf (Nat.le_refl _) new
    refine ⟨.ref s.heap.objs.size, _, I1, rfl, ⟨_, _, y, rfl, I.hok.fresh (Nat.le_refl _), rfl, hxc, fun l hl => by rw [I.tuple_inj hl hqy]; exact hy⟩, ⟨z'', (sb.2 _ D.TIz).trans (hk _ _ D.TIz D.TITO D.TIi1 D.TIi2 hTI), ⟨_, u2, (sb.2 _ D.TOz).trans TO'⟩, ?_, h2'.at fun o q => (sb.2 _ D.i2z).trans q⟩, fun c hcm => ?_⟩
    · obtain ⟨o1, e1, r1⟩ := h1'
      exact ⟨o1, (sb.2 _ D.i1z).trans e1, r1⟩
    · have hm : c = z ∨ c = TI ∨ c = TO ∨ c = i1 ∨ c = i2 := by simpa using hcm
      have hlt : c < s.heap.objs.size := by
        rcases hm with q | q | q | q | q <;> rw [q]
        · exact hzl
        · exact Heap.lt_size hTI
        · exact Heap.lt_size hTO
        · obtain ⟨_, e1, _⟩ := h1; exact Heap.lt_size e1
        · obtain ⟨_, e1, _⟩ := h2; exact Heap.lt_size e1
      rw [upd_ne (Nat.ne_of_lt hlt)]
      exact (hf c hcm).1
  done := by
    intro X hP hw hK hc i pins s σ H E I hf st hg
    subst hP hw hK
    obtain ⟨hz, hTI, ⟨u0, v0, hTO⟩, h1, h2⟩ := st
    obtain ⟨ys, hqy, hend⟩ := hg
    obtain ⟨its2, rv2, p2, _⟩ := I.tuple hqy
    have l2 := rv2.length
    have he : x.cps[i]? = none ∨ its2.toArray[i]? = none := hend.imp (fun q => Array.getElem?_eq_none q) fun q => by simp; omega
    exact nxZS_end (I.ok.hd hc) D hz hTI hTO h1 h2 p2 he fun g tk hk => ⟨rfl, I.turnedL (t' := tk) (ch := [z, TI, TO, i1, i2]) (fun c o hb q => hk c o (fun e => hb (by simp [e])) (fun e => hb (by simp [e])) (fun e => hb (by simp [e])) (fun e => hb (by simp [e])) q) hf⟩
  self := fun A i s Q E st h => wpAny_pyIter_zip st.1 h
end DL

/-! DL50: zip(text, tuple) as a loop's source; != of like lists. -/
namespace DL
open PySem L2 PySem.Spec PyProof.Rows
open PySem.Sem (wp)
abbrev zs1 (h : Heap) (x : Str) (t : Tok) : Heap := h.push { cls := .type sAsc, data := .fields #[.str x t, .int 0 0] }
abbrev zs2 (h : Heap) (x : Str) (t : Tok) (b : Addr) : Heap := (zs1 h x t).push { cls := .type "tuple_iterator", data := .fields #[.ref b, .int 0 0] }
abbrev zs3 (h : Heap) (x : Str) (t : Tok) (b : Addr) : Heap := (zs2 h x t b).push { cls := .type "tuple", data := .seq #[.ref h.objs.size, .ref (zs1 h x t).objs.size] }
abbrev zs4 (h : Heap) (x : Str) (t : Tok) (b : Addr) : Heap := (zs3 h x t b).push { cls := .type "tuple", data := .seq #[.none, .none] }
abbrev zs5 (h : Heap) (x : Str) (t : Tok) (b : Addr) : Heap := (zs4 h x t b).push { cls := .type "zip", data := .fields #[.none, .bool false, .bool false, .ref (zs2 h x t b).objs.size, .ref (zs3 h x t b).objs.size] }
theorem meets_zs (x : Str) (t : Tok) (b : Addr) (ys : Array Value) (ha : x.cps.all (· < 128) = true) :
    Meets (Builtin.«zip.__new__» ⟨[.type "zip", .str x t, .ref b], []⟩) (fun _ R s => s.heap.IsTuple b ys ∧ R (.ok (.ret (.ref (zs4 s.heap x t b).objs.size))) { s with heap := zs5 s.heap x t b }) :=
  .of_wp fun prog w A R s h => by
    obtain ⟨hp, g, d, tk, os⟩ := s
    obtain ⟨hb, h⟩ := h
    have hsub := sub_zip
    have hB : Heap.IsTuple (Shared.heap ⟨hp.push { cls := .type sAsc, data := .fields #[.str x t, .int 0 0] }, g, d, tk, os⟩) b ys := Heap.IsTuple.push hb _
    wp_walk using wpAny_pyIter_ascii ha, wpAny_pyIter_tuple hB
    exact ⟨_, rfl, h⟩
section
variable {prog : Program} {w : World} {A : Around} {E : Value → Shared → Prop} {s : Shared}
theorem call_zs {x : Str} {t : Tok} {b : Addr} {ys : Array Value} {Q : Value → Shared → Prop} (ha : x.cps.all (· < 128) = true) (hb : s.heap.IsTuple b ys)
    (h : ∀ g, IsZip g (s.heap.objs.size + 4) (s.heap.objs.size + 2) (s.heap.objs.size + 3) .none → IsPair g (s.heap.objs.size + 2) (.ref s.heap.objs.size) (.ref (s.heap.objs.size + 1)) → IsPair g (s.heap.objs.size + 3) .none .none →
      g.IsStrIter s.heap.objs.size sAsc x t 0 → g.IsTupleIter (s.heap.objs.size + 1) b 0 → (∀ c o, s.heap.get? c = some o → g.get? c = some o) → Q (.ref (s.heap.objs.size + 4)) { s with heap := g }) :
    wpAny (model prog w) A (call (.type "zip") [.str x t, .ref b]) Q E s := by
  refine callType_new PySem.F.called_zip (by decide) (PySem.F.typeCall_zip_2 _ _) (PySem.F.newCall_zip_2 _ _) (fun obj => PySem.F.args_object_init_3 obj _ _) PySem.F.entry_zip_new (meets_zs x t b ys ha) ⟨hb, ?_⟩
  have n1 : (zs1 s.heap x t).objs.size = s.heap.objs.size + 1 := Heap.size_push ..
  have n2 : (zs2 s.heap x t b).objs.size = s.heap.objs.size + 2 := by rw [Heap.size_push, n1]
  have n3 : (zs3 s.heap x t b).objs.size = s.heap.objs.size + 3 := by rw [Heap.size_push, n2]
  have n4 : (zs4 s.heap x t b).objs.size = s.heap.objs.size + 4 := by rw [Heap.size_push, n3]
  have g5 : (zs5 s.heap x t b).get? (zs4 s.heap x t b).objs.size = some _ := Heap.get?_push_size _ rfl
  have g4 : (zs5 s.heap x t b).get? (zs3 s.heap x t b).objs.size = some _ := Heap.get?_push_of_some _ (Heap.get?_push_size _ rfl)
  have g3 : (zs5 s.heap x t b).get? (zs2 s.heap x t b).objs.size = some _ := Heap.get?_push_of_some _ (Heap.get?_push_of_some _ (Heap.get?_push_size _ rfl))
  have g2 : (zs5 s.heap x t b).get? (zs1 s.heap x t).objs.size = some _ := Heap.get?_push_of_some _ (Heap.get?_push_of_some _ (Heap.get?_push_of_some _ (Heap.get?_push_size _ rfl)))
  have g1 : (zs5 s.heap x t b).get? s.heap.objs.size = some _ := Heap.get?_push_of_some _ (Heap.get?_push_of_some _ (Heap.get?_push_of_some _ (Heap.get?_push_of_some _ (Heap.get?_push_size _ rfl))))
  show _ ∧ _
  rw [n2, n3, n4] at g5
  rw [n1, n2] at g3
  rw [n3] at g4
  rw [n1] at g2
  rw [n4]
  exact ⟨⟨_, g5, rfl⟩, h _ g5 g3 g4 ⟨_, g1, rfl, rfl⟩ ⟨_, g2, rfl, rfl⟩ fun c o q => Heap.get?_push_of_some _ (Heap.get?_push_of_some _ (Heap.get?_push_of_some _ (Heap.get?_push_of_some _ (Heap.get?_push_of_some _ q))))⟩
end
theorem zap_of (n b : Nat) (h : b < n) : ZAp (n + 4) (n + 2) (n + 3) n (n + 1) b := by
  have ne : ∀ {u v : Nat}, u ≠ v → (u : Addr) ≠ v := fun h => h
  constructor <;> exact ne (by omega)
def iZipS (K : PySem.W.Frag) (ta : TA) : TI := fun σ H R => ta σ H fun vs H1 => ∃ x b ys, vs = [.str x, .ref b] ∧ x.cps.all (· < 128) = true ∧ SqT K H1 b ys ∧ R (ItzS K x b) H1
theorem pi_zipS {X : Cx} {e e2 : Expr} {ta : TA} {p pos tpos : Pos} {elts : List Expr} {kk : Nat} (hg : Gl X "zip") (hm : X.mg "zip" = none) (ha : PA X [e, e2] ta)
    (hs : starEach [e, e2] X.env = (false, eval e X.env) :: starEach [e2] X.env := by rfl) (hpl : (backTo pos (starEach [e2] X.env)).any (·.1) = false := by rfl) :
    PI X (.Tuple elts kk tpos) (.Call (.Name "zip" p) [e, e2] [] pos) (iZipS X.K ta) := by
  refine ⟨fun pins s σ H R I h => Call_ (ld_blt I hg hm PyProof.Rows.boot_zip (PyProof.Rows.callWith_type1 (thn (ha.run pos pins s σ H _ I h) fun us s1 ⟨vs, H1, I1, r1, q1⟩ => ?_) hs hpl))⟩
  obtain ⟨x, b, ys, ex, hx, hq, q⟩ := q1
  subst ex
  obtain ⟨u1, u2, rfl, ru, rb⟩ := r1.two
  obtain ⟨t, rfl⟩ := ru
  cases rb
  obtain ⟨its, rv, p1, _⟩ := I1.tuple hq
  obtain ⟨o1, ho1, _⟩ := id p1
  refine call_zs hx (show s1.heap.IsTuple b its.toArray from p1) fun g hz hTI hTO h1 h2 hk => wpAny_pyIter_zip hz ?_
  have I2 : Inv X pins σ H1 { s1 with heap := g } := I1.kept (t' := s1.toks) hk
  refine ⟨s1.heap.objs.size + 4, [s1.heap.objs.size + 4, s1.heap.objs.size + 2, s1.heap.objs.size + 3, s1.heap.objs.size, s1.heap.objs.size + 1], _, _, H1, rfl, I2, turn_zipS (t := t) (zap_of s1.heap.objs.size b (Heap.lt_size ho1)), ⟨hz, hTI, ⟨_, _, hTO⟩, h1, h2⟩, fun c hc => ?_, q⟩
  have hle : s1.heap.objs.size ≤ c := by
    have hm : c = s1.heap.objs.size + 4 ∨ c = s1.heap.objs.size + 2 ∨ c = s1.heap.objs.size + 3 ∨ c = s1.heap.objs.size ∨ c = s1.heap.objs.size + 1 := by simpa using hc
    rcases hm with z | z | z | z | z <;> rw [z] <;> first | exact Nat.le_add_right _ _ | exact Nat.le_refl _
  have := I1.fpOk hle (I1.hok.fresh hle)
  exact this
section
variable {cm : Nat → Addr} {X : Cx} {pos : Pos} {a b : Expr} {fa fb : EF}
def i3ZipS (f g : EF) : I3 := fun ρ => (f ρ).bind fun a => (g ρ).bind fun b => match a.1, b with
  | .str x, (.tup es, .new) => if x.cps.all (· < 128) = true then some (zipL (strD x) es) else none
  | _, _ => none
theorem strD_at {x : Str} {i : Nat} {d : D} (h : (strD x)[i]? = some d) : ∃ c, x.cps[i]? = some c ∧ d = .str ⟨#[c]⟩ := by
  unfold strD at h
  rw [List.getElem?_map, Array.getElem?_toList] at h
  cases e : x.cps[i]? with
  | none => rw [e] at h; cases h
  | some c => rw [e] at h; cases h; exact ⟨c, rfl, rfl⟩
theorem src3_zipS {Γ : Ga} {R : Hp} {b : Addr} {x : Str} {us : List V} {es : List D} (k1 : R b = some (.tup us)) (k2 : Iss Γ R es us) : Src3 Γ R (zipL (strD x) es) (ItzS Γ.K x b) where
  go := fun i G d s e => by
    obtain ⟨y, z, e1, e2, _⟩ := zipL_get e
    obtain ⟨c, e3, _⟩ := strD_at e1
    obtain ⟨u, e4, _⟩ := k2.get e2
    exact ⟨(Array.getElem?_eq_some_iff.mp e3).1, us, u, SqT.of (s _ _ k1), e4⟩
  yld := fun i G d v G' s e w => by
    obtain ⟨y, z, e1, e2, rfl⟩ := zipL_get e
    obtain ⟨c, e3, rfl⟩ := strD_at e1
    obtain ⟨u1, e4, w2⟩ := k2.get e2
    obtain ⟨T, c', y', rfl, hT, rfl, hc, hy⟩ := w
    rw [e3] at hc
    cases hc
    have q2 := hy us (SqT.of (s _ _ k1))
    rw [e4] at q2
    cases q2
    exact .inr (.inr ⟨T, _, _, hT, rfl, rfl, rfl, _, _, rfl, rfl, _, [], rfl, w2, rfl⟩)
  stop := fun i G s hl => ⟨us, SqT.of (s _ _ k1), by
    have hk := k2.length
    rw [zipL_length] at hl
    simp only [strD, List.length_map, Array.length_toList] at hl
    omega⟩
theorem pui3_zipS {p tpos : Pos} {elts : List Expr} {kk : Nat} (hm : X.mg "zip" = none) (he : PuE cm X a fa) (he2 : PuE cm X b fb) (hg : Gl X "zip" := by rfl)
    (hs : starEach [a, b] X.env = (false, eval a X.env) :: starEach [b] X.env := by rfl) (hs2 : starEach [b] X.env = (false, eval b X.env) :: starEach [] X.env := by rfl) (hpl : (backTo pos (starEach [b] X.env)).any (·.1) = false := by rfl) :
    PuI3 cm X (.Tuple elts kk tpos) (.Call (.Name "zip" p) [a, b] [] pos) (i3ZipS fa fb) := by
  obtain ⟨ta, pa, qa⟩ := he
  obtain ⟨tb, pb, qb⟩ := he2
  refine ⟨_, pi_zipS hg hm (pa_cons pa (pa_cons pb pa_nil hs2) hs) hs hpl, fun x B F ρ σ H ds R ok hf hR => ?_⟩
  unfold i3ZipS at hf
  cases ea : fa ρ with
  | none => rw [ea] at hf; cases hf
  | some a1 =>
    cases eb : fb ρ with
    | none => rw [ea, eb] at hf; cases hf
    | some b1 =>
      rw [ea, eb] at hf
      obtain ⟨a1, ma⟩ := a1
      simp only [Option.bind_some] at hf
      split at hf
      · rename_i z es
        split at hf
        · rename_i hz
          cases hf
          refine qa x B F ρ σ H _ _ _ ok ea fun v B1 H1 g1 ok1 hv => qb x B1 F ρ σ H1 _ _ _ ok1 eb fun u B2 H2 g2 ok2 hu => ?_
          cases hv.is ok1
          obtain ⟨c, us, rfl, k1, k2⟩ := hu
          exact ⟨z, c, us, rfl, hz, SqT.of (ok2.bh _ _ k1), hR _ B2 H2 (g1.trans g2) ok2 (src3_zipS k1 k2)⟩
        · cases hf
      · cases hf
/-! ### != of like lists -/
def rNeQ (Γ : Ga) : R2 := fun x y H Q => ∃ ds a b vs us, x = .ref a ∧ y = .ref b ∧ H a = some (.lst vs) ∧ H b = some (.lst us) ∧ Iss Γ H ds vs ∧ Iss Γ H ds us ∧ ds.all (dq 60) = true ∧ Q (.bl false) H
theorem op_neQ (hu : X.A.units + 64 < cLine) : OpR X (compareOp .NotEq) (rNeQ (gx X cm)) := by
  intro pins s σ H x y u v Q I rx ry h
  obtain ⟨ds, a, b, vs, us, rfl, rfl, h1, k1, h2, k2, hd, q⟩ := h
  cases rx
  cases ry
  obtain ⟨its, r1, p1, _⟩ := I.list (SqL.of h1)
  obtain ⟨its2, r2, p2, _⟩ := I.list (SqL.of k1)
  have l1 : its.toArray.size = ds.length := by rw [List.size_toArray, ← r1.length, h2.length]
  have l2 : its2.toArray.size = ds.length := by rw [List.size_toArray, ← r2.length, k2.length]
  refine SeqAt.RcNeAt.lists (A := X.A) (e := fun _ => true) p1.isList p2.isList (by omega) (by omega) (fun j j1 j2 => ?_) X.prog X.w _ _ ?_
  · have hj : j < ds.length := by omega
    obtain ⟨v1, e1, w1⟩ := h2.get (List.getElem?_eq_getElem hj)
    obtain ⟨v2, e2, w2⟩ := k2.get (List.getElem?_eq_getElem hj)
    obtain ⟨c1, f1, g1⟩ := r1.get e1
    obtain ⟨c2, f2, g2⟩ := r2.get e2
    have t1 : its.toArray[j] = c1 := by simpa using (List.getElem?_eq_some_iff.mp f1).2
    have t2 : its2.toArray[j] = c2 := by simpa using (List.getElem?_eq_some_iff.mp f2).2
    rw [t1, t2]
    exact like_at I 60 ds[j] (List.all_eq_true.mp hd _ (List.getElem_mem hj)) v1 v2 c1 c2 w1 w2 g1 g2 X.A.in1 (by show X.A.units + 1 + 60 < cLine; omega)
  · rw [show (List.range its.toArray.size).all (fun _ => true) = true by simp]
    exact ⟨.bl false, H, I, rfl, q⟩
open Classical in
noncomputable def neQD (a b : D) : Option D := match a, b with
  | .lst ds, .lst es => if ds = es ∧ ds.all (dq 60) = true then some (.bl false) else none
  | _, _ => none
theorem ok_neQ {Γ : Ga} : OkOp Γ (rNeQ Γ) neQD := by
  intro H a b c v u Q e ha hb hQ
  unfold neQD at e
  split at e
  · split at e
    · rename_i h
      obtain ⟨rfl, h2⟩ := h
      cases e
      obtain ⟨p, vs, rfl, h1, h3⟩ := ha
      obtain ⟨q, us, rfl, k1, k3⟩ := hb
      exact ⟨_, p, q, vs, us, rfl, rfl, h1, k1, h3, k3, h2, hQ _ _ (.atom rfl)⟩
    · cases e
  · cases e
theorem pu_neQ (hu : X.A.units + 64 < cLine) (ha : PuE cm X a fa) (hb : PuE cm X b fb) : PuE cm X (.Compare a [.NotEq] [b] pos) (e2 neQD fa fb) := pu_cmp (op_neQ hu) ok_neQ ha hb
theorem put_neQ (hu : X.A.units + 64 < cLine) (ha : PuE cm X a fa) (hb : PuE cm X b fb) : PuT cm X (.Compare a [.NotEq] [b] pos) (tE (e2 neQD fa fb)) := put_cmp (op_neQ hu) ok_neQ ha hb (nomark _)
end
end DL

/-! DL51: the suite of an except clause as a function of what was raised. -/
namespace DL
open PySem L2 PySem.Spec PyProof.Rows
/-- in the suite Y: the error stands at the slot i, its address a, its own dict d, its field o -/
def PuZ (cm : Nat → Addr) (X Y : Cx) (i : Nat) (a : Addr) (o : Option D) (d : Option Addr) (e : Expr) (f : EF) : Prop :=
  ∃ t, PE Y e t ∧ ∀ (x : Fx) (B : Hp) (F : Nat → List Addr) (ρ : Ev) (σ : L2.St) (H : Hp) (c : D) (m : Md) (Q : VK), Ok (gx X cm) x B F ρ σ H → σ[i]? = some (some (.ref a)) → ExD B o d → f ρ = some (c, m) →
    (∀ v B' H', Gr B H B' H' → Ok (gx X cm) x B' F ρ σ H' → Val (gx X cm) x m B' H' c v → Q v H') → t σ H Q
def PuZA (cm : Nat → Addr) (X Y : Cx) (i : Nat) (a : Addr) (o : Option D) (d : Option Addr) (es : List Expr) (f : AF) : Prop :=
  ∃ t, PA Y es t ∧ ∀ (x : Fx) (B : Hp) (F : Nat → List Addr) (ρ : Ev) (σ : L2.St) (H : Hp) (cs : List (D × Md)) (Q : List V → Hp → Prop), Ok (gx X cm) x B F ρ σ H → σ[i]? = some (some (.ref a)) → ExD B o d → f ρ = some cs →
    (∀ vs B' H', Gr B H B' H' → Ok (gx X cm) x B' F ρ σ H' → Paired (fun (p : D × Md) v => Val (gx X cm) x p.2 B' H' p.1 v) cs vs → Q vs H') → t σ H Q
def PuZB (cm : Nat → Addr) (X Y : Cx) (i : Nat) (a : Addr) (o : Option D) (d : Option Addr) (su : List Stmt) (g : SF) : Prop :=
  ∃ t, PSs Y su t ∧ ∀ (x : Fx) (B : Hp) (F : Nat → List Addr) (ρ : Ev) (σ : L2.St) (H : Hp) (r : Fl) (E : Ends), Ok (gx X cm) x B F ρ σ H → σ[i]? = some (some (.ref a)) → ExD B o d → g ρ = some r → Post (gx X cm) x B r E → t E σ H
/-- a suite, from its readings for each class -/
theorem puh_mk {cm : Nat → Addr} {X : Cx} {i : Nat} {su : List Stmt} {hf : HF} (ns : List Nat) (hns : ∀ n o ρ r, hf n o ρ = some r → n ∈ ns)
    (hz : ∀ (a : Addr) (oe : Obj) (n : Nat) (d : Option Addr) (pn : List (Addr × Obj)) (o : Option D), n ∈ ns → Zc (.ref (cm n)) d oe → (∃ vs, oe.data = .fields vs) → (o = none → d = none) → PuZB cm X (X.suite a ((a, oe) :: pn)) i a o d su (hf n o)) : PuH cm X i su hf := by
  refine ⟨fun a k d D σ H => ∃ n o x B F ρ r, k = .ref (cm n) ∧ Ok (gx X cm) x B F ρ σ H ∧ σ[i]? = some (some (.ref a)) ∧ ExD B o d ∧ hf n o ρ = some r ∧ Post (gx X cm) x B r D, fun a oe k d pn h1 h2 => ⟨fun pins s σ H D I h => ?_⟩, fun x B F ρ σ H r E n o dd a ok ha _ he hr hE => ⟨n, o, x, B, F, ρ, r, rfl, ok, ha, he, hr, hE⟩⟩
  obtain ⟨n, o, x, B, F, ρ, r, rfl, ok, ha, he, hr, hE⟩ := h
  obtain ⟨t, p, q⟩ := hz a oe n d pn o (hns n o ρ r hr) h1 h2 (fun z => by subst z; exact he)
  exact p.run pins s σ H D I (q x B F ρ σ H r D ok ha he hr hE)
section
variable {cm : Nat → Addr} {X Y : Cx} {i : Nat} {a : Addr} {o : Option D} {d : Option Addr} {pos : Pos} {e b : Expr} {es : List Expr} {f g : EF}
theorem pz_of (hK : Y.K = X.K) (hw : Y.w = X.w) (h : PuE cm Y e f) : PuZ cm X Y i a o d e f := by
  obtain ⟨t, p, q⟩ := h
  have eg : gx Y cm = gx X cm := by unfold gx; rw [hK, hw]
  rw [eg] at q
  exact ⟨t, p, fun x B F ρ σ H c m Q ok _ _ hf hQ => q x B F ρ σ H c m Q ok hf hQ⟩
theorem pza_nil : PuZA cm X Y i a o d [] aNil := ⟨_, pa_nil, fun x B F ρ σ H cs Q ok _ _ hf hQ => by cases hf; exact hQ [] B H (Gr.refl B H) ok .nil⟩
theorem pza_cons {ga : AF} (he : PuZ cm X Y i a o d e f) (hr : PuZA cm X Y i a o d es ga) (hs : starEach (e :: es) Y.env = (false, eval e Y.env) :: starEach es Y.env := by rfl) : PuZA cm X Y i a o d (e :: es) (aCons f ga) := by
  obtain ⟨t, p, q⟩ := he
  obtain ⟨u, p2, q2⟩ := hr
  refine ⟨_, pa_cons p p2 hs, fun x B F ρ σ H cs Q ok hi hx hf hQ => ?_⟩
  obtain ⟨c, r, h1, h2, rfl⟩ := aCons_some hf
  refine q x B F ρ σ H c.1 c.2 _ ok hi hx h1 fun v B1 H1 g1 ok1 hv => ?_
  exact q2 x B1 F ρ σ H1 r _ ok1 hi (hx.mono g1.bb) h2 fun vs B2 H2 g2 ok2 hvs => hQ _ B2 H2 (g1.trans g2) ok2 (.cons (hv.mono g2) hvs)
theorem pz_disp {mk : List D → D} {ob : List V → HO} {ga : AF} (ht : ∀ t, PA Y es t → PE Y e (fun σ H Q => t σ H fun xs H1 => xs.length ≤ sizeLine ∧ ∀ p, H1 p = none → Q (.ref p) (upd H1 p (ob xs))))
    (hi : ∀ (B : Hp) p ds vs, Iss (gx X cm) (upd B p (ob vs)) ds vs → Is (gx X cm) (upd B p (ob vs)) (mk ds) (.ref p)) (ha : PuZA cm X Y i a o d es ga) : PuZ cm X Y i a o d e (eDisp mk ga) := by
  obtain ⟨t, p, q⟩ := ha
  refine ⟨_, ht t p, fun x B F ρ σ H c m Q ok hs hx hf hQ => ?_⟩
  unfold eDisp at hf
  cases ea : ga ρ with
  | none => rw [ea] at hf; cases hf
  | some as =>
    rw [ea] at hf
    simp only [Option.bind_some] at hf
    split at hf
    · rename_i h
      cases hf
      refine q x B F ρ σ H as _ ok hs hx ea fun vs B1 H1 g1 ok1 hvs => ⟨by rw [line_eq, ← paired_len hvs]; exact h.2, fun l hl => ?_⟩
      obtain ⟨g2, ok2⟩ := ok1.laid (o := ob vs) hl
      exact hQ _ _ _ (g1.trans g2) ok2 (hi B1 l _ vs ((paired_issNew ok1 h.1 hvs).mono g2.bb))
    · cases hf
theorem pz_tup {k} {ga : AF} (ha : PuZA cm X Y i a o d es ga) : PuZ cm X Y i a o d (.Tuple es k pos) (eDisp .tup ga) := pz_disp (ob := .tup) (fun t p => pe_tup p) (fun B p ds vs h => ⟨p, vs, rfl, upd_same, h⟩) ha
theorem pz_lst {ga : AF} (ha : PuZA cm X Y i a o d es ga) : PuZ cm X Y i a o d (.List es pos) (eDisp .lst ga) := pz_disp (ob := .lst) (fun t p => pe_lst p) (fun B p ds vs h => ⟨p, vs, rfl, upd_same, h⟩) ha
theorem pz_ix (hu : Y.A.units + 1 < cLine) (hK : Y.K = X.K) (ha : PuZ cm X Y i a o d e f) (hb : PuZ cm X Y i a o d b g) (hs : PlainIx b := by intro _ _; rfl) : PuZ cm X Y i a o d (.Subscript e b pos) (eIx ixD f g) := by
  obtain ⟨ta, pa, qa⟩ := ha
  obtain ⟨tb, pb, qb⟩ := hb
  refine ⟨_, pe_ix (ix_seq.or (ix_dict hu)) pa pb hs, fun x B F ρ σ H c m Q ok hi hx hf hQ => ?_⟩
  obtain ⟨da, m1, db, m2, ea, eb, ed, rfl⟩ := eIx_some hf
  refine qa x B F ρ σ H da m1 _ ok hi hx ea fun v B1 H1 g1 ok1 hv => qb x B1 F ρ σ H1 db m2 _ ok1 hi (hx.mono g1.bb) eb fun u B2 H2 g2 ok2 hu2 => ?_
  show rIxA Y.K v u H2 Q
  rw [hK]
  exact ok_ix (Γ := gx X cm) H2 da db c v u Q ed ((hv.mono g2).is ok2) (hu2.is ok2) fun w pw => hQ w B2 H2 (g1.trans g2) ok2 ((hv.mono g2).part ok2 pw)
theorem pz_int {ga : AF} {p : Pos} (hm : Y.mg "int" = none) (ha : PuZA cm X Y i a o d (e :: es) ga) (hg : Gl Y "int" := by rfl)
    (he : starEach (e :: es) Y.env = (false, eval e Y.env) :: starEach es Y.env := by rfl) (hpl : (backTo pos (starEach es Y.env)).any (·.1) = false := by rfl) : PuZ cm X Y i a o d (.Call (.Name "int" p) (e :: es) [] pos) (eCall intC ga) := by
  obtain ⟨t, pa, qa⟩ := ha
  refine ⟨_, pe_callTy call_int1 hg hm (by decide +kernel) pa (by decide) (by decide) he hpl, fun x B F ρ σ H c m Q ok hi hx hf hQ => ?_⟩
  obtain ⟨as, e1, e2, rfl⟩ := eCall_some hf
  refine qa x B F ρ σ H as _ ok hi hx e1 fun vs B1 H1 g1 ok1 hvs => ?_
  have h := paired_iss ok1 hvs
  unfold intC at e2
  split at e2
  · rename_i eq
    cases e2
    rw [eq] at h
    obtain ⟨v, rfl, rfl⟩ := iss1 h
    exact .inl ⟨_, rfl, hQ _ B1 H1 g1 ok1 rfl⟩
  · rename_i eq
    cases e2
    rw [eq] at h
    obtain ⟨v, rfl, rfl⟩ := iss1 h
    exact .inr ⟨_, rfl, hQ _ B1 H1 g1 ok1 rfl⟩
  · cases e2
/-! ### what is said of the error -/
def eErr (c : Option D) : EF := fun _ => c.map fun c => (c, .new)
theorem pz_at {oe : Obj} {pn : List (Addr × Obj)} {n : Nat} {y : Str} {p2 : Pos} (T : XfC X.K (cm n)) (hno : PySem.W.findIn X.K (.ref (cm n)) "at" = some none) (hz : Zc (.ref (cm n)) d oe) (hf : ∃ vs, oe.data = .fields vs)
    (hN : X.N[i]? = some y := by rfl) (hv : Vis X.env.scope y := by first | exact Or.inl rfl | exact Or.inr (Or.inl rfl) | exact Or.inr (Or.inr rfl)) (hd : (y == ("__debug__" : Str)) = false := by decide) (hcd : (y == ("__classdict__" : Str)) = false := by decide)
    (hb : attributeBase (.Name y p2) "at" X.env (eval (.Name y p2) X.env) = eval (.Name y p2) X.env := by rfl) :
    PuZ cm X (X.suite a ((a, oe) :: pn)) i a o d (.Attribute (.Name y p2) "at" pos) (eErr o) := by
  refine ⟨_, pe_xf T hno hz hf (pe_var (X := X.suite a ((a, oe) :: pn)) hN hv hd hcd) hb, fun x B F ρ σ H c m Q ok hi hx hf2 hQ => ?_⟩
  cases o with
  | none => cases hf2
  | some c0 =>
    cases hf2
    obtain ⟨dd, v, rfl, h1, h2⟩ := hx
    exact ⟨_, hi, rfl, rfl, dd, _, v, rfl, ok.bh _ _ h1, by simp [List.lookup], hQ v B H (Gr.refl B H) ok (atomV_mk h2)⟩
/-- isinstance(error, C) -/
theorem pz_isi {oe : Obj} {pn : List (Addr × Obj)} {n : Nat} {y z : Str} {p p2 p3 : Pos} {cv : Value} {cV : V} {k : Bool} (T : IsxC X.K (cm n)) (hz : Zc (.ref (cm n)) d oe) (hf : ∃ vs, oe.data = .fields vs) (hcl : PE (X.suite a ((a, oe) :: pn)) (.Name z p3) (tC cV)) (hcv : ∀ u, RelV cV u → u = cv)
    (hk : PySem.W.kitOne X.K (.ref (cm n)) cv = some k) (hm : X.mg "isinstance" = none) (hg : Gl X "isinstance" := by rfl)
    (hN : X.N[i]? = some y := by rfl) (hv : Vis X.env.scope y := by first | exact Or.inl rfl | exact Or.inr (Or.inl rfl) | exact Or.inr (Or.inr rfl)) (hd : (y == ("__debug__" : Str)) = false := by decide) (hcd : (y == ("__classdict__" : Str)) = false := by decide)
    (hs : starEach [.Name y p2, .Name z p3] X.env = (false, eval (.Name y p2) X.env) :: starEach [.Name z p3] X.env := by rfl) (hs2 : starEach [.Name z p3] X.env = (false, eval (.Name z p3) X.env) :: starEach [] X.env := by rfl) (hpl : (backTo pos (starEach [.Name z p3] X.env)).any (·.1) = false := by rfl) :
    PuZ cm X (X.suite a ((a, oe) :: pn)) i a o d (.Call (.Name "isinstance" p) [.Name y p2, .Name z p3] [] pos) (eC (.bl k)) := by
  refine ⟨_, pe_callB (X := X.suite a ((a, oe) :: pn)) (call_isX T hz hf) hg hm (by decide +kernel) (pa_cons (pe_var (X := X.suite a ((a, oe) :: pn)) hN hv hd hcd) (pa_cons hcl pa_nil hs2) hs) (by decide) (by decide) hs hpl, fun x B F ρ σ H c m Q ok hi hx hf2 hQ => ?_⟩
  cases hf2
  refine ⟨_, hi, fun b eb => ?_, cV, cv, k, rfl, hcv, hk, hQ _ B H (Gr.refl B H) ok rfl⟩
  cases o with
  | none => cases (show d = none from hx); cases eb
  | some c0 =>
    obtain ⟨dd, v, e1, h1, _⟩ := hx
    rw [eb] at e1
    cases e1
    exact ⟨_, ok.bh _ _ h1⟩
/-! ### statements of the suite -/
theorem pzb_ret (he : PuZ cm X Y i a o d e f) : PuZB cm X Y i a o d [.Return (some e) pos] (sRet f) := by
  obtain ⟨t, p, q⟩ := he
  refine ⟨_, pss_one (ps_ret p), fun x B F ρ σ H r E ok hi hx hf hE => ?_⟩
  unfold sRet at hf
  cases e1 : f ρ with
  | none => rw [e1] at hf; cases hf
  | some c =>
    rw [e1] at hf
    simp only [Option.bind_some] at hf
    split at hf
    · rename_i hn
      cases hf
      exact q x B F ρ σ H c.1 c.2 _ ok hi hx e1 fun v B' H' g ok' hv => hE v B' F σ H' g.bb ok' (Val.new ok' hn hv)
    · cases hf
/-- if not e: suite (that returns); then the rest -/
def bIfNot (f : EF) (g1 g2 : SF) : SF := fun ρ => (tE f ρ).bind fun k => if k = true then g2 ρ else (g1 ρ).bind fun r => match r with
  | .rt d ρ' => some (.rt d ρ')
  | _ => none
theorem pzb_ifnot {su rest : List Stmt} {g1 g2 : SF} {p1 p2 : Pos} (he : PuZ cm X Y i a o d e f) (h1 : PuZB cm X Y i a o d su g1) (h2 : PuZB cm X Y i a o d rest g2)
    (hv : ∀ whole, isTrue e Y.env whole = (do let v ← whole; standAt e.pos; holding [v] (truthy v)) := by intro _; rfl) : PuZB cm X Y i a o d (.If (.UnaryOp .Not e p1) su [] p2 :: rest) (bIfNot f g1 g2) := by
  obtain ⟨t, p, q⟩ := he
  obtain ⟨t1, pp1, q1⟩ := h1
  obtain ⟨t2, pp2, q2⟩ := h2
  refine ⟨_, pss_cons (ps_if (pt_not (pt_val p hv)) pp1 pss_nil) pp2, fun x B F ρ σ H r E ok hi hx hf hE => ?_⟩
  unfold bIfNot at hf
  cases e1 : tE f ρ with
  | none => simp [e1] at hf
  | some k =>
    simp only [e1, Option.bind_some] at hf
    obtain ⟨m, hm⟩ := tE_some e1
    refine q x B F ρ σ H (.bl k) m _ ok hi hx hm fun v B' H' g ok' hv => ⟨k, hv.is ok', ?_⟩
    have hx' := hx.mono g.bb
    cases k with
    | true => exact iteF (q2 x B' F ρ σ H' r E ok' hi hx' (by simpa using hf) (hE.mono g.bb))
    | false =>
      refine iteT ?_
      simp only [Bool.false_eq_true, if_false] at hf
      cases e2 : g1 ρ with
      | none => rw [e2] at hf; cases hf
      | some r1 =>
        rw [e2] at hf
        refine q1 x B' F ρ σ H' r1 _ ok' hi hx' e2 ?_
        cases r1 with
        | rt => cases hf; exact hE.mono g.bb
        | nx => cases hf
        | bk => cases hf
        | ct => cases hf
end
end DL

/-! DL52: what the walk wants of the exceptions' classes. -/
namespace DL
open PySem L2 PySem.Spec PyProof.Rows
/-- by the class's number: does the clause catch it -/
def tstF (l : List (Nat × Bool)) (n : Nat) : Option Bool := l.lookup n
def TstOk (K : PySem.W.Frag) (cm : Nat → Addr) (l : List (Nat × Bool)) (c : Value) : Prop := ∀ p ∈ l, PySem.W.exmOne K (.ref (cm p.1)) c = some p.2
theorem lookup_mem {α : Type} {l : List (Nat × α)} {n : Nat} {y : α} (h : l.lookup n = some y) : (n, y) ∈ l := by
  induction l with
  | nil => cases h
  | cons p l ih =>
    obtain ⟨m, z⟩ := p
    rw [List.lookup_cons] at h
    by_cases e : n = m
    · subst e
      rw [beq_self_eq_true] at h
      cases h
      exact List.mem_cons_self
    · rw [beq_false_of_ne e] at h
      exact List.mem_cons_of_mem _ (ih h)
theorem TstOk.ht {K : PySem.W.Frag} {cm : Nat → Addr} {l : List (Nat × Bool)} {c : Value} (h : TstOk K cm l c) : ∀ m y, tstF l m = some y → PySem.W.exmOne K (.ref (cm m)) c = some y := fun m y e => h (m, y) (lookup_mem e)
def isiF (l : List (Nat × Bool)) (n : Nat) : Bool := (l.lookup n).getD false
def KitOk (K : PySem.W.Frag) (cm : Nat → Addr) (l : List (Nat × Bool)) (ns : List Nat) (cv : Value) : Prop := ∀ n ∈ ns, PySem.W.kitOne K (.ref (cm n)) cv = some (isiF l n)
def hfOf (ns : List Nat) (g : Nat → Option D → SF) : HF := fun n o ρ => if n ∈ ns then g n o ρ else none
theorem puh_of {cm : Nat → Addr} {X : Cx} {i : Nat} {su : List Stmt} {g : Nat → Option D → SF} (ns : List Nat)
    (hz : ∀ (a : Addr) (oe : Obj) (n : Nat) (d : Option Addr) (pn : List (Addr × Obj)) (o : Option D), n ∈ ns → Zc (.ref (cm n)) d oe → (∃ vs, oe.data = .fields vs) → PuZB cm X (X.suite a ((a, oe) :: pn)) i a o d su (g n o)) : PuH cm X i su (hfOf ns g) := by
  refine puh_mk ns (fun n o ρ r h => ?_) (fun a oe n d pn o hn h1 h2 _ => ?_)
  · unfold hfOf at h
    split at h
    · assumption
    · cases h
  · have e : hfOf ns g n o = g n o := by funext ρ; unfold hfOf; rw [if_pos hn]
    rw [e]
    exact hz a oe n d pn o hn h1 h2
section
variable {P : Program} {w : World} {K : PySem.W.Frag} {mg : Str → Option Value} {base : Heap}
/-- an __init__ that hands a text on and stores its argument -/
theorem fn_at {qual : Str} {st : Stmt} {f : Addr} {fd : FuncData} {C : Addr} {m : Str} {k : Nat} (F : Fun K "__init__" qual st f fd) (S : FnScope ["self", "at"] ["self", "at"] (defScope st)) (T : OexC K C) (hno : PySem.W.findIn K (.ref C) "at" = some none)
    (hb : ∀ (cdv : Value) (A : Around) (outer : List Env) (s : Shared) (H : Hp) (E : XK), Room k (A.deeper (PyProof.Rows.envOfC qual (defScope st) s.heap.objs.size f cdv)) →
      PSs (cxOf CX0 P w K mg base ["self", "at"] qual (defScope st) f cdv A outer s H E).nox (defBody st) (tSeq (tDrop (tVeI K (tCons (tVar 0) (tCons (tC (.str m)) tNil)))) (tOst K "at" (tVar 0) (tVar 1)))) :
    FnOk P w K mg base CX0 (k + 1) f fd ["self", "at"] (spAt K C) := by
  refine F.ok S (fun vs H Q E h => ?_) (fun cdv A outer s H vs Q E hr h => ⟨_, hb cdv A outer s H E hr, ?_⟩)
  · obtain ⟨a, v, rfl, _⟩ := h
    rfl
  · obtain ⟨a, v, rfl, ha, hq⟩ := h
    refine ⟨.ref a, rfl, a, C, [.str m], rfl, by simp, T, ha, ?_⟩
    exact ⟨v, rfl, .ref a, rfl, a, C, rfl, T, hno, .inl ⟨ha, fun dx hd hne => hq dx hd hne⟩⟩
/-- what the top has written of an exception's class with such an __init__ -/
structure FactX (K : PySem.W.Frag) (C : Addr) : Prop where
  cls : ∃ nm q N bs bm sn sub ab col dd k0 k1 k2 k3 k5, K.lookup C = some (excClassObj nm q C N bs bm true sn sub ab col dd k0 k1 k2 k3 k5 "ValueError.__new__") ∧ PySem.HandSPX.refsVE bm = true
  sa : PySem.W.findIn K (.ref C) "__setattr__" = some (some (.builtin "object.__setattr__"))
  exC : PySem.W.subIn K (.ref C) (.type "BaseException") = some true
  tyC : PySem.W.typeIn K (.ref C) = some (.type "type")
  kC : PySem.W.keepIn K (.ref C) = true
  ga : PySem.W.findIn K (.ref C) "__getattribute__" = some (some (.builtin "BaseException.__getattribute__"))
  gg : PySem.W.findIn K (.ref C) "__getattr__" = some none
  hd : PySem.W.hasDictIn K C = true
  at_ : PySem.W.findIn K (.ref C) "at" = some none
  kc : PySem.W.findIn K (.ref C) "__class__" = some (some (.builtin "object.__class__"))
  ob : PySem.W.mroIn K C (.type "object") = some true
theorem factX_mk {C N : Addr} {nm q : Str} {bs bm : List Value} {sn : List Str} {sub : List Value} {ab : Bool} {col : Option Bool} {dd : Option Addr} {k0 k1 k2 k3 k5 : Option Value}
    (h1 : K.lookup C = some (excClassObj nm q C N bs bm true sn sub ab col dd k0 k1 k2 k3 k5 "ValueError.__new__")) (h2 : PySem.HandSPX.refsVE bm = true)
    (a1 : PySem.W.findIn K (.ref C) "__setattr__" = some (some (.builtin "object.__setattr__"))) (a2 : PySem.W.subIn K (.ref C) (.type "BaseException") = some true) (a3 : PySem.W.typeIn K (.ref C) = some (.type "type")) (a4 : PySem.W.keepIn K (.ref C) = true)
    (a5 : PySem.W.findIn K (.ref C) "__getattribute__" = some (some (.builtin "BaseException.__getattribute__"))) (a6 : PySem.W.findIn K (.ref C) "__getattr__" = some none) (a7 : PySem.W.hasDictIn K C = true) (a8 : PySem.W.findIn K (.ref C) "at" = some none)
    (b1 : PySem.W.findIn K (.ref C) "__class__" = some (some (.builtin "object.__class__"))) (b2 : PySem.W.mroIn K C (.type "object") = some true) : FactX K C :=
  ⟨⟨nm, q, N, bs, bm, sn, sub, ab, col, dd, k0, k1, k2, k3, k5, h1, h2⟩, a1, a2, a3, a4, a5, a6, a7, a8, b1, b2⟩
theorem FactX.oex {C : Addr} (z : FactX K C) : OexC K C := ⟨z.cls, z.sa, z.exC, z.tyC, z.kC⟩
theorem FactX.xf {C : Addr} (z : FactX K C) : XfC K C := ⟨z.ga, z.gg, z.exC, z.hd⟩
theorem FactX.isx {C : Addr} (z : FactX K C) (hn : PySem.W.specialIn K (.builtin "object.__class__") "__get__" = some (some (.builtin "getset_descriptor.__get__"))) (ht : PySem.W.takesIn K (.builtin "object.__class__") = some true) : IsxC K C := ⟨z.ga, z.gg, z.exC, by obtain ⟨cd, hc, _⟩ := PySem.W.any_some z.hd; rw [hc]; rfl, z.kc, hn, ht, z.ob⟩
/-- a class that may stand in a clause: caught or not -/
theorem exm_of {C D : Addr} {b : Bool} (h1 : PySem.W.subIn K (.ref C) (.type "BaseException") = some true) (h2 : PySem.W.hasDictIn K C = true) (h3 : PySem.W.typeIn K (.ref C) = some (.type "type")) (h4 : PySem.W.subIn K (.ref D) (.ref C) = some b) : PySem.W.exmOne K (.ref D) (.ref C) = some b :=
  PySem.W.exm_ref h1 h2 h3 h4
theorem MetAt.makX {cm : Nat → Addr} {n k : Nat} {y qual : Str} {st : Stmt} {ps : List Str} (z : MetAt K (cm n) "__init__" qual st ps) (c : FactX K (cm n)) (hm : mg y = some (.ref (cm n)))
    (ht : ∀ {f : Addr}, PySem.W.findIn K (.ref (cm n)) "__init__" = some (some (.ref f)) → PySem.W.isFn K (.ref f) = true → PySem.W.typeIn K (.ref f) = some (.type "function"))
    (h : ∀ {f : Addr} {fd : FuncData}, Fun K "__init__" qual st f fd → FnOk P w K mg base CX0 k f fd ps (spAt K (cm n))) : MakX P w K mg base cm k n y := by
  obtain ⟨f, fd, F, ⟨a, i, kp⟩, hb⟩ := z
  exact ⟨f, fd, ps, c.oex, a, ht a i, h F, hb, hm⟩
end
end DL

/-! DL53: reckoning of what may raise. -/
namespace DL
open PySem L2
def Wpx (g : XF) (ρ : Ev) (Φ : Fr → Prop) : Prop := ∃ r, g ρ = some r ∧ Φ r
theorem wpx_up {g : SF} {ρ : Ev} {Φ : Fr → Prop} (h : Wp g ρ fun r => Φ (.fl r)) : Wpx (xUp g) ρ Φ := by
  obtain ⟨r, h1, h2⟩ := h
  exact ⟨.fl r, by unfold xUp; rw [h1]; rfl, h2⟩
theorem wp_dnX {g : XF} {ρ : Ev} {Φ : Fl → Prop} (h : Wpx g ρ fun r => ∃ r0, r = .fl r0 ∧ Φ r0) : Wp (dn g) ρ Φ := by
  obtain ⟨r, h1, r0, rfl, h2⟩ := h
  exact ⟨r0, by unfold dn; rw [h1]; rfl, h2⟩
theorem wpx_seq {g h : XF} {ρ : Ev} {Φ : Fr → Prop} (h1 : Wpx g ρ fun r => match r with
    | .fl (.nx ρ') => Wpx h ρ' Φ
    | r => Φ r) : Wpx (xSeq g h) ρ Φ := by
  obtain ⟨r, h2, h3⟩ := h1
  unfold Wpx xSeq
  rw [h2]
  cases r with
  | ex => exact ⟨_, rfl, h3⟩
  | fl r =>
    cases r with
    | nx ρ' => exact h3
    | rt => exact ⟨_, rfl, h3⟩
    | bk => exact ⟨_, rfl, h3⟩
    | ct => exact ⟨_, rfl, h3⟩
theorem wpx_nx {g h : XF} {ρ ρ' : Ev} {Φ : Fr → Prop} (h1 : Wpx g ρ fun r => r = .fl (.nx ρ')) (h2 : Wpx h ρ' Φ) : Wpx (xSeq g h) ρ Φ := wpx_seq (by
  obtain ⟨r, h3, rfl⟩ := h1
  exact ⟨_, h3, h2⟩)
theorem wpx_if {c : Ev → Option Bool} {g h : XF} {ρ : Ev} {b : Bool} {Φ : Fr → Prop} (h1 : Te c ρ b) (ht : b = true → Wpx g ρ Φ) (hf : b = false → Wpx h ρ Φ) : Wpx (xIf c g h) ρ Φ := by
  unfold Te at h1
  unfold Wpx xIf
  rw [h1]
  cases b with
  | true => exact ht rfl
  | false => exact hf rfl
/-- if c: raise ..; then the rest -/
theorem wpx_g {c : Ev → Option Bool} {g h : XF} {ρ : Ev} {b : Bool} {Φ : Fr → Prop} (h1 : Te c ρ b) (ht : b = true → Wpx g ρ fun r => (∀ ρ', r ≠ .fl (.nx ρ')) ∧ Φ r) (hf : b = false → Wpx h ρ Φ) : Wpx (xSeq (xIf c g (xUp bNil)) h) ρ Φ := by
  refine wpx_seq (wpx_if h1 (fun hb => ?_) fun hb => wpx_up (wp_nil (hf hb)))
  obtain ⟨r, h2, h3, h4⟩ := ht hb
  refine ⟨r, h2, ?_⟩
  cases r with
  | ex => exact h4
  | fl r =>
    cases r with
    | nx ρ' => exact absurd rfl (h3 ρ')
    | rt => exact h4
    | bk => exact h4
    | ct => exact h4
theorem wpx_raiseAt {n : Nat} {f : EF} {ρ : Ev} {d : D} {v : V} {Φ : Fr → Prop} (h : Vf f ρ d) (ha : atomV d = some v) (h2 : Φ (.ex n (some d) ρ)) : Wpx (xRaiseAt n f) ρ Φ := by
  obtain ⟨m, h⟩ := h
  unfold Ve at h
  exact ⟨_, by unfold xRaiseAt; rw [h]; simp [ha], h2⟩
theorem wpx_raise0 {n : Nat} {ρ : Ev} {Φ : Fr → Prop} (h2 : Φ (.ex n none ρ)) : Wpx (xRaise0 n) ρ Φ := ⟨_, rfl, h2⟩
theorem wpx_ex {fn : List D → Option (D ⊕ (Nat × Option D))} {g : AF} {ρ : Ev} {ds : List D} {r : D ⊕ (Nat × Option D)} {Φ : Fr → Prop} (h : Af g ρ ds) (hc : fn ds = some r) (h2 : Φ (match r with
    | .inl _ => .fl (.nx ρ)
    | .inr p => .ex p.1 p.2 ρ)) : Wpx (xEx (eCallX fn g)) ρ Φ := by
  obtain ⟨as, h, rfl⟩ := h
  unfold Ae at h
  refine ⟨_, ?_, h2⟩
  unfold xEx eCallX
  rw [h]
  simp only [Option.bind_some, hc]
  cases r <;> rfl
/-- the loop, item by item -/
def WpF (g : GF) (b : XF) (ds : List D) (ρ : Ev) (Ψ : Fr → Prop) : Prop := ∃ r, forGoX g b ds ρ = some r ∧ Ψ r
theorem wpf_nil {g : GF} {b : XF} {ρ : Ev} {Ψ : Fr → Prop} (h : Ψ (.fl (.nx ρ))) : WpF g b [] ρ Ψ := ⟨_, rfl, h⟩
theorem wpf_cons {g : GF} {b : XF} {d : D} {r : List D} {ρ : Ev} {Ψ : Fr → Prop} (h1 : Sg g d .new ρ fun ρ1 => Wpx b ρ1 fun s => match s with
    | .fl (.nx ρ2) => WpF g b r ρ2 Ψ
    | .fl (.ct ρ2) => WpF g b r ρ2 Ψ
    | .fl (.bk ρ2) => Ψ (.fl (.nx ρ2))
    | s => Ψ s) : WpF g b (d :: r) ρ Ψ := by
  obtain ⟨ρ1, h2, s, h3, h4⟩ := h1
  unfold WpF
  rw [forGoX, h2]
  simp only [Option.bind_some, h3]
  cases s with
  | ex => exact ⟨_, rfl, h4⟩
  | fl s =>
    cases s with
    | nx => exact h4
    | ct => exact h4
    | bk => exact ⟨_, rfl, h4⟩
    | rt => exact ⟨_, rfl, h4⟩
theorem wpx_for {f : I3} {g : GF} {b : XF} {ρ : Ev} {ds : List D} {Ψ : Fr → Prop} (hx : f ρ = some ds) (h : WpF g b ds ρ Ψ) : Wpx (xFor f g b) ρ Ψ := by
  obtain ⟨r, h1, h2⟩ := h
  exact ⟨r, by unfold xFor; rw [hx]; exact h1, h2⟩
theorem i3_en {f : EF} {ρ : Ev} {ds : List D} (h : Ve f ρ (.lst ds) .new) : i3En f ρ = some (enumL 0 ds) := by
  unfold Ve at h; unfold i3En; rw [h]; rfl
theorem i3_zip {f g : EF} {ρ : Ev} {xs : List Str} {es : List D} (h1 : Ve f ρ (.wtp xs) .new) (h2 : Ve g ρ (.tup es) .new) : i3Zip f g ρ = some (zipL (xs.map .str) es) := by
  unfold Ve at h1 h2; unfold i3Zip; rw [h1, h2]; rfl
theorem i3_zipS {f g : EF} {ρ : Ev} {x : Str} {es : List D} (h1 : Vf f ρ (.str x)) (h2 : Ve g ρ (.tup es) .new) (ha : x.cps.all (· < 128) = true) : i3ZipS f g ρ = some (zipL (strD x) es) := by
  obtain ⟨m, h1⟩ := h1
  unfold Ve at h1 h2; unfold i3ZipS; rw [h1, h2]; exact if_pos ha
theorem ve_slN {f : EF} {l h : OF} {ρ : Ev} {ds : List D} {lo hi : Option Int} (h1 : Ve f ρ (.lst ds) .new) (h2 : Oe l ρ lo) (h3 : Oe h ρ hi) : Ve (eSlN f l h) ρ (.lst (cutL ds lo hi)) .new := by
  unfold Ve Oe at *; unfold eSlN; rw [h1, h2, h3]; rfl
theorem ve_slNt {f : EF} {l h : OF} {ρ : Ev} {ds : List D} {lo hi : Option Int} (h1 : Ve f ρ (.tup ds) .new) (h2 : Oe l ρ lo) (h3 : Oe h ρ hi) : Ve (eSlN f l h) ρ (.tup (cutL ds lo hi)) .new := by
  unfold Ve Oe at *; unfold eSlN; rw [h1, h2, h3]; rfl
theorem ve_addN {f g : EF} {ρ : Ev} {xs ys : List D} (h1 : Ve f ρ (.lst xs) .new) (h2 : Ve g ρ (.lst ys) .new) (hl : xs.length + ys.length ≤ 16777216) : Ve (eAddN f g) ρ (.lst (xs ++ ys)) .new := by
  unfold Ve at *; unfold eAddN; rw [h1, h2]; simp [hl]
theorem ve_lstN {f : EF} {ρ : Ev} {ds : List D} (h : Ve f ρ (.lst ds) .new ∨ Ve f ρ (.tup ds) .new) : Ve (eLstN (aCons f aNil)) ρ (.lst ds) .new := by
  rcases h with h | h <;> (unfold Ve at h ⊢; unfold eLstN aCons aNil; rw [h]; rfl)
theorem ve_tupN {f : EF} {ρ : Ev} {ds : List D} (h : Ve f ρ (.lst ds) .new ∨ Ve f ρ (.tup ds) .new) : Ve (eTupN (aCons f aNil)) ρ (.tup ds) .new := by
  rcases h with h | h <;> (unfold Ve at h ⊢; unfold eTupN aCons aNil; rw [h]; rfl)
/-! ### defs -/
theorem fnf_wp {n k : Nat} {b : SF} {ds : List D} {Φ : D → Prop} (hl : ds.length = k) (h : Wp b (entF n ds) (RtK fun d => flat d = true ∧ Φ d)) : ∃ d, DL.fnF n k b ds = some d ∧ Φ d := by
  obtain ⟨r, h1, h2⟩ := h
  unfold DL.fnF
  rw [if_pos hl, h1]
  cases r with
  | nx ρ => exact ⟨_, rfl, h2.2⟩
  | rt d ρ => exact ⟨d, by simp [h2.1], h2.2⟩
  | bk => exact h2.elim
  | ct => exact h2.elim
theorem fnf_is {n k : Nat} {b : SF} {ds : List D} {d : D} (hl : ds.length = k) (hf : flat d = true) (h : Wp b (entF n ds) (RtK fun c => c = d)) : DL.fnF n k b ds = some d := by
  obtain ⟨c, h1, rfl⟩ := fnf_wp (Φ := fun c => c = d) hl (h.imp fun r hr => by
    cases r with
    | nx => exact ⟨rfl, hr⟩
    | rt c => cases (show c = d from hr); exact ⟨hf, rfl⟩
    | bk => exact hr
    | ct => exact hr)
  exact h1
theorem fnr_wp {n k : Nat} {b : SF} {ds : List D} {Φ : D → Prop} (hl : ds.length = k) (h : Wp b (entF n ds) (RtK Φ)) : ∃ d, DL.fnR n k b ds = some d ∧ Φ d := by
  obtain ⟨r, h1, h2⟩ := h
  unfold DL.fnR
  rw [if_pos hl, h1]
  cases r with
  | nx ρ => exact ⟨_, rfl, h2⟩
  | rt d ρ => exact ⟨_, rfl, h2⟩
  | bk => exact h2.elim
  | ct => exact h2.elim
theorem fnxf_is {n k : Nat} {b : XF} {ds : List D} {r : D ⊕ (Nat × Option D)} (hl : ds.length = k) (hf : flatR r = true) (h : Wpx b (entF n ds) fun q => resX q = some r) : fnXF n k b ds = some r := by
  obtain ⟨q, h1, h2⟩ := h
  unfold fnXF
  rw [if_pos hl, h1]
  simp [h2, hf]
theorem fnx_is {n k : Nat} {b : XF} {ds : List D} {r : D ⊕ (Nat × Option D)} (hl : ds.length = k) (h : Wpx b (ent n ds) fun q => resX q = some r) : fnX n k b ds = some r := by
  obtain ⟨q, h1, h2⟩ := h
  unfold fnX
  rw [if_pos hl, h1]
  simp [h2]
end DL

/-! DL54: in a tuple of data. -/
namespace DL
open PySem L2
def rInT (K : PySem.W.Frag) : R2 := fun x y H Q => ∃ d ds, Dp K H x d ∧ Dp K H y (.tuple ds) ∧ SeqAt.shaped d = true ∧ SeqAt.shaped (.list ds) = true ∧ Q (.bl (ds.any fun z => PyData.eqv z d)) H
section
variable {cm : Nat → Addr} {X : Cx} {pos : Pos} {a b : Expr} {fa fb : EF}
theorem op_inT (hu : X.A.units + 65 < cLine) : OpR X (compareOp .In) (rInT X.K) := by
  intro pins s σ H x y v u Q I rx ry h
  obtain ⟨d, ds, hd, he, sd, se, q⟩ := h
  obtain ⟨as, r1⟩ := Dp.reads I d x v hd rx
  obtain ⟨bs, r2⟩ := Dp.reads I (.tuple ds) y u he ry
  exact SeqAt.in_tuple_reads r2 r1 (SeqAt.canLay_of_shaped se) (SeqAt.canLay_of_shaped sd) (PyProof.Rows.room_in_shaped sd hu) ⟨.bl _, H, I, rfl, q⟩
/-- x in (a, b, ..), things of data -/
def inTD (x c : D) : Option D := match c with
  | .tup ds => (toPy x).bind fun p => (toPys ds).bind fun ps => if SeqAt.shaped p = true ∧ SeqAt.shaped (.list ps) = true then some (.bl (ps.any fun z => PyData.eqv z p)) else none
  | _ => none
theorem ok_inT {Γ : Ga} : OkOp Γ (rInT Γ.K) inTD := by
  intro H x y c v u Q e hx hy hQ
  unfold inTD at e
  split at e
  · rename_i ds
    cases e1 : toPy x with
    | none => simp [e1] at e
    | some p =>
      cases e2 : toPys ds with
      | none => simp [e1, e2] at e
      | some ps =>
        simp [e1, e2] at e
        obtain ⟨⟨h1, h2⟩, rfl⟩ := e
        exact ⟨p, ps, dp_of e1 hx, dp_of (d := .tup ds) (by rw [toPy, e2]; rfl) hy, h1, h2, hQ _ _ (.atom (by simp [atomV]))⟩
  · cases e
theorem pu_inT (hu : X.A.units + 65 < cLine) (ha : PuE cm X a fa) (hb : PuE cm X b fb) (hm : behindInMarks .In b = false := by rfl) : PuE cm X (.Compare a [.In] [b] pos) (e2 inTD fa fb) := pu_cmp (op_inT hu) ok_inT ha hb hm
theorem put_inT (hu : X.A.units + 65 < cLine) (ha : PuE cm X a fa) (hb : PuE cm X b fb) (hm : behindInMarks .In b = false := by rfl) : PuT cm X (.Compare a [.In] [b] pos) (tE (e2 inTD fa fb)) := put_cmp (op_inT hu) ok_inT ha hb hm
end
end DL

namespace K02
open PySem L2 DL
noncomputable section
abbrev tab_NAMED : List (Str × Option Int) := [("lay", some 1), ("copy", some 2), ("same", some 2), ("add", some 2), ("tell", some 1), ("open", none), ("give", none), ("fork", none), ("go", none), ("end", none)]
abbrev tabT_FORMS : TabT := [("open", some ["plot"]), ("lay", some ["name", "plot", "number"]), ("copy", some ["name", "name", "plot"]), ("same", some ["name", "name"]), ("add", some ["name", "name"]), ("tell", some ["name"]), ("give", some ["plot"]), ("fork", some ["place"]), ("go", some ["place"]), ("end", some []), ("hop", none)]
noncomputable def b__law_at : SF := (bSeq (sIf (tE (e2 ltD (eV 1) (eCall lenD (aCons (eV 0) aNil)))) (sRet (eIx ixD (eV 0) (eV 1))) bNil)
    (sRet (eC (.int 0))))
noncomputable def f__law_at : List D → Option D := fnP 2 2 b__law_at
noncomputable def b_is_name : SF := (bSeq (sIf (tOrD (tNotD (tE (e1 (isTy .str) (eV 0)))) (tNotD (tE (eCh (fun i j => decide (i ≤ j)) (fun i j => decide (i ≤ j)) (eC (.int 1)) (eCall lenD (aCons (eV 0) aNil)) (eC (.int 8)))))) (sRet (eC (.bl false))) bNil)
    (bSeq (sFor (iE (eV 0)) (gN 1) (sIf (tE (e2 ninD (eV 1) (eC (.str "abcdefghijklmnopqrstuvwxyz")))) (sRet (eC (.bl false))) bNil))
    (sRet (eC (.bl true)))))
noncomputable def f_is_name : List D → Option D := DL.fnF 2 1 b_is_name
noncomputable def b_is_plot : SF := (bSeq (sIf (tOrD (tNotD (tE (e1 (isTy .tuple) (eV 1)))) (tOrD (tE (e2 neDD (eCall lenD (aCons (eV 1) aNil)) (eC (.int 2)))) (tOrD (tNotD (tE (eCall f_is_name (aCons (eIx ixD (eV 1) (eC (.int 0))) aNil)))) (tE (e2 inD (eIx ixD (eV 1) (eC (.int 0))) (eV 0)))))) (sRet (eC (.bl false))) bNil)
    (sRet (eOr (e1 isND (eIx ixD (eV 1) (eC (.int 1)))) (eAnd (eCall f_is_name (aCons (eIx ixD (eV 1) (eC (.int 1))) aNil)) (e2 inD (eIx ixD (eV 1) (eC (.int 1))) (eV 0))))))
noncomputable def f_is_plot : List D → Option D := DL.fnF 2 2 b_is_plot
noncomputable def b_need_plots : XF := (xSeq (xIf (tOrD (tNotD (tE (e1 (isTy .list) (eV 0)))) (tE (e2 gtD (eCall lenD (aCons (eV 0) aNil)) (eC (.int 12))))) (xRaiseAt 1 (eC (.non))) (xUp bNil))
    (xSeq (xUp (sSetN 1 nDic0))
    (xFor (i3En (eV 0)) (gT 2 (gsCons 2 (gsCons 3 gsNil))) (xSeq (xIf (tNotD (tE (eCall f_is_plot (aCons (eV 1) (aCons (eV 3) aNil))))) (xRaiseAt 1 (eV 2)) (xUp bNil))
    (xUp (sSub 1 wN (eIx ixD (eV 3) (eC (.int 0))) (nFlat (eC (.bl true)))))))))
noncomputable def f_need_plots : List D → Option (D ⊕ (Nat × Option D)) := fnXF 4 1 b_need_plots
noncomputable def b_is_whole : SF := (sRet (eAnd (e1 (isTy .int) (eV 0)) (e1 notD (e1 (isTy .bool) (eV 0)))))
noncomputable def f_is_whole : List D → Option D := DL.fnF 1 1 b_is_whole
noncomputable def b_is_part : SF := (bSeq (sIf (tE (e2 eqDD (eV 0) (eC (.str "name")))) (sRet (eCall f_is_name (aCons (eV 1) aNil))) bNil)
    (bSeq (sIf (tE (e2 eqDD (eV 0) (eC (.str "plot")))) (sRet (eAnd (eCall f_is_name (aCons (eV 1) aNil)) (e2 inD (eV 1) (eV 2)))) bNil)
    (bSeq (sIf (tE (e2 eqDD (eV 0) (eC (.str "number")))) (sRet (eAnd (eCall f_is_whole (aCons (eV 1) aNil)) (e2 leD (eCall absD (aCons (eV 1) aNil)) (eC (.int 1000000000000000000))))) bNil)
    (sRet (eAnd (eCall f_is_whole (aCons (eV 1) aNil)) (eCh (fun i j => decide (i ≤ j)) (fun i j => decide (i ≤ j)) (eC (.int 0)) (eV 1) (eV 3)))))))
noncomputable def f_is_part : List D → Option D := DL.fnF 4 4 b_is_part
noncomputable def b_is_row : SF := (bSeq (sIf (tOrD (tNotD (tE (e1 (isTy .tuple) (eV 0)))) (tOrD (tE (e2 eqDD (eCall lenD (aCons (eV 0) aNil)) (eC (.int 0)))) (tOrD (tNotD (tE (e1 (isTy .str) (eIx ixD (eV 0) (eC (.int 0)))))) (tE (e1 (tninD tabT_FORMS) (eIx ixD (eV 0) (eC (.int 0)))))))) (sRet (eC (.bl false))) bNil)
    (bSeq (sSet 3 (e1 (tixD tabT_FORMS) (eIx ixD (eV 0) (eC (.int 0)))))
    (bSeq (sIf (tE (e2 neDD (eCall lenD (aCons (eV 0) aNil)) (e2 addD (eC (.int 1)) (eCall lenD (aCons (eV 3) aNil))))) (sRet (eC (.bl false))) bNil)
    (bSeq (dn (xFor (i3Zip (eV 3) (eSlN (eV 0) (oSome (eC (.int 1))) oNone)) (gT 2 (gsCons 4 (gsCons 5 gsNil))) (xUp (sIf (tNotD (tE (eCall f_is_part (aCons (eV 4) (aCons (eV 5) (aCons (eV 1) (aCons (eV 2) aNil))))))) (sRet (eC (.bl false))) bNil))))
    (sRet (eC (.bl true)))))))
noncomputable def f_is_row : List D → Option D := DL.fnF 6 3 b_is_row
noncomputable def b_need : XF := (xSeq (xEx (eCallX f_need_plots (aCons (eV 0) aNil)))
    (xSeq (xIf (tOrD (tNotD (tE (e1 (isTy .list) (eV 1)))) (tE (e2 gtD (eCall lenD (aCons (eV 1) aNil)) (eC (.int 60))))) (xRaiseAt 2 (eC (.non))) (xUp bNil))
    (xSeq (xUp (sSetN 2 nDic0))
    (xSeq (xUp (sFor (iE (eV 0)) (gN 3) (sSub 2 wN (eIx ixD (eV 3) (eC (.int 0))) (nFlat (eC (.bl true))))))
    (xSeq (xFor (i3En (eV 1)) (gT 2 (gsCons 4 (gsCons 5 gsNil))) (xIf (tNotD (tE (eCall f_is_row (aCons (eV 5) (aCons (eV 2) (aCons (eCall lenD (aCons (eV 1) aNil)) aNil)))))) (xRaiseAt 2 (eV 4)) (xUp bNil)))
    (xUp (sRet (eC (.bl true)))))))))
noncomputable def f_need : List D → Option (D ⊕ (Nat × Option D)) := fnXF 6 2 b_need
noncomputable def b_need_run : XF := (xSeq (xIf (tOrD (tNotD (tE (e1 (isTy .list) (eV 0)))) (tOrD (tNotD (tE (eCall f_is_whole (aCons (eV 1) aNil)))) (tNotD (tE (eCh (fun i j => decide (i ≤ j)) (fun i j => decide (i ≤ j)) (eC (.int 0)) (eV 1) (eC (.int 1000000))))))) (xRaise0 3) (xUp bNil))
    (xFor (i3 (iE (eV 0))) (gN 2) (xIf (tNotD (tE (eCall f_is_whole (aCons (eV 2) aNil)))) (xRaise0 3) (xUp bNil))))
noncomputable def f_need_run : List D → Option (D ⊕ (Nat × Option D)) := fnXF 3 2 b_need_run
noncomputable def b_row_at : SF := (bSeq (sIf (tE (e2 ltD (eV 1) (eCall lenD (aCons (eV 0) aNil)))) (sRet (eIx ixD (eV 0) (eV 1))) bNil)
    (sRet (eDisp .tup (aCons (eC (.str "end")) aNil))))
noncomputable def f_row_at : List D → Option D := fnP 2 2 b_row_at
noncomputable def b_Store___init__ : SF := (bSeq (sFldY 4 "plots" 0 wN (yN (nLstC (aCons (eV 1) aNil))))
    (bSeq (sFldY 4 "there" 0 wN (yN (nLst nNil)))
    (bSeq (sFldY 4 "worth" 0 wN (yN (nLst nNil)))
    (bSeq (sFldY 4 "held" 0 wN (yN nDic0))
    (bSeq (sFldY 4 "told" 0 wN (yN (nLst nNil)))
    (bSeq (sFldY 4 "opened" 0 wN (yN (nFlat (eC (.int 0)))))
    (sFldY 4 "given" 0 wN (yN (nLst nNil)))))))))
noncomputable def f_Store___init__ : List D → Option (D × List D) := fnC 2 [true, false] b_Store___init__
noncomputable def b_Store_number_of : SF := (bSeq (sFor (iE (eFld 4 "there" (eV 0))) (gT 2 (gsCons 2 (gsCons 3 gsNil))) (sIf (tE (e2 eqDD (eV 2) (eV 1))) (sRet (eV 3)) bNil))
    (sRet (eC (.non))))
noncomputable def f_Store_number_of : List D → Option D := fnP 4 2 b_Store_number_of
noncomputable def b_Store_laid : SF := (bSeq (sSet 4 (eMeth 4 "number_of" f_Store_number_of (eV 0) (aCons (eV 2) aNil)))
    (bSeq (sIf (tE (e1 isND (eV 4))) (sRet (eC (.str "not open"))) bNil)
    (bSeq (sApp 0 (wFld 4 "worth" 0 wN) (nLst (nCons (nFlat (eV 3)) (nCons (nFlat (eV 4)) nNil))))
    (bSeq (sSub 0 (wFld 4 "held" 0 wN) (eV 1) (nFlat (e2 subD (eCall lenD (aCons (eFld 4 "worth" (eV 0)) aNil)) (eC (.int 1)))))
    (sRet (eC (.str "")))))))
noncomputable def f_Store_laid : List D → Option (D × List D) := fnC 5 [true, false, false, false] b_Store_laid
noncomputable def b_outward : SF := (bSeq (sSetN 2 nDic0)
    (bSeq (sFor (iE (eV 0)) (gT 2 (gsCons 3 (gsCons 4 gsNil))) (sSub 2 wN (eV 3) (nFlat (eV 4))))
    (bSeq (sSetN 5 (nLst nNil))
    (bSeq (sWhile (tE (e1 notND (eV 1))) (bSeq (sApp 5 wN (nFlat (eV 1)))
    (sSet 1 (eIx ixD (eV 2) (eV 1)))))
    (sRetOn 5)))))
noncomputable def f_outward : List D → Option D := fnP 6 2 b_outward
noncomputable def b_Store_begun : SF := (bSeq (sIf (tE (e1 notND (eMeth 4 "number_of" f_Store_number_of (eV 0) (aCons (eV 1) aNil)))) (sRet (eC (.str "open already"))) bNil)
    (bSeq (sSet 2 (eSl (eCall f_outward (aCons (eFld 4 "plots" (eV 0)) (aCons (eV 1) aNil))) (oSome (eC (.int 1))) (oSome (eC (.int 2)))))
    (bSeq (sIf (tAndD (tE (e2 neDD (eV 2) (eDisp .lst aNil))) (tE (e1 isND (eMeth 4 "number_of" f_Store_number_of (eV 0) (aCons (eIx ixD (eV 2) (eC (.int 0))) aNil))))) (sRet (eC (.str "not open"))) bNil)
    (bSeq (sApp 0 (wFld 4 "there" 0 wN) (nFlat (eDisp .tup (aCons (eV 1) (aCons (eFld 4 "opened" (eV 0)) aNil)))))
    (bSeq (sFldA 4 "opened" 0 wN (eC (.int 1)))
    (sRet (eC (.str ""))))))))
noncomputable def f_Store_begun : List D → Option (D × List D) := fnC 3 [true, false] b_Store_begun
noncomputable def b_Store_lack : SF := (bSeq (sIf (tE (e2 ninD (eV 1) (eFld 4 "held" (eV 0)))) (sRet (eC (.str "nothing"))) bNil)
    (bSeq (sFor (iE (eFld 4 "there" (eV 0))) (gT 2 (gsCons 2 (gsCons 3 gsNil))) (sIf (tE (e2 eqDD (eV 3) (eIx ixD (eIx ixD (eFld 4 "worth" (eV 0)) (eIx ixD (eFld 4 "held" (eV 0)) (eV 1))) (eC (.int 1))))) (sRet (eC (.str ""))) bNil))
    (sRet (eC (.str "gone")))))
noncomputable def f_Store_lack : List D → Option D := fnP 4 2 b_Store_lack
noncomputable def b_Store_worth_of : SF := (sRet (eIx ixD (eIx ixD (eFld 4 "worth" (eV 0)) (eIx ixD (eFld 4 "held" (eV 0)) (eV 1))) (eC (.int 0))))
noncomputable def f_Store_worth_of : List D → Option D := fnP 2 2 b_Store_worth_of
noncomputable def b_Store_copied : SF := (bSeq (sSet 4 (eMeth 4 "lack" f_Store_lack (eV 0) (aCons (eV 2) aNil)))
    (bSeq (sIf (tE (e2 neDD (eV 4) (eC (.str "")))) (sRet (eV 4)) bNil)
    (sRetM (callC [true, false, false, false] f_Store_laid (insC 4 "laid" 0 (cRd (eV 1) (cRd (eV 3) (cRd (eMeth 4 "worth_of" f_Store_worth_of (eV 0) (aCons (eV 2) aNil)) cNil))))))))
noncomputable def f_Store_copied : List D → Option (D × List D) := fnC 5 [true, false, false, false] b_Store_copied
noncomputable def b_Store_shared : SF := (bSeq (sIf (tE (e2 ninD (eV 2) (eFld 4 "held" (eV 0)))) (sRet (eC (.str "nothing"))) bNil)
    (bSeq (sSub 0 (wFld 4 "held" 0 wN) (eV 1) (nFlat (eIx ixD (eFld 4 "held" (eV 0)) (eV 2))))
    (sRet (eC (.str "")))))
noncomputable def f_Store_shared : List D → Option (D × List D) := fnC 3 [true, false, false] b_Store_shared
noncomputable def b_Store_grown : SF := (bSeq (sFor (iE (eDisp .tup (aCons (eV 1) (aCons (eV 2) aNil)))) (gN 3) (bSeq (sSet 4 (eMeth 4 "lack" f_Store_lack (eV 0) (aCons (eV 3) aNil)))
    (sIf (tE (e2 neDD (eV 4) (eC (.str "")))) (sRet (eV 4)) bNil)))
    (bSeq (sAugP 0 (wIx 0 (wFld 4 "worth" 0 wN) (eIx ixD (eFld 4 "held" (eV 0)) (eV 1))) (eC (.int 0)) (eMeth 4 "worth_of" f_Store_worth_of (eV 0) (aCons (eV 2) aNil)))
    (sRet (eC (.str "")))))
noncomputable def f_Store_grown : List D → Option (D × List D) := fnC 5 [true, false, false] b_Store_grown
noncomputable def b_Store_said : SF := (bSeq (sSet 2 (eMeth 4 "lack" f_Store_lack (eV 0) (aCons (eV 1) aNil)))
    (bSeq (sIf (tE (e2 eqDD (eV 2) (eC (.str "")))) (sApp 0 (wFld 4 "told" 0 wN) (nFlat (eMeth 4 "worth_of" f_Store_worth_of (eV 0) (aCons (eV 1) aNil)))) bNil)
    (sRet (eV 2))))
noncomputable def f_Store_said : List D → Option (D × List D) := fnC 3 [true, false] b_Store_said
noncomputable def b_Store_gone : SF := (bSeq (sIf (tE (e1 isND (eMeth 4 "number_of" f_Store_number_of (eV 0) (aCons (eV 1) aNil)))) (sRet (eC (.str "not open"))) bNil)
    (bSeq (sSetN 2 (nLst nNil))
    (bSeq (sSetN 3 (nLst nNil))
    (bSeq (sLock 0 (sFor (iE (eFld 4 "there" (eV 0))) (gT 2 (gsCons 4 (gsCons 5 gsNil))) (sIf (tE (e2 inD (eV 1) (eCall f_outward (aCons (eFld 4 "plots" (eV 0)) (aCons (eV 4) aNil))))) (sApp 3 wN (nFlat (eV 5))) (sApp 2 wN (nFlat (eDisp .tup (aCons (eV 4) (aCons (eV 5) aNil))))))))
    (bSeq (sFldY 4 "there" 0 wN (yMv 2))
    (bSeq (sExt 0 (wFld 4 "given" 0 wN) (e1 revD (eV 3)))
    (sRet (eC (.str "")))))))))
noncomputable def f_Store_gone : List D → Option (D × List D) := fnC 6 [true, false] b_Store_gone
noncomputable def b_Store_do : SF := (bSeq (sSet 2 (eIx ixD (eV 1) (eC (.int 0))))
    (bSeq (sIf (tE (e2 eqDD (eV 2) (eC (.str "open")))) (sRetM (callC [true, false] f_Store_begun (insC 4 "begun" 0 (cRd (eIx ixD (eV 1) (eC (.int 1))) cNil)))) bNil)
    (bSeq (sIf (tE (e2 eqDD (eV 2) (eC (.str "lay")))) (sRetM (callC [true, false, false, false] f_Store_laid (insC 4 "laid" 0 (cRd (eIx ixD (eV 1) (eC (.int 1))) (cRd (eIx ixD (eV 1) (eC (.int 2))) (cRd (eIx ixD (eV 1) (eC (.int 3))) cNil)))))) bNil)
    (bSeq (sIf (tE (e2 eqDD (eV 2) (eC (.str "copy")))) (sRetM (callC [true, false, false, false] f_Store_copied (insC 4 "copied" 0 (cRd (eIx ixD (eV 1) (eC (.int 1))) (cRd (eIx ixD (eV 1) (eC (.int 2))) (cRd (eIx ixD (eV 1) (eC (.int 3))) cNil)))))) bNil)
    (bSeq (sIf (tE (e2 eqDD (eV 2) (eC (.str "same")))) (sRetM (callC [true, false, false] f_Store_shared (insC 4 "shared" 0 (cRd (eIx ixD (eV 1) (eC (.int 1))) (cRd (eIx ixD (eV 1) (eC (.int 2))) cNil))))) bNil)
    (bSeq (sIf (tE (e2 eqDD (eV 2) (eC (.str "add")))) (sRetM (callC [true, false, false] f_Store_grown (insC 4 "grown" 0 (cRd (eIx ixD (eV 1) (eC (.int 1))) (cRd (eIx ixD (eV 1) (eC (.int 2))) cNil))))) bNil)
    (bSeq (sIf (tE (e2 eqDD (eV 2) (eC (.str "tell")))) (sRetM (callC [true, false] f_Store_said (insC 4 "said" 0 (cRd (eIx ixD (eV 1) (eC (.int 1))) cNil)))) bNil)
    (bSeq (sIf (tE (e2 eqDD (eV 2) (eC (.str "give")))) (sRetM (callC [true, false] f_Store_gone (insC 4 "gone" 0 (cRd (eIx ixD (eV 1) (eC (.int 1))) cNil)))) bNil)
    (bSeq (sIf (tE (e2 neDD (eFld 4 "there" (eV 0)) (eDisp .lst aNil))) (sRet (eC (.str "left"))) bNil)
    (sRet (eC (.str ""))))))))))))
noncomputable def f_Store_do : List D → Option (D × List D) := fnC 3 [true, false] b_Store_do
def b_Outcome___init__ : KF := (kSeq (kPar "end" 0) (kSeq (kPar "row" 1) (kSeq (kPar "steps" 2) (kSeq (kFld "told" 3 4 "told") (kSeq (kFld "opened" 3 4 "opened") (kFld "given" 3 4 "given"))))))
def f_Outcome___init__ : List D → Option (List (Str × D)) := fnI 5 b_Outcome___init__
noncomputable def b_run : XF := (xSeq (xEx (eCallX f_need (aCons (eV 0) (aCons (eV 1) aNil))))
    (xSeq (xEx (eCallX f_need_run (aCons (eV 2) (aCons (eV 3) aNil))))
    (xUp (bSeq (sSetN 4 (nMake 4 1 f_Store___init__ (aCons (eV 0) aNil)))
    (bSeq (sSet 5 (eC (.int 0)))
    (bSeq (sSet 6 (eC (.int 0)))
    (bSeq (sSet 7 (eC (.int 0)))
    (bSeq (sWhile (tE (e2 ltD (eV 7) (eV 3))) (bSeq (sSet 8 (eCall f_row_at (aCons (eV 1) (aCons (eV 5) aNil))))
    (bSeq (sAug 7 augAdd (eC (.int 1)))
    (sIf (tE (e2 eqDD (eIx ixD (eV 8) (eC (.int 0))) (eC (.str "go")))) (sSet 5 (eIx ixD (eV 8) (eC (.int 1)))) (sIf (tE (e2 eqDD (eIx ixD (eV 8) (eC (.int 0))) (eC (.str "fork")))) (bSeq (sAug 6 augAdd (eC (.int 1)))
    (sIf (tAndD (tE (e2 leD (eV 6) (eCall lenD (aCons (eV 2) aNil)))) (tE (e2 neDD (eIx ixD (eV 2) (e2 subD (eV 6) (eC (.int 1)))) (eC (.int 0))))) (sSet 5 (eIx ixD (eV 8) (eC (.int 1)))) (sAug 5 augAdd (eC (.int 1))))) (bSeq (sSetM 9 (callC [true, false] f_Store_do (insC 4 "do" 4 (cRd (eV 8) cNil))))
    (bSeq (sIf (tE (e2 neDD (eV 9) (eC (.str "")))) (bFroz 4 (sRet (eMakeI 5 f_Outcome___init__ (aCons (eV 9) (aCons (eV 5) (aCons (eV 7) (aCons (eV 4) aNil))))))) bNil)
    (bSeq (sIf (tE (e2 eqDD (eIx ixD (eV 8) (eC (.int 0))) (eC (.str "end")))) (bFroz 4 (sRet (eMakeI 5 f_Outcome___init__ (aCons (eC (.str "done")) (aCons (eV 5) (aCons (eV 7) (aCons (eV 4) aNil))))))) bNil)
    (sAug 5 augAdd (eC (.int 1)))))))))))
    (bFroz 4 (sRet (eMakeI 5 f_Outcome___init__ (aCons (eC (.str "going")) (aCons (eV 5) (aCons (eV 7) (aCons (eV 4) aNil)))))))))))))))
noncomputable def f_run : List D → Option (D ⊕ (Nat × Option D)) := fnX 10 4 b_run
noncomputable def b_Field___init__ : SF := (bSeq (sFldY 6 "cells" 0 wN (yN (nLst nNil)))
    (bSeq (sFldY 6 "spare" 0 wN (yN (nLst nNil)))
    (bSeq (sFldY 6 "held" 0 wN (yN nDic0))
    (bSeq (sFldY 6 "under" 0 wN (yN nDic0))
    (bSeq (sFldY 6 "mine" 0 wN (yN nDic0))
    (sFor (iE (eV 1)) (gT 2 (gsCons 2 (gsCons 3 gsNil))) (bSeq (sSub 0 (wFld 6 "mine" 0 wN) (eV 2) (nLst nNil))
    (sFor (iE (eCall f_outward (aCons (eV 1) (aCons (eV 2) aNil)))) (gN 4) (sSdApp 0 (wFld 6 "under" 0 wN) (eV 4) (nFlat (eV 2)))))))))))
noncomputable def f_Field___init__ : List D → Option (D × List D) := fnC 5 [true, false] b_Field___init__
noncomputable def b_Field_lay : SF := (bSeq (sIf (tE (e2 neDD (eFld 6 "spare" (eV 0)) (eDisp .lst aNil))) (bSeq (sPop 4 0 (wFld 6 "spare" 0 wN))
    (sSub 0 (wFld 6 "cells" 0 wN) (eV 4) (nFlat (eV 3)))) (bSeq (sSet 4 (eCall lenD (aCons (eFld 6 "cells" (eV 0)) aNil)))
    (sApp 0 (wFld 6 "cells" 0 wN) (nFlat (eV 3)))))
    (bSeq (sApp 0 (wIx 0 (wFld 6 "mine" 0 wN) (eV 2)) (nFlat (eV 4)))
    (sSub 0 (wFld 6 "held" 0 wN) (eV 1) (nFlat (eV 4)))))
noncomputable def f_Field_lay : List D → Option (D × List D) := fnC 5 [true, false, false, false] b_Field_lay
noncomputable def b_Field_give : SF := (sForP 0 (wIx 0 (wFld 6 "under" 0 wN) (eV 1)) (gN 2) (bSeq (sExt 0 (wFld 6 "spare" 0 wN) (eIx ixD (eFld 6 "mine" (eV 0)) (eV 2)))
    (sSub 0 (wFld 6 "mine" 0 wN) (eV 2) (nLst nNil))))
noncomputable def f_Field_give : List D → Option (D × List D) := fnC 3 [true, false] b_Field_give
noncomputable def b_Field_do : SF := (bSeq (sSet 3 (eIx ixD (eV 1) (eC (.int 0))))
    (sIf (tE (e2 eqDD (eV 3) (eC (.str "lay")))) (sExM (callC [true, false, false, false] f_Field_lay (insC 6 "lay" 0 (cRd (eIx ixD (eV 1) (eC (.int 1))) (cRd (eIx ixD (eV 1) (eC (.int 2))) (cRd (eIx ixD (eV 1) (eC (.int 3))) cNil)))))) (sIf (tE (e2 eqDD (eV 3) (eC (.str "copy")))) (sExM (callC [true, false, false, false] f_Field_lay (insC 6 "lay" 0 (cRd (eIx ixD (eV 1) (eC (.int 1))) (cRd (eIx ixD (eV 1) (eC (.int 3))) (cRd (eIx ixD (eFld 6 "cells" (eV 0)) (eIx ixD (eFld 6 "held" (eV 0)) (eIx ixD (eV 1) (eC (.int 2))))) cNil)))))) (sIf (tE (e2 eqDD (eV 3) (eC (.str "same")))) (sSub 0 (wFld 6 "held" 0 wN) (eIx ixD (eV 1) (eC (.int 1))) (nFlat (eIx ixD (eFld 6 "held" (eV 0)) (eIx ixD (eV 1) (eC (.int 2)))))) (sIf (tE (e2 eqDD (eV 3) (eC (.str "add")))) (sAugP 0 (wFld 6 "cells" 0 wN) (eIx ixD (eFld 6 "held" (eV 0)) (eIx ixD (eV 1) (eC (.int 1)))) (eIx ixD (eFld 6 "cells" (eV 0)) (eIx ixD (eFld 6 "held" (eV 0)) (eIx ixD (eV 1) (eC (.int 2)))))) (sIf (tE (e2 eqDD (eV 3) (eC (.str "tell")))) (sApp 2 wN (nFlat (eIx ixD (eFld 6 "cells" (eV 0)) (eIx ixD (eFld 6 "held" (eV 0)) (eIx ixD (eV 1) (eC (.int 1))))))) (sIf (tE (e2 eqDD (eV 3) (eC (.str "give")))) (sExM (callC [true, false] f_Field_give (insC 6 "give" 0 (cRd (eIx ixD (eV 1) (eC (.int 1))) cNil)))) bNil)))))))
noncomputable def f_Field_do : List D → Option (D × List D) := fnC 4 [true, false, true] b_Field_do
noncomputable def b_bare : XF := (xSeq (xEx (eCallX f_need (aCons (eV 0) (aCons (eV 1) aNil))))
    (xSeq (xEx (eCallX f_need_run (aCons (eV 2) (aCons (eV 3) aNil))))
    (xUp (bSeq (sSetN 4 (nMake 6 1 f_Field___init__ (aCons (eV 0) aNil)))
    (bSeq (sSetN 5 (nLst nNil))
    (bSeq (sSet 6 (eC (.int 0)))
    (bSeq (sSet 7 (eC (.int 0)))
    (bSeq (sFor (iR (eV 3)) (gN 8) (bSeq (sSet 9 (eCall f_row_at (aCons (eV 1) (aCons (eV 6) aNil))))
    (bSeq (sIf (tE (e2 eqDD (eIx ixD (eV 9) (eC (.int 0))) (eC (.str "end")))) sBreak bNil)
    (sIf (tE (e2 eqDD (eIx ixD (eV 9) (eC (.int 0))) (eC (.str "go")))) (sSet 6 (eIx ixD (eV 9) (eC (.int 1)))) (sIf (tE (e2 eqDD (eIx ixD (eV 9) (eC (.int 0))) (eC (.str "fork")))) (bSeq (sAug 7 augAdd (eC (.int 1)))
    (sIf (tAndD (tE (e2 leD (eV 7) (eCall lenD (aCons (eV 2) aNil)))) (tE (e2 neDD (eIx ixD (eV 2) (e2 subD (eV 7) (eC (.int 1)))) (eC (.int 0))))) (sSet 6 (eIx ixD (eV 9) (eC (.int 1)))) (sAug 6 augAdd (eC (.int 1))))) (bSeq (sExM (callC [true, false, true] f_Field_do (insC 6 "do" 4 (cRd (eV 9) (cOwn 5 cNil)))))
    (sAug 6 augAdd (eC (.int 1)))))))))
    (bFroz 5 (sRet (eDisp .tup (aCons (eV 5) (aCons (eCall lenD (aCons (eFld 6 "cells" (eV 4)) aNil)) aNil)))))))))))))
noncomputable def f_bare : List D → Option (D ⊕ (Nat × Option D)) := fnX 10 4 b_bare
def b_Wrong___init__ : KF := (kSeq (kPar "choices" 0) (kSeq (kFld "row" 1 5 "row") (kSeq (kFld "word" 1 5 "end") (kFld "steps" 1 5 "steps"))))
def f_Wrong___init__ : List D → Option (List (Str × D)) := fnI 3 b_Wrong___init__
noncomputable def b_at_first : SF := (bSeq (sSetN 2 (nLc (eLc (iE (eV 0)) [5, 6] (gT 2 (gsCons 5 (gsCons 6 gsNil))) (fun _ => some true) (eDisp .tup (aCons (eC (.str "plot")) (aCons (eV 5) (aCons (eC (.bl false)) aNil)))))))
    (bSeq (sSetN 3 nDic0)
    (bSeq (sFor (iE (eV 1)) (gN 4) (sFor (iE (eSl (eV 4) (oSome (eC (.int 1))) (oSome (e2 addD (eC (.int 1)) (e2 (kgetD tab_NAMED) (eIx ixD (eV 4) (eC (.int 0))) (eC (.int 0))))))) (gN 5) (sIf (tE (e2 ninD (eV 5) (eV 3))) (bSeq (sSub 3 wN (eV 5) (nFlat (eC (.bl true))))
    (sApp 2 wN (nFlat (eDisp .tup (aCons (eC (.str "name")) (aCons (eV 5) (aCons (eC (.non)) aNil))))))) bNil)))
    (sRetOn 2))))
noncomputable def f_at_first : List D → Option D := fnP 7 2 b_at_first
noncomputable def b_wrong_by_plot : SF := (bSeq (sSet 4 (eIx ixD (eV 1) (eC (.int 0))))
    (bSeq (sIf (tAndD (tE (e2 eqDD (eV 4) (eC (.str "end")))) (tE (eV 3))) (sRet (eC (.str "left"))) bNil)
    (bSeq (sIf (tE (e2 eqDD (eV 4) (eC (.str "open")))) (bSeq (sIf (tAndD (tE (e2 eqDD (eIx ixD (eV 1) (eC (.int 1))) (eV 2))) (tE (eV 3))) (sRet (eC (.str "open already"))) bNil)
    (bSeq (sIf (tAndD (tNotD (tE (eV 3))) (tE (e2 inD (eV 2) (eSl (eCall f_outward (aCons (eV 0) (aCons (eIx ixD (eV 1) (eC (.int 1))) aNil))) (oSome (eC (.int 1))) (oSome (eC (.int 2))))))) (sRet (eC (.str "not open"))) bNil)
    (sRet (eC (.str ""))))) bNil)
    (bSeq (sSet 5 (eDisp (mkDic [.inr "lay", .inr "copy", .inr "give"]) (aCons (eC (.int 2)) (aCons (eC (.int 3)) (aCons (eC (.int 1)) aNil)))))
    (bSeq (sIf (tAndD (tE (e2 inD (eV 4) (eV 5))) (tAndD (tE (e2 eqDD (eIx ixD (eV 1) (eIx ixD (eV 5) (eV 4))) (eV 2))) (tNotD (tE (eV 3))))) (sRet (eC (.str "not open"))) bNil)
    (sRet (eC (.str ""))))))))
noncomputable def f_wrong_by_plot : List D → Option D := fnP 6 4 b_wrong_by_plot
noncomputable def b_wrong_by : SF := (bSeq (sUnp (eV 2) (gT 3 (gsCons 3 (gsCons 4 (gsCons 5 gsNil)))))
    (bSeq (sIf (tE (e2 eqDD (eV 3) (eC (.str "plot")))) (sRet (eCall f_wrong_by_plot (aCons (eV 0) (aCons (eV 1) (aCons (eV 4) (aCons (eV 5) aNil)))))) bNil)
    (bSeq (sSet 6 (eDisp (mkDic [.inr "copy", .inr "same", .inr "add", .inr "tell"]) (aCons (eDisp .tup (aCons (eC (.int 2)) aNil)) (aCons (eDisp .tup (aCons (eC (.int 2)) aNil)) (aCons (eDisp .tup (aCons (eC (.int 1)) (aCons (eC (.int 2)) aNil))) (aCons (eDisp .tup (aCons (eC (.int 1)) aNil)) aNil))))))
    (bSeq (sIf (tOrD (tE (e2 ninD (eIx ixD (eV 1) (eC (.int 0))) (eV 6))) (tE (e2 ninD (eV 4) (eLc (iE (eIx ixD (eV 6) (eIx ixD (eV 1) (eC (.int 0))))) [7] (gN 7) (fun _ => some true) (eIx ixD (eV 1) (eV 7)))))) (sRet (eC (.str ""))) bNil)
    (bSeq (sIf (tE (e1 isND (eV 5))) (sRet (eC (.str "nothing"))) bNil)
    (bSeq (sIf (tAndD (tE (e2 eqDD (eV 5) (eC (.str "")))) (tE (e2 neDD (eIx ixD (eV 1) (eC (.int 0))) (eC (.str "same"))))) (sRet (eC (.str "gone"))) bNil)
    (sRet (eC (.str "")))))))))
noncomputable def f_wrong_by : List D → Option D := fnP 8 3 b_wrong_by
noncomputable def b_behind_plot : SF := (bSeq (sSet 4 (eIx ixD (eV 1) (eC (.int 0))))
    (bSeq (sIf (tAndD (tE (e2 eqDD (eV 4) (eC (.str "open")))) (tE (e2 eqDD (eIx ixD (eV 1) (eC (.int 1))) (eV 2)))) (sRet (eDisp .lst (aCons (eDisp .tup (aCons (eC (.str "plot")) (aCons (eV 2) (aCons (eC (.bl true)) aNil)))) aNil))) bNil)
    (bSeq (sIf (tAndD (tE (e2 eqDD (eV 4) (eC (.str "give")))) (tE (e2 inD (eIx ixD (eV 1) (eC (.int 1))) (eCall f_outward (aCons (eV 0) (aCons (eV 2) aNil)))))) (sRet (eDisp .lst (aCons (eDisp .tup (aCons (eC (.str "plot")) (aCons (eV 2) (aCons (eC (.bl false)) aNil)))) aNil))) bNil)
    (bSeq (sSetN 5 (nLst (nCons (nFlat (eDisp .tup (aCons (eC (.str "plot")) (aCons (eV 2) (aCons (eV 3) aNil))))) nNil)))
    (bSeq (sIf (tOrD (tAndD (tE (e2 eqDD (eV 4) (eC (.str "lay")))) (tE (e2 eqDD (eIx ixD (eV 1) (eC (.int 2))) (eV 2)))) (tAndD (tE (e2 eqDD (eV 4) (eC (.str "copy")))) (tE (e2 eqDD (eIx ixD (eV 1) (eC (.int 3))) (eV 2))))) (sApp 5 wN (nFlat (eDisp .tup (aCons (eC (.str "name")) (aCons (eIx ixD (eV 1) (eC (.int 1))) (aCons (eV 2) aNil)))))) bNil)
    (sRetOn 5))))))
noncomputable def f_behind_plot : List D → Option D := fnP 6 4 b_behind_plot
noncomputable def b_behind : SF := (bSeq (sUnp (eV 2) (gT 3 (gsCons 3 (gsCons 4 (gsCons 5 gsNil)))))
    (bSeq (sIf (tE (e2 eqDD (eV 3) (eC (.str "plot")))) (sRet (eCall f_behind_plot (aCons (eV 0) (aCons (eV 1) (aCons (eV 4) (aCons (eV 5) aNil)))))) bNil)
    (bSeq (sSet 6 (eIx ixD (eV 1) (eC (.int 0))))
    (bSeq (sIf (tE (e2 eqDD (eV 6) (eC (.str "same")))) (bSeq (sSetN 7 (nLst nNil))
    (bSeq (sIf (tOrD (tE (e2 eqDD (eV 4) (eIx ixD (eV 1) (eC (.int 2))))) (tE (e2 neDD (eV 4) (eIx ixD (eV 1) (eC (.int 1)))))) (sApp 7 wN (nFlat (eV 2))) bNil)
    (bSeq (sIf (tAndD (tE (e2 eqDD (eV 4) (eIx ixD (eV 1) (eC (.int 2))))) (tE (e2 neDD (eIx ixD (eV 1) (eC (.int 1))) (eIx ixD (eV 1) (eC (.int 2)))))) (sApp 7 wN (nFlat (eDisp .tup (aCons (eC (.str "name")) (aCons (eIx ixD (eV 1) (eC (.int 1))) (aCons (eV 5) aNil)))))) bNil)
    (sRetOn 7)))) bNil)
    (bSeq (sIf (tAndD (tE (e2 inD (eV 6) (eDisp .tup (aCons (eC (.str "lay")) (aCons (eC (.str "copy")) aNil))))) (tE (e2 eqDD (eV 4) (eIx ixD (eV 1) (eC (.int 1)))))) (sRet (eDisp .lst aNil)) bNil)
    (bSeq (sIf (tAndD (tE (e2 eqDD (eV 6) (eC (.str "give")))) (tAndD (tE (e1 notND (eV 5))) (tAndD (tE (e2 neDD (eV 5) (eC (.str "")))) (tE (e2 inD (eIx ixD (eV 1) (eC (.int 1))) (eCall f_outward (aCons (eV 0) (aCons (eV 5) aNil)))))))) (sRet (eDisp .lst (aCons (eDisp .tup (aCons (eC (.str "name")) (aCons (eV 4) (aCons (eC (.str "")) aNil)))) aNil))) bNil)
    (sRet (eDisp .lst (aCons (eV 2) aNil)))))))))
noncomputable def f_behind : List D → Option D := fnP 8 3 b_behind
noncomputable def b_ways_on : SF := (bSeq (sSet 2 (eCall f_row_at (aCons (eV 0) (aCons (eV 1) aNil))))
    (bSeq (sIf (tE (e2 eqDD (eIx ixD (eV 2) (eC (.int 0))) (eC (.str "end")))) (sRet (eDisp .lst aNil)) bNil)
    (bSeq (sIf (tE (e2 eqDD (eIx ixD (eV 2) (eC (.int 0))) (eC (.str "go")))) (sRet (eDisp .lst (aCons (eDisp .tup (aCons (eC (.non)) (aCons (eIx ixD (eV 2) (eC (.int 1))) aNil))) aNil))) bNil)
    (bSeq (sIf (tE (e2 eqDD (eIx ixD (eV 2) (eC (.int 0))) (eC (.str "fork")))) (sRet (eDisp .lst (aCons (eDisp .tup (aCons (eC (.int 0)) (aCons (e2 addD (eV 1) (eC (.int 1))) aNil))) (aCons (eDisp .tup (aCons (eC (.int 1)) (aCons (eIx ixD (eV 2) (eC (.int 1))) aNil))) aNil)))) bNil)
    (sRet (eDisp .lst (aCons (eDisp .tup (aCons (eC (.non)) (aCons (e2 addD (eV 1) (eC (.int 1))) aNil))) aNil)))))))
noncomputable def f_ways_on : List D → Option D := fnP 3 2 b_ways_on
noncomputable def b_way_to : SF := (bSeq (sSetN 2 (nLst nNil))
    (bSeq (sSet 3 (eC (.int 1)))
    (bSeq (sWhile (tE (e1 notND (e2 ixN' (eV 0) (eV 1)))) (bSeq (sUnp (e2 ixN' (eV 0) (eV 1)) (gT 2 (gsCons 1 (gsCons 4 gsNil))))
    (bSeq (sAug 3 augAdd (eC (.int 1)))
    (sIf (tE (e1 notND (eV 4))) (sApp 2 wN (nFlat (eV 4))) bNil))))
    (sRet (eDisp .tup (aCons (e1 revD (eV 2)) (aCons (eV 3) aNil)))))))
noncomputable def f_way_to : List D → Option D := fnP 5 2 b_way_to
noncomputable def b_first_wrong : SF := (bSeq (sSetN 2 nDic0)
    (bDn 2 (bSeq (sSetN 3 (nLst nNil))
    (bSeq (sFor (iE (eCall f_at_first (aCons (eV 0) (aCons (eV 1) aNil)))) (gN 4) (bSeq (sSubN 2 (eDisp .tup (aCons (eC (.int 0)) (aCons (eV 4) aNil))) (eC (.non)))
    (sApp 3 wN (nFlat (eDisp .tup (aCons (eC (.int 0)) (aCons (eV 4) aNil)))))))
    (bSeq (sSet 5 (eC (.int 0)))
    (bSeq (sWhile (tE (e2 ltD (eV 5) (eCall lenD (aCons (eV 3) aNil)))) (bSeq (sSet 6 (eIx ixD (eV 3) (eV 5)))
    (bSeq (sUnp (eV 6) (gT 2 (gsCons 7 (gsCons 4 gsNil))))
    (bSeq (sSet 8 (eCall f_row_at (aCons (eV 1) (aCons (eV 7) aNil))))
    (bSeq (sIf (tE (e2 neDD (eCall f_wrong_by (aCons (eV 0) (aCons (eV 8) (aCons (eV 4) aNil)))) (eC (.str "")))) (sRet (eCall f_way_to (aCons (eV 2) (aCons (eV 6) aNil)))) bNil)
    (bSeq (sSet 9 (eCall f_behind (aCons (eV 0) (aCons (eV 8) (aCons (eV 4) aNil)))))
    (bSeq (sFor (iE (eCall f_ways_on (aCons (eV 1) (aCons (eV 7) aNil)))) (gT 2 (gsCons 10 (gsCons 11 gsNil))) (sFor (iE (eV 9)) (gN 12) (sIf (tE (e2 ninN (eDisp .tup (aCons (eV 11) (aCons (eV 12) aNil))) (eV 2))) (bSeq (sSubN 2 (eDisp .tup (aCons (eV 11) (aCons (eV 12) aNil))) (eDisp .tup (aCons (eV 6) (aCons (eV 10) aNil))))
    (sApp 3 wN (nFlat (eDisp .tup (aCons (eV 11) (aCons (eV 12) aNil)))))) bNil)))
    (sAug 5 augAdd (eC (.int 1))))))))))
    (sRet (eC (.non)))))))))
noncomputable def f_first_wrong : List D → Option D := fnP 13 2 b_first_wrong
noncomputable def b_look : XF := (xSeq (xEx (eCallX f_need (aCons (eV 0) (aCons (eV 1) aNil))))
    (xUp (bSeq (sSet 2 (eCall f_first_wrong (aCons (eV 0) (aCons (eV 1) aNil))))
    (bSeq (sIf (tE (e1 isND (eV 2))) (sRet (eC (.non))) bNil)
    (bSeq (sUnp (eV 2) (gT 2 (gsCons 3 (gsCons 4 gsNil))))
    (sRet (eMakeI 7 f_Wrong___init__ (aCons (eV 3) (aCons (eCall (okR f_run) (aCons (eV 0) (aCons (eV 1) (aCons (eV 3) (aCons (eV 4) aNil))))) aNil)))))))))
noncomputable def f_look : List D → Option (D ⊕ (Nat × Option D)) := fnX 5 2 b_look
noncomputable def b__law_called : XF := (xSeq (xIf (tE (e2 eqDD (eV 0) (eC (.int 0)))) (xRet (eCallX f_run (aCons (eV 1) (aCons (eV 2) (aCons (eV 3) (aCons (eV 4) aNil)))))) (xUp bNil))
    (xSeq (xIf (tE (e2 eqDD (eV 0) (eC (.int 1)))) (xRet (eCallX f_bare (aCons (eV 1) (aCons (eV 2) (aCons (eV 3) (aCons (eV 4) aNil)))))) (xUp bNil))
    (xRet (eCallX f_look (aCons (eV 1) (aCons (eV 2) aNil))))))
noncomputable def f__law_called : List D → Option (D ⊕ (Nat × Option D)) := fnX 5 5 b__law_called
noncomputable def b__law_refused : SF := (bSeq (sTry 5 (xEx (eCallX f__law_called (aCons (eV 0) (aCons (eV 1) (aCons (eV 2) (aCons (eV 3) (aCons (eV 4) aNil))))))) [(tstF [(1, true), (2, true), (3, true)], hfOf [1, 2, 3] fun n o => (bIfNot (eC (.bl (isiF [(1, true), (2, true), (3, true)] n))) (sRet (eC (.str "no ValueError"))) (sRet (eDisp .lst (aCons (eC (.bl (isiF [(1, true), (2, false), (3, false)] n))) (aCons (eC (.bl (isiF [(1, false), (2, true), (3, false)] n))) (aCons (eC (.bl (isiF [(1, false), (2, false), (3, true)] n))) aNil)))))))])
    (sRet (eC (.str "fine"))))
noncomputable def f__law_refused : List D → Option D := fnP 6 5 b__law_refused
noncomputable def b_law : SF := (bSeq (sSet 1 (eCall f__law_at (aCons (eV 0) (aCons (eC (.int 0)) aNil))))
    (bSeq (sSet 2 (eIx ixD (eDisp .lst (aCons (eDisp .lst (aCons (eDisp .tup (aCons (eC (.str "a")) (aCons (eC (.non)) aNil))) aNil)) (aCons (eDisp .lst (aCons (eDisp .tup (aCons (eC (.str "a")) (aCons (eC (.non)) aNil))) (aCons (eDisp .tup (aCons (eC (.str "b")) (aCons (eC (.str "a")) aNil))) aNil))) (aCons (eDisp .lst (aCons (eDisp .tup (aCons (eC (.str "a")) (aCons (eC (.str "b")) aNil))) aNil)) (aCons (eC (.str "a")) (aCons (eDisp .lst aNil) (aCons (eC (.non)) aNil))))))) (e2 modD (eV 1) (eC (.int 6)))))
    (bSeq (sSet 3 (eIx ixD (eDisp .lst (aCons (eDisp .lst aNil) (aCons (eDisp .lst (aCons (eDisp .tup (aCons (eC (.str "go")) (aCons (eC (.int 0)) aNil))) aNil)) (aCons (eDisp .lst (aCons (eDisp .tup (aCons (eC (.str "hop")) aNil)) aNil)) (aCons (eDisp .tup (aCons (eDisp .tup (aCons (eC (.str "end")) aNil)) aNil)) (aCons (eDisp .lst (aCons (eDisp .tup (aCons (eC (.str "end")) aNil)) aNil)) (aCons (eDisp .lst (aCons (eDisp .tup (aCons (eC (.str "go")) (aCons (eC (.int 2)) aNil))) aNil)) (aCons (eDisp .lst (aCons (eDisp .tup (aCons (eC (.str "open")) (aCons (eC (.str "c")) aNil))) aNil)) aNil)))))))) (e2 modD (e2 fdivD (eV 1) (eC (.int 6))) (eC (.int 7)))))
    (bSeq (sSet 4 (eCall f__law_at (aCons (eV 0) (aCons (eC (.int 1)) aNil))))
    (bSeq (sSet 5 (eLc (iR (e2 modD (eCall absD (aCons (eV 4) aNil)) (eC (.int 14)))) [14] (gN 14) (fun _ => some true) (e2 fdivD (eV 4) (e2 addD (eV 14) (eC (.int 1))))))
    (bSeq (sSet 6 (e2 modD (eCall f__law_at (aCons (eV 0) (aCons (eC (.int 2)) aNil))) (e2 addD (eCall lenD (aCons (eV 5) aNil)) (eC (.int 1)))))
    (bSeq (sSet 7 (eIx ixD (eDisp .lst (aCons (eC (.bl true)) (aCons (eC (.str "1")) (aCons (eC (.non)) (aCons (eDisp .tup (aCons (eC (.int 1)) (aCons (eC (.int 2)) aNil))) (aCons (eDisp .lst (aCons (eC (.int 1)) aNil)) (aCons (eC (.bl false)) aNil))))))) (e2 modD (e2 fdivD (eCall f__law_at (aCons (eV 0) (aCons (eC (.int 2)) aNil))) (eC (.int 14))) (eC (.int 6)))))
    (bSeq (sSet 8 (e2 eqDD (e2 modD (e2 fdivD (eV 1) (eC (.int 42))) (eC (.int 3))) (eC (.int 1))))
    (bSeq (sIf (tE (eV 8)) (sSet 5 (eAddN (eAddN (eSlN (eV 5) oNone (oSome (eV 6))) (eDisp .lst (aCons (eV 7) aNil))) (eSlN (eV 5) (oSome (eV 6)) oNone))) bNil)
    (bSeq (sIf (tE (e2 eqDD (e2 modD (e2 fdivD (eV 1) (eC (.int 42))) (eC (.int 9))) (eC (.int 2)))) (bSeq (sSet 8 (eC (.bl true)))
    (sSet 5 (eIx ixD (eDisp .lst (aCons (eTupN (aCons (eV 5) aNil)) (aCons (eC (.non)) (aCons (eC (.int 3)) (aCons (eC (.str "12")) aNil))))) (e2 modD (eCall f__law_at (aCons (eV 0) (aCons (eC (.int 2)) aNil))) (eC (.int 4)))))) bNil)
    (bSeq (sSet 9 (eIx ixD (eDisp .lst (aCons (eC (.int 0)) (aCons (e2 modD (eV 4) (eC (.int 50))) (aCons (eC (.int 1000000)) (aCons (eC (.int 1000001)) (aCons (e2 subD (eC (.int 0)) (eC (.int 1))) (aCons (eC (.bl true)) (aCons (eC (.str "3")) (aCons (eC (.non)) aNil))))))))) (e2 modD (e2 fdivD (eV 1) (eC (.int 378))) (eC (.int 8)))))
    (bSeq (sIf (tAndD (tE (e2 eqDD (eV 3) (eDisp .lst (aCons (eDisp .tup (aCons (eC (.str "go")) (aCons (eC (.int 0)) aNil))) aNil)))) (tE (e2 eqDD (eV 9) (eC (.int 1000000))))) (sSet 9 (eC (.int 1000))) bNil)
    (bSeq (sSet 10 (e2 modD (e2 fdivD (eV 1) (eC (.int 3024))) (eC (.int 3))))
    (bSeq (sSet 11 (eDisp .lst (aCons (e2 inTD (eV 2) (eDisp .tup (aCons (eDisp .lst (aCons (eDisp .tup (aCons (eC (.str "a")) (aCons (eC (.str "b")) aNil))) aNil)) (aCons (eC (.str "a")) (aCons (eC (.non)) aNil))))) (aCons (e2 inTD (eV 3) (eDisp .tup (aCons (eDisp .lst (aCons (eDisp .tup (aCons (eC (.str "hop")) aNil)) aNil)) (aCons (eDisp .tup (aCons (eDisp .tup (aCons (eC (.str "end")) aNil)) aNil)) (aCons (eDisp .lst (aCons (eDisp .tup (aCons (eC (.str "go")) (aCons (eC (.int 2)) aNil))) aNil)) (aCons (eDisp .lst (aCons (eDisp .tup (aCons (eC (.str "open")) (aCons (eC (.str "c")) aNil))) aNil)) aNil)))))) aNil))))
    (bSeq (sSet 12 (eAnd (e2 inD (eV 9) (eDisp .tup (aCons (eC (.int 0)) (aCons (e2 modD (eV 4) (eC (.int 50))) (aCons (eC (.int 1000)) (aCons (eC (.int 1000000)) aNil)))))) (e1 notD (e1 (isTy .bool) (eV 9)))))
    (bSeq (sSet 13 (eC (.str "fine")))
    (bSeq (sIf (tE (eIx ixD (eV 11) (eC (.int 0)))) (sSet 13 (eDisp .lst (aCons (eC (.bl true)) (aCons (eC (.bl false)) (aCons (eC (.bl false)) aNil))))) (sIf (tE (eIx ixD (eV 11) (eC (.int 1)))) (sSet 13 (eDisp .lst (aCons (eC (.bl false)) (aCons (eC (.bl true)) (aCons (eC (.bl false)) aNil))))) (sIf (tAndD (tE (e2 ltD (eV 10) (eC (.int 2)))) (tOrD (tE (eV 8)) (tNotD (tE (eV 12))))) (sSet 13 (eDisp .lst (aCons (eC (.bl false)) (aCons (eC (.bl false)) (aCons (eC (.bl true)) aNil))))) bNil)))
    (sRet (e2 eqDD (eCall f__law_refused (aCons (eV 10) (aCons (eV 2) (aCons (eV 3) (aCons (eV 5) (aCons (eV 9) aNil)))))) (eV 13))))))))))))))))))))
noncomputable def f_law : List D → Option D := DL.fnF 15 1 b_law
end
end K02

namespace K02
open PySem L2 DL
/-! ### reckoning with so many rounds of a while -/
def SLe (g h : SF) : Prop := ∀ ρ r, g ρ = some r → h ρ = some r
def ILe (g h : IF) : Prop := ∀ ρ r, g ρ = some r → h ρ = some r
theorem sle_refl {g : SF} : SLe g g := fun _ _ h => h
theorem sle_seq {g h g' h' : SF} (h1 : SLe g g') (h2 : SLe h h') : SLe (bSeq g h) (bSeq g' h') := by
  intro ρ r e
  unfold bSeq at e ⊢
  cases q : g ρ with
  | none => rw [q] at e; cases e
  | some x =>
    rw [q] at e
    rw [h1 ρ x q]
    cases x with
    | nx ρ' => exact h2 _ _ e
    | rt => exact e
    | bk => exact e
    | ct => exact e
def whGoN (n : Nat) (c : Ev → Option Bool) (b : SF) : SF := whGo c b n
theorem sle_while {n : Nat} {c : Ev → Option Bool} {b : SF} : SLe (whGoN n c b) (sWhile c b) := fun _ _ h => sWhile_of h
theorem sle_dn {i : Nat} {g h : SF} (h1 : SLe g h) : SLe (bDn i g) (bDn i h) := by
  intro ρ r e
  unfold bDn at e ⊢
  cases q : turnD ρ i with
  | none => rw [q] at e; cases e
  | some x => rw [q] at e; exact h1 _ _ e
theorem forGo_le {g : GF} {b b' : SF} {m : Md} (h : SLe b b') : ∀ {ds : List D} {ρ : Ev} {r : Fl}, forGo g b m ds ρ = some r → forGo g b' m ds ρ = some r
  | [], _, _, e => e
  | d :: l, ρ, r, e => by
    rw [forGo] at e ⊢
    cases q : g d (effm m d) ρ with
    | none => rw [q] at e; cases e
    | some ρ1 =>
      rw [q] at e
      simp only [Option.bind_some] at e ⊢
      cases q2 : b ρ1 with
      | none => rw [q2] at e; cases e
      | some s =>
        rw [q2] at e
        rw [h _ _ q2]
        cases s with
        | nx => exact forGo_le h e
        | ct => exact forGo_le h e
        | bk => exact e
        | rt => exact e
theorem sle_for {f f' : IF} {g : GF} {b b' : SF} (h1 : ILe f f') (h2 : SLe b b') : SLe (sFor f g b) (sFor f' g b') := by
  intro ρ r e
  unfold sFor at e ⊢
  cases q : f ρ with
  | none => rw [q] at e; cases e
  | some x =>
    rw [q] at e
    rw [h1 _ _ q]
    simp only [Option.bind_some] at e ⊢
    split at e
    · rename_i hm
      rw [if_pos hm]
      exact forGo_le h2 e
    · cases e
theorem ile_refl {f : IF} : ILe f f := fun _ _ h => h
theorem ile_call {f f' : List D → Option D} {g : AF} (h : ∀ ds d, f ds = some d → f' ds = some d) : ILe (iE (eCall f g)) (iE (eCall f' g)) := by
  intro ρ r e
  unfold iE eCall at e ⊢
  cases q : g ρ with
  | none => rw [q] at e; cases e
  | some as =>
    rw [q] at e
    simp only [Option.bind_some] at e ⊢
    cases q2 : f (as.map (·.1)) with
    | none => rw [q2] at e; cases e
    | some d => rw [q2] at e; rw [h _ _ q2]; exact e
/-! ### outward, Field, first_wrong -/
noncomputable def bOut : SF := (bSeq (sSetN 2 nDic0)
    (bSeq (sFor (iE (eV 0)) (gT 2 (gsCons 3 (gsCons 4 gsNil))) (sSub 2 wN (eV 3) (nFlat (eV 4))))
    (bSeq (sSetN 5 (nLst nNil))
    (bSeq (whGoN 4 (tE (e1 notND (eV 1))) (bSeq (sApp 5 wN (nFlat (eV 1)))
    (sSet 1 (eIx ixD (eV 2) (eV 1)))))
    (sRetOn 5)))))
noncomputable def outN : List D → Option D := fnP 6 2 bOut
theorem outN_le : ∀ ds d, outN ds = some d → f_outward ds = some d := by
  intro ds d h
  unfold outN fnP at h
  unfold f_outward fnP
  split at h
  · rename_i hl
    rw [if_pos hl]
    cases q : bOut (ent 6 ds) with
    | none => rw [q] at h; cases h
    | some r =>
      rw [q] at h
      have : b_outward (ent 6 ds) = some r := (sle_seq sle_refl (sle_seq sle_refl (sle_seq sle_refl (sle_seq sle_while sle_refl))) : SLe bOut b_outward) _ _ q
      rw [this]
      exact h
  · cases h
noncomputable def bFi : SF := (bSeq (sFldY 6 "cells" 0 wN (yN (nLst nNil)))
    (bSeq (sFldY 6 "spare" 0 wN (yN (nLst nNil)))
    (bSeq (sFldY 6 "held" 0 wN (yN nDic0))
    (bSeq (sFldY 6 "under" 0 wN (yN nDic0))
    (bSeq (sFldY 6 "mine" 0 wN (yN nDic0))
    (sFor (iE (eV 1)) (gT 2 (gsCons 2 (gsCons 3 gsNil))) (bSeq (sSub 0 (wFld 6 "mine" 0 wN) (eV 2) (nLst nNil))
    (sFor (iE (eCall outN (aCons (eV 1) (aCons (eV 2) aNil)))) (gN 4) (sSdApp 0 (wFld 6 "under" 0 wN) (eV 4) (nFlat (eV 2)))))))))))
theorem bFi_le : SLe bFi b_Field___init__ := sle_seq sle_refl (sle_seq sle_refl (sle_seq sle_refl (sle_seq sle_refl (sle_seq sle_refl (sle_for ile_refl (sle_seq sle_refl (sle_for (ile_call outN_le) sle_refl)))))))
noncomputable def bFw : SF := (bSeq (sSetN 2 nDic0)
    (bDn 2 (bSeq (sSetN 3 (nLst nNil))
    (bSeq (sFor (iE (eCall f_at_first (aCons (eV 0) (aCons (eV 1) aNil)))) (gN 4) (bSeq (sSubN 2 (eDisp .tup (aCons (eC (.int 0)) (aCons (eV 4) aNil))) (eC (.non)))
    (sApp 3 wN (nFlat (eDisp .tup (aCons (eC (.int 0)) (aCons (eV 4) aNil)))))))
    (bSeq (sSet 5 (eC (.int 0)))
    (bSeq (whGoN 4 (tE (e2 ltD (eV 5) (eCall lenD (aCons (eV 3) aNil)))) (bSeq (sSet 6 (eIx ixD (eV 3) (eV 5)))
    (bSeq (sUnp (eV 6) (gT 2 (gsCons 7 (gsCons 4 gsNil))))
    (bSeq (sSet 8 (eCall f_row_at (aCons (eV 1) (aCons (eV 7) aNil))))
    (bSeq (sIf (tE (e2 neDD (eCall f_wrong_by (aCons (eV 0) (aCons (eV 8) (aCons (eV 4) aNil)))) (eC (.str "")))) (sRet (eCall f_way_to (aCons (eV 2) (aCons (eV 6) aNil)))) bNil)
    (bSeq (sSet 9 (eCall f_behind (aCons (eV 0) (aCons (eV 8) (aCons (eV 4) aNil)))))
    (bSeq (sFor (iE (eCall f_ways_on (aCons (eV 1) (aCons (eV 7) aNil)))) (gT 2 (gsCons 10 (gsCons 11 gsNil))) (sFor (iE (eV 9)) (gN 12) (sIf (tE (e2 ninN (eDisp .tup (aCons (eV 11) (aCons (eV 12) aNil))) (eV 2))) (bSeq (sSubN 2 (eDisp .tup (aCons (eV 11) (aCons (eV 12) aNil))) (eDisp .tup (aCons (eV 6) (aCons (eV 10) aNil))))
    (sApp 3 wN (nFlat (eDisp .tup (aCons (eV 11) (aCons (eV 12) aNil)))))) bNil)))
    (sAug 5 augAdd (eC (.int 1))))))))))
    (sRet (eC (.non)))))))))
theorem bFw_le : SLe bFw b_first_wrong := sle_seq sle_refl (sle_dn (sle_seq sle_refl (sle_seq sle_refl (sle_seq sle_refl (sle_seq sle_while sle_refl)))))
end K02

namespace K02
open PySem L2 DL
/-! ### the plots and rows that are drawn -/
def PL : Nat → D
  | 0 => .lst [.tup [.str "a", .non]]
  | 1 => .lst [.tup [.str "a", .non], .tup [.str "b", .str "a"]]
  | 2 => .lst [.tup [.str "a", .str "b"]]
  | 3 => .str "a"
  | 4 => .lst []
  | _ => .non
def RW : Nat → D
  | 0 => .lst []
  | 1 => .lst [.tup [.str "go", .int 0]]
  | 2 => .lst [.tup [.str "hop"]]
  | 3 => .tup [.tup [.str "end"]]
  | 4 => .lst [.tup [.str "end"]]
  | 5 => .lst [.tup [.str "go", .int 2]]
  | _ => .lst [.tup [.str "open", .str "c"]]
def pBad (i : Nat) : Bool := i == 2 || i == 3 || i == 5
def rBad (j : Nat) : Bool := j == 2 || j == 3 || j == 5 || j == 6
def needC (o : Option (D ⊕ (Nat × Option D))) : Nat := match o with
  | some (.inl _) => 0
  | some (.inr (n, _)) => n + 1
  | none => 99
theorem need_tab : ∀ i, i < 6 → ∀ j, j < 7 → needC (f_need [PL i, RW j]) = (if pBad i = true then 2 else if rBad j = true then 3 else 0) := by decide +kernel
theorem need_ok {i j : Nat} (hi : i < 6) (hp : pBad i = false) (hj : j < 7) (hr : rBad j = false) : ∃ d, f_need [PL i, RW j] = some (.inl d) := by
  have h := need_tab i hi j hj
  rw [hp, hr] at h
  unfold needC at h
  split at h
  · rename_i d e; exact ⟨d, e⟩
  · cases h
  · cases h
theorem need_p {i j : Nat} (hi : i < 6) (hp : pBad i = true) (hj : j < 7) : ∃ o, f_need [PL i, RW j] = some (.inr (1, o)) := by
  have h := need_tab i hi j hj
  rw [hp] at h
  unfold needC at h
  split at h
  · cases h
  · rename_i n o e
    have : n = 1 := by simpa using h
    exact ⟨o, by rw [e, this]⟩
  · cases h
theorem need_r {i j : Nat} (hi : i < 6) (hp : pBad i = false) (hj : j < 7) (hr : rBad j = true) : ∃ o, f_need [PL i, RW j] = some (.inr (2, o)) := by
  have h := need_tab i hi j hj
  rw [hp, hr] at h
  unfold needC at h
  split at h
  · cases h
  · rename_i n o e
    have : n = 2 := by simpa using h
    exact ⟨o, by rw [e, this]⟩
  · cases h
theorem good_p : ∀ i, i < 6 → pBad i = false → (i = 0 ∨ i = 1 ∨ i = 4) := by decide
theorem good_r : ∀ j, j < 7 → rBad j = false → (j = 0 ∨ j = 1 ∨ j = 4) := by decide
/-! ### the Store, an Outcome -/
def stD (P : D) : D := .ins 4 [("plots", P), ("there", .lst []), ("worth", .lst []), ("held", .dic []), ("told", .lst []), ("opened", .int 0), ("given", .lst [])]
theorem init_eq {i : Nat} (h : i = 0 ∨ i = 1 ∨ i = 4) : f_Store___init__ [.ins 4 [], PL i] = some (.non, [stD (PL i), .non]) := by
  rcases h with rfl | rfl | rfl <;> kernel_rfl
def endD : D := .tup [.str "end"]
def goD : D := .tup [.str "go", .int 0]
theorem do_end {i : Nat} (h : i = 0 ∨ i = 1 ∨ i = 4) : f_Store_do [stD (PL i), endD] = some (.str "", [stD (PL i), .non]) := by
  rcases h with rfl | rfl | rfl <;> kernel_rfl
theorem row_go : f_row_at [RW 1, .int 0] = some goD := by kernel_rfl
theorem row_end {j : Nat} (h : j = 0 ∨ j = 4) : f_row_at [RW j, .int 0] = some endD := by
  rcases h with rfl | rfl <;> kernel_rfl
def outF (e : Str) (k d : Int) : List (Str × D) := [("end", .str e), ("row", .int k), ("steps", .int d), ("told", .lst []), ("opened", .int 0), ("given", .lst [])]
theorem out_eq (P : D) (e : Str) (k d : Int) : f_Outcome___init__ [.str e, .int k, .int d, stD P] = some (outF e k d) := by kernel_rfl
/-! ### first_wrong -/
def isNon (o : Option Fl) : Bool := match o with
  | some (.rt .non _) => true
  | _ => false
theorem fw_tab : ∀ i, i < 6 → pBad i = false → ∀ j, j < 7 → rBad j = false → isNon (bFw (ent 13 [PL i, RW j])) = true := by decide +kernel
theorem fw_eq {i j : Nat} (hi : i < 6) (hp : pBad i = false) (hj : j < 7) (hr : rBad j = false) : f_first_wrong [PL i, RW j] = some .non := by
  have h := fw_tab i hi hp j hj hr
  unfold isNon at h
  split at h
  · rename_i ρ e
    have := bFw_le _ _ e
    unfold f_first_wrong fnP
    rw [if_pos (show [PL i, RW j].length = 2 from rfl), this]
    rfl
  · cases h
/-! ### the Field -/
theorem fnC_le {n : Nat} {ms : List Bool} {g h : SF} (hl : SLe g h) {ds : List D} {x : D × List D} (e : fnC n ms g ds = some x) : fnC n ms h ds = some x := by
  unfold fnC at e ⊢
  split at e
  · rename_i q
    rw [if_pos q]
    cases q2 : g (entC ms n ds) with
    | none => rw [q2] at e; cases e
    | some r => rw [q2] at e; rw [hl _ _ q2]; exact e
  · cases e
def fiOk (o : Option (D × List D)) : Bool := match o with
  | some (.non, [.ins 6 fs, .non]) => match getF fs "cells" with
    | some (.lst _) => true
    | _ => false
  | _ => false
theorem fi_tab : ∀ i, i < 6 → pBad i = false → fiOk (fnC 5 [true, false] bFi [.ins 6 [], PL i]) = true := by decide +kernel
theorem fi_eq {i : Nat} (hi : i < 6) (hp : pBad i = false) : ∃ fs l, f_Field___init__ [.ins 6 [], PL i] = some (.non, [.ins 6 fs, .non]) ∧ getF fs "cells" = some (.lst l) := by
  have h := fi_tab i hi hp
  unfold fiOk at h
  split at h
  · rename_i fs e
    split at h
    · rename_i l e2
      exact ⟨fs, l, fnC_le bFi_le e, e2⟩
    · cases h
  · cases h
end K02

namespace K02
open PySem L2 DL
/-! ### what may be looked at -/
def wf : D → Bool
  | .non | .bl _ | .int _ | .lst _ | .tup _ | .dic _ | .str _ => true
  | _ => false
def tyB (t : Ty5) : D → Bool
  | .bl _ => match t with | .int => true | .bool => true | _ => false
  | .int _ => match t with | .int => true | _ => false
  | .str _ => match t with | .str => true | _ => false
  | .tup _ => match t with | .tuple => true | _ => false
  | .lst _ => match t with | .list => true | _ => false
  | _ => false
theorem ty_ok {t : Ty5} {d : D} (h : wf d = true) : isTy t d = some (.bl (tyB t d)) := by
  cases d <;> first | rfl | exact absurd h (by simp [wf])
def whB : D → Bool
  | .int _ => true
  | _ => false
theorem whB_int {d : D} (h : whB d = true) : ∃ z, d = .int z := by cases d <;> first | exact ⟨_, rfl⟩ | exact absurd h (by simp [whB])
theorem iswhole_gen {d : D} (h : wf d = true) : f_is_whole [d] = some (.bl (whB d)) := by
  refine fnf_is rfl rfl ?_
  unfold b_is_whole
  show Wp _ [.fn d] _
  have h1 := ty_ok (t := .int) h
  have h2 := ty_ok (t := .bool) h
  refine wp_ret (d := .bl (whB d)) ?_ rfl rfl
  by_cases q : tyB .int d = true
  · rw [q] at h1
    refine vf_and_t (vf_e1 (vf_fn rfl) h1) (vf_e1 (vf_e1 (vf_fn rfl) h2) ?_)
    show some (D.bl (!tyB .bool d)) = _
    congr 2
    revert q
    cases d <;> simp [tyB, whB]
  · have q : tyB .int d = false := by simpa using q
    rw [q] at h1
    rw [show whB d = false by revert q; cases d <;> simp [tyB, whB]]
    exact vf_and_f (vf_e1 (vf_fn rfl) h1)
def stOk : D → Bool
  | .int z => decide (0 ≤ z) && decide (z ≤ 1000000)
  | _ => false
def inOk : D → Bool
  | .lst ds => ds.all whB
  | _ => false
theorem setF {ρ : Ev} {i : Nat} {d : D} {s : Sl} (h : ρ[i]? = some s) (h2 : freeS s = true) : setS i d (effm .new d) ρ = some (ρ.set i (.fn d)) := by
  rw [effm_new]; exact setS_new h h2
theorem sg_n {i : Nat} {a : D} {ρ : Ev} {Φ : Ev → Prop} {s : Sl} (h : ρ[i]? = some s) (h2 : freeS s = true) (hΦ : Φ (ρ.set i (.fn a))) : Sg (gN i) a .new ρ Φ :=
  ⟨_, setS_new h h2, hΦ⟩
theorem i3_of {f : IF} {ρ : Ev} {ds : List D} (h : Xe f ρ ds .new) : i3 f ρ = some ds := by
  unfold Xe at h; unfold i3; rw [h]; rfl
theorem needrun_gen {i s : D} (hi : wf i = true) (hi2 : ∀ ds, i = .lst ds → ds.all wf = true) (hs : wf s = true) : f_need_run [i, s] = some (if (inOk i && stOk s) = true then .inl .non else .inr (3, none)) := by
  refine fnxf_is rfl (by split <;> rfl) ?_
  unfold b_need_run
  show Wpx _ [.fn i, .fn s, .emp] _
  have bad : (inOk i && stOk s) = false → Wpx (xRaise0 3) [.fn i, .fn s, .emp] fun r => (∀ ρ', r ≠ .fl (.nx ρ')) ∧ resX r = some (if (inOk i && stOk s) = true then .inl .non else .inr (3, none)) := fun q =>
    wpx_raise0 ⟨fun _ z => (by cases z), by rw [q]; rfl⟩
  by_cases hl : ∃ ds, i = .lst ds
  · obtain ⟨ds, rfl⟩ := hl
    by_cases hw : whB s = true
    · obtain ⟨z, rfl⟩ := whB_int hw
      have hch : Vf (eCh (fun i j => decide (i ≤ j)) (fun i j => decide (i ≤ j)) (eC (.int 0)) (eV 1) (eC (.int 1000000))) [.fn (.lst ds), .fn (.int z), .emp] (.bl (stOk (.int z))) := by
        by_cases q : 0 ≤ z
        · have := vf_ch_t (p := fun i j => decide (i ≤ j)) (q := fun i j => decide (i ≤ j)) (i := 0) (j := z) (k := 1000000) (f := eC (.int 0)) (g := eV 1) (h := eC (.int 1000000)) (ρ := [.fn (.lst ds), .fn (.int z), .emp]) vf_c (vf_fn rfl) vf_c (by simpa using q)
          rw [show stOk (.int z) = decide (z ≤ 1000000) by simp [stOk, q]]
          exact this
        · have := vf_ch_f (p := fun i j => decide (i ≤ j)) (q := fun i j => decide (i ≤ j)) (i := 0) (j := z) (f := eC (.int 0)) (g := eV 1) (h := eC (.int 1000000)) (ρ := [.fn (.lst ds), .fn (.int z), .emp]) vf_c (vf_fn rfl) (by simpa using q)
          rw [show stOk (.int z) = false by simp [stOk, q]]
          exact this
      refine wpx_g (b := !stOk (.int z)) (te_or_f (te_not (b := true) (tf_v (vf_e1 (vf_fn rfl) rfl))) (te_or_f (te_not (b := true) (tf_v (vf_call (ds := [.int z]) (af_cons (vf_fn rfl) af_nil) (iswhole_gen rfl)))) (te_not (tf_v hch)))) (fun q => ?_) (fun q => ?_)
      · have q : stOk (.int z) = false := by rw [Bool.not_eq_true'] at q; exact q
        exact bad (by rw [q, Bool.and_false])
      · have q : stOk (.int z) = true := by rw [Bool.not_eq_false'] at q; exact q
        rw [q, Bool.and_true]
        show Wpx _ _ fun r => resX r = some (if ds.all whB = true then .inl .non else .inr (3, none))
        refine wpx_for (i3_of (xe_seq (ve_fn rfl) rfl)) ?_
        suffices ∀ (l : List D) (s2 : Sl), l.all wf = true → freeS s2 = true → ∀ ρ : Ev, ρ = [.fn (.lst ds), .fn (.int z), s2] → WpF _ _ l ρ fun r => resX r = some (if l.all whB = true then .inl .non else .inr (3, none)) from
          this ds _ (hi2 ds rfl) rfl _ rfl
        intro l
        induction l with
        | nil => intro s2 _ _ ρ _; exact wpf_nil rfl
        | cons d l ih =>
          rintro s2 hw2 f2 ρ rfl
          simp only [List.all_cons, Bool.and_eq_true] at hw2
          refine wpf_cons (sg_n rfl f2 ?_)
          refine wpx_if (b := !whB d) (te_not (tf_v (vf_call (ds := [d]) (af_cons (vf_fn rfl) af_nil) (iswhole_gen hw2.1)))) (fun q => ?_) (fun q => ?_)
          · have q : whB d = false := by simpa using q
            refine wpx_raise0 ?_
            show resX _ = _
            rw [List.all_cons, q]; rfl
          · have q : whB d = true := by simpa using q
            refine wpx_up (wp_nil ?_)
            rw [List.all_cons, q, Bool.true_and]
            exact ih _ hw2.2 rfl _ rfl
    · have hw : whB s = false := by simpa using hw
      refine wpx_g (b := true) (te_or_f (te_not (b := true) (tf_v (vf_e1 (vf_fn rfl) rfl))) (te_or_t (te_not (b := false) (tf_v (vf_call (ds := [s]) (af_cons (vf_fn rfl) af_nil) (by rw [iswhole_gen hs, hw])))))) (fun _ => bad ?_) (fun q => by cases q)
      have : stOk s = false := by revert hw; cases s <;> simp [whB, stOk]
      rw [this, Bool.and_false]
  · have e := ty_ok (t := .list) hi
    rw [show tyB .list i = false by cases i <;> first | rfl | exact absurd ⟨_, rfl⟩ hl] at e
    refine wpx_g (b := true) (te_or_t (te_not (b := false) (tf_v (vf_e1 (vf_fn rfl) e)))) (fun _ => bad ?_) (fun q => by cases q)
    rw [show inOk i = false by cases i <;> first | rfl | exact absurd ⟨_, rfl⟩ hl]; rfl
/-! ### run -/
section
variable {i j : Nat} {ip : D} {z : Int}
theorem eqs {x y : Str} {b : Bool} (h : (x == y) = b) (hx : PyData.strOk x = true := by decide +kernel) (hy : PyData.strOk y = true := by decide +kernel) : eqDD (.str x) (.str y) = some (.bl b) := by rw [eq_str hx hy, h]
abbrev frR (P R ip : D) (z : Int) (d : Int) (s8 s9 : Sl) : Ev := [.fz P, .fz R, .fz ip, .fz (.int z), .on (stD P), .fn (.int 0), .fn (.int 0), .fn (.int d), s8, s9]
theorem hout (P R : D) (e : Str) (d : Int) (s8 s9 : Sl) (fe : EF) (Φ : Fl → Prop) (he : Ve fe ((frR P R ip z d s8 s9).set 4 (.fn (stD P))) (.str e) .new) (hΦ : ∀ c ρ, Φ (.rt c ρ)) :
    Wp (bFroz 4 (sRet (eMakeI 5 f_Outcome___init__ (aCons fe (aCons (eV 5) (aCons (eV 7) (aCons (eV 4) aNil))))))) (frR P R ip z d s8 s9) Φ :=
  wp_froz rfl (wp_retn (vn_makeI (as := [(.str e, .new), (.int 0, .new), (.int d, .new), (stD P, .new)]) (ae_cons he (ae_cons (ve_fn rfl) (ae_cons (ve_fn rfl) (ae_cons (ve_fn rfl) ae_nil)))) rfl (out_eq P e 0 d)) (hΦ _ _))
theorem run_good (hi : i < 6) (hp : pBad i = false) (hj : j < 7) (hr : rBad j = false) (hin : f_need_run [ip, .int z] = some (.inl .non)) (hz : 0 ≤ z) : ∃ d, f_run [PL i, RW j, ip, .int z] = some (.inl d) := by
  have hP := good_p i hi hp
  obtain ⟨dn, hn⟩ := need_ok hi hp hj hr
  suffices ∃ d, Wpx b_run [.fz (PL i), .fz (RW j), .fz ip, .fz (.int z), .emp, .emp, .emp, .emp, .emp, .emp] fun q => resX q = some (.inl d) by
    obtain ⟨d, h⟩ := this
    exact ⟨d, fnx_is rfl h⟩
  suffices Wpx b_run [.fz (PL i), .fz (RW j), .fz ip, .fz (.int z), .emp, .emp, .emp, .emp, .emp, .emp] fun q => ∃ d, resX q = some (.inl d) by
    obtain ⟨r, h1, d, h2⟩ := this
    exact ⟨d, r, h1, h2⟩
  unfold b_run
  refine wpx_seq (wpx_ex (ds := [PL i, RW j]) (af_cons (vf_fz rfl) (af_cons (vf_fz rfl) af_nil)) hn ?_)
  refine wpx_seq (wpx_ex (ds := [ip, .int z]) (af_cons (vf_fz rfl) (af_cons (vf_fz rfl) af_nil)) hin ?_)
  refine wpx_up ?_
  refine wp_nx (se_setN (d := stD (PL i)) (ne_makeF (ds := [PL i]) (af_cons (vf_fz rfl) af_nil) rfl (init_eq hP)) rfl rfl) ?_
  refine wp_nx (sf_set (d := .int 0) vf_c rfl rfl rfl) ?_
  refine wp_nx (sf_set (d := .int 0) vf_c rfl rfl rfl) ?_
  refine wp_nx (sf_set (d := .int 0) vf_c rfl rfl rfl) ?_
  simp only [List.set_cons_zero, List.set_cons_succ]
  have fin : ∀ (e : Str) (d : Int) (s8 s9 : Sl) (fe : EF), Ve fe ((frR (PL i) (RW j) ip z d s8 s9).set 4 (.fn (stD (PL i)))) (.str e) .new → Wp (bFroz 4 (sRet (eMakeI 5 f_Outcome___init__ (aCons fe (aCons (eV 5) (aCons (eV 7) (aCons (eV 4) aNil))))))) (frR (PL i) (RW j) ip z d s8 s9) fun r => ∃ d ρ, r = .rt d ρ :=
    fun e d s8 s9 fe he => hout (PL i) (RW j) e d s8 s9 fe _ he fun c ρ => ⟨_, _, rfl⟩
  have done : ∀ r : Fl, (∃ d ρ, r = .rt d ρ) → ∃ d, resX (.fl r) = some (.inl d) := by
    rintro r ⟨d, ρ, rfl⟩
    exact ⟨d, rfl⟩
  refine wp_seq (wp_while (n := z.toNat) (fun m ρ => ∃ d s8, freeS s8 = true ∧ d + m = z ∧ ρ = frR (PL i) (RW j) ip z d s8 .emp) ⟨0, .emp, rfl, by omega, rfl⟩ ?_)
  rintro n ρ ⟨d, s8, f8, hd, rfl⟩
  refine ⟨decide (d < z), tf_v (vf_e2 (vf_fn rfl) (vf_fz rfl) lt_int), fun hb => ?_, fun hb => ?_⟩
  · have hlt : d < z := by simpa using hb
    have aug : Se (sAug 7 augAdd (eC (.int 1))) (frR (PL i) (RW j) ip z d s8 .emp) (.nx (frR (PL i) (RW j) ip z (d + 1) s8 .emp)) := se_augI (a := d) (b := 1) (c := d + 1) rfl vf_c rfl
    rcases good_r j hj hr with hj' | rfl | hj'
    rotate_left
    · -- a go to itself
      refine wp_nx (sf_set (d := goD) (vf_call (ds := [RW 1, .int 0]) (af_cons (vf_fz rfl) (af_cons (vf_fn rfl) af_nil)) row_go) rfl f8 rfl) ?_
      refine wp_nx (se_augI (a := d) (b := 1) (c := d + 1) rfl vf_c rfl) ?_
      refine wp_if_t (b := true) (tf_v (vf_e2 (a := .str "go") (vf_ix (a := goD) (vf_fn rfl) vf_c rfl) vf_c (eqs (by kernel_rfl)))) rfl ?_
      exact wp_end (sf_set (d := .int 0) (vf_ix (a := goD) (vf_fn rfl) vf_c rfl) rfl rfl rfl) ⟨n - 1, by omega, d + 1, .fn goD, rfl, by omega, rfl⟩
    all_goals
      have hrow : f_row_at [RW j, .int 0] = some endD := row_end (by omega)
      refine wp_nx (sf_set (d := endD) (vf_call (ds := [RW j, .int 0]) (af_cons (vf_fz rfl) (af_cons (vf_fn rfl) af_nil)) hrow) rfl f8 rfl) ?_
      refine wp_nx (se_augI (a := d) (b := 1) (c := d + 1) rfl vf_c rfl) ?_
      have h0 : ∀ {ρ : Ev}, ρ[8]? = some (.fn endD) → Vf (eIx ixD (eV 8) (eC (.int 0))) ρ (.str "end") := fun e => vf_ix (a := endD) (vf_fn e) vf_c rfl
      refine wp_if_f (b := false) (tf_v (vf_e2 (h0 rfl) vf_c (eqs (by kernel_rfl)))) rfl ?_
      refine wp_if_f (b := false) (tf_v (vf_e2 (h0 rfl) vf_c (eqs (by kernel_rfl)))) rfl ?_
      have hmm : Vm (callC [true, false] f_Store_do (insC 4 "do" 4 (cRd (eV 8) cNil))) (frR (PL i) (RW j) ip z (d + 1) (.fn endD) .emp) (.str "") (frR (PL i) (RW j) ip z (d + 1) (.fn endD) .emp) :=
        vm_call (ce_ins (fs := [("plots", PL i), ("there", .lst []), ("worth", .lst []), ("held", .dic []), ("told", .lst []), ("opened", .int 0), ("given", .lst [])]) rfl (by kernel_rfl) (ce_rd (ve_fn rfl) ce_nil)) rfl (ds_own rfl (ds_new ds_nil)) (do_end hP) ((backC_one (i := 4) (j := 0) (s := .on (stD (PL i))) (d := stD (PL i)) rfl rfl rfl rfl).trans rfl)
      refine wp_nx (se_setM hmm (setS_new (s := .emp) rfl rfl)) ?_
      refine wp_g (b := false) (tf_v (vf_e2 (vf_fn rfl) vf_c (by rw [ne_str (by decide +kernel) (by decide +kernel)]; kernel_rfl))) (fun q => by cases q) (fun _ => ?_)
      refine wp_g (b := true) (tf_v (vf_e2 (h0 rfl) vf_c (eqs (by kernel_rfl)))) (fun _ => ?_) (fun q => by cases q)
      refine wp_now ((fin "done" (d + 1) (.fn endD) (.fn (.str "")) (eC (.str "done")) ve_c).imp fun r hr => ?_)
      obtain ⟨c, ρ', rfl⟩ := hr
      exact ⟨c, ρ', rfl, c, rfl⟩
  · refine (fin "going" d s8 .emp (eC (.str "going")) ve_c).imp fun r hr => ?_
    obtain ⟨c, ρ', rfl⟩ := hr
    exact ⟨c, rfl⟩
/-! ### bare -/
theorem bare_good (hi : i < 6) (hp : pBad i = false) (hj : j < 7) (hr : rBad j = false) (hin : f_need_run [ip, .int z] = some (.inl .non)) (hz : 0 ≤ z) (hz2 : z ≤ 1000000) : ∃ d, f_bare [PL i, RW j, ip, .int z] = some (.inl d) := by
  obtain ⟨dn, hn⟩ := need_ok hi hp hj hr
  obtain ⟨fs, cl, hfi, hcl⟩ := fi_eq hi hp
  suffices Wpx b_bare [.fz (PL i), .fz (RW j), .fz ip, .fz (.int z), .emp, .emp, .emp, .emp, .emp, .emp] fun q => ∃ d, resX q = some (.inl d) by
    obtain ⟨r, h1, d, h2⟩ := this
    exact ⟨d, fnx_is rfl ⟨r, h1, h2⟩⟩
  unfold b_bare
  refine wpx_seq (wpx_ex (ds := [PL i, RW j]) (af_cons (vf_fz rfl) (af_cons (vf_fz rfl) af_nil)) hn ?_)
  refine wpx_seq (wpx_ex (ds := [ip, .int z]) (af_cons (vf_fz rfl) (af_cons (vf_fz rfl) af_nil)) hin ?_)
  refine wpx_up ?_
  refine wp_nx (se_setN (d := .ins 6 fs) (ne_makeF (ds := [PL i]) (af_cons (vf_fz rfl) af_nil) rfl hfi) rfl rfl) ?_
  refine wp_nx (se_setN (ne_lst ne_nil (by simp)) rfl rfl) ?_
  refine wp_nx (sf_set (d := .int 0) vf_c rfl rfl rfl) ?_
  refine wp_nx (sf_set (d := .int 0) vf_c rfl rfl rfl) ?_
  simp only [List.set_cons_zero, List.set_cons_succ]
  have fin : ∀ s8 s9, Wp (bFroz 5 (sRet (eDisp .tup (aCons (eV 5) (aCons (eCall lenD (aCons (eFld 6 "cells" (eV 4)) aNil)) aNil))))) [.fz (PL i), .fz (RW j), .fz ip, .fz (.int z), .on (.ins 6 fs), .on (.lst []), .fn (.int 0), .fn (.int 0), s8, s9] fun r => ∃ d, resX (.fl r) = some (.inl d) := fun s8 s9 =>
    wp_froz rfl (wp_retn (ve_disp (as := [(.lst [], .new), (.int (cl.length : Nat), .new)]) (ae_cons (ve_fn rfl) (ae_cons (vn_call (ds := [.lst cl]) (af_cons (vf_fld (vf_on rfl) hcl) af_nil) rfl) ae_nil)) (by simp [okNew, isNew]) (by simp)) ⟨_, rfl⟩)
  refine wp_forS (m := .new) (ds := rangeL z) (fun m ρ => ∃ s8 s9, freeS s8 = true ∧ freeS s9 = true ∧ ρ = [.fz (PL i), .fz (RW j), .fz ip, .fz (.int z), .on (.ins 6 fs), .on (.lst []), .fn (.int 0), .fn (.int 0), s8, s9]) (xf_range (vf_fz rfl) (by omega) (by omega)) rfl ⟨_, _, rfl, rfl, rfl⟩ ?_ ?_
  · rintro m d ρ hd ⟨s8, s9, f8, f9, rfl⟩
    obtain ⟨_, rfl⟩ := range_get hd
    refine sg_flat rfl f8 rfl ?_
    rcases good_r j hj hr with hj' | rfl | hj'
    rotate_left
    · refine wp_nx (sf_set (d := goD) (vf_call (ds := [RW 1, .int 0]) (af_cons (vf_fz rfl) (af_cons (vf_fn rfl) af_nil)) row_go) rfl f9 rfl) ?_
      refine wp_g (b := false) (tf_v (vf_e2 (a := .str "go") (vf_ix (a := goD) (vf_fn rfl) vf_c rfl) vf_c (eqs (by kernel_rfl)))) (fun q => by cases q) (fun _ => ?_)
      refine wp_if_t (b := true) (tf_v (vf_e2 (a := .str "go") (vf_ix (a := goD) (vf_fn rfl) vf_c rfl) vf_c (eqs (by kernel_rfl)))) rfl ?_
      exact wp_end (sf_set (d := .int 0) (vf_ix (a := goD) (vf_fn rfl) vf_c rfl) rfl rfl rfl) ⟨_, _, rfl, rfl, rfl⟩
    all_goals
      have hrow : f_row_at [RW j, .int 0] = some endD := row_end (by omega)
      refine wp_nx (sf_set (d := endD) (vf_call (ds := [RW j, .int 0]) (af_cons (vf_fz rfl) (af_cons (vf_fn rfl) af_nil)) hrow) rfl f9 rfl) ?_
      refine wp_g (b := true) (tf_v (vf_e2 (a := .str "end") (vf_ix (a := endD) (vf_fn rfl) vf_c rfl) vf_c (eqs (by kernel_rfl)))) (fun _ => ?_) (fun q => by cases q)
      refine wp_seq (wp_brk ?_)
      exact fin _ _
  · rintro ρ ⟨s8, s9, f8, f9, rfl⟩
    exact fin s8 s9
/-! ### look -/
theorem look_good (hi : i < 6) (hp : pBad i = false) (hj : j < 7) (hr : rBad j = false) : f_look [PL i, RW j] = some (.inl .non) := by
  obtain ⟨dn, hn⟩ := need_ok hi hp hj hr
  refine fnx_is rfl ?_
  unfold b_look
  show Wpx _ [.fz (PL i), .fz (RW j), .emp, .emp, .emp] _
  refine wpx_seq (wpx_ex (ds := [PL i, RW j]) (af_cons (vf_fz rfl) (af_cons (vf_fz rfl) af_nil)) hn ?_)
  refine wpx_up ?_
  refine wp_nx (sf_set (d := .non) (vf_call (ds := [PL i, RW j]) (af_cons (vf_fz rfl) (af_cons (vf_fz rfl) af_nil)) (fw_eq hi hp hj hr)) rfl rfl rfl) ?_
  exact wp_gr (b := true) (tf_v (vf_e1 (vf_fn rfl) rfl)) (fun _ => wp_ret vf_c rfl ⟨_, _, rfl, rfl⟩) (fun q => by cases q)
/-! ### what is refused -/
theorem run_bad {p r s : D} {e : Nat × Option D} (h : f_need [p, r] = some (.inr e)) : f_run [p, r, ip, s] = some (.inr e) ∧ f_bare [p, r, ip, s] = some (.inr e) ∧ f_look [p, r] = some (.inr e) := by
  refine ⟨fnx_is rfl ?_, fnx_is rfl ?_, fnx_is rfl ?_⟩
  · unfold b_run
    exact wpx_seq (wpx_ex (ds := [p, r]) (af_cons (vf_fz rfl) (af_cons (vf_fz rfl) af_nil)) h rfl)
  · unfold b_bare
    exact wpx_seq (wpx_ex (ds := [p, r]) (af_cons (vf_fz rfl) (af_cons (vf_fz rfl) af_nil)) h rfl)
  · unfold b_look
    exact wpx_seq (wpx_ex (ds := [p, r]) (af_cons (vf_fz rfl) (af_cons (vf_fz rfl) af_nil)) h rfl)
theorem run_bad2 {p r s d : D} {e : Nat × Option D} (h : f_need [p, r] = some (.inl d)) (h2 : f_need_run [ip, s] = some (.inr e)) : f_run [p, r, ip, s] = some (.inr e) ∧ f_bare [p, r, ip, s] = some (.inr e) := by
  refine ⟨fnx_is rfl ?_, fnx_is rfl ?_⟩
  · unfold b_run
    exact wpx_seq (wpx_ex (ds := [p, r]) (af_cons (vf_fz rfl) (af_cons (vf_fz rfl) af_nil)) h (wpx_seq (wpx_ex (ds := [ip, s]) (af_cons (vf_fz rfl) (af_cons (vf_fz rfl) af_nil)) h2 rfl)))
  · unfold b_bare
    exact wpx_seq (wpx_ex (ds := [p, r]) (af_cons (vf_fz rfl) (af_cons (vf_fz rfl) af_nil)) h (wpx_seq (wpx_ex (ds := [ip, s]) (af_cons (vf_fz rfl) (af_cons (vf_fz rfl) af_nil)) h2 rfl)))
end
end K02

namespace K02
open PySem L2 DL
def atZ (ns : List Int) (i : Int) : Int := if i < ns.length then ns.getD i.toNat 0 else 0
theorem at_eq {ns : List Int} {i : Int} (h : 0 ≤ i) : f__law_at [.scr ns, .int i] = some (.int (atZ ns i)) := by
  unfold f__law_at
  by_cases q : i < ns.length
  · apply fn_ev rfl
    unfold b__law_at
    refine se_seq_rt (se_if_t (b := decide (i < (ns.length : Nat))) ?_ (by simpa using q) (sf_ret (d := .int (atZ ns i)) ?_ rfl))
    · (repeat' first | ((with_reducible apply vf_fz); exact rfl) | ((with_reducible apply vf_fn); exact rfl) | ((with_reducible apply vf_on); exact rfl) | ((with_reducible apply vf_ow); exact rfl) | ((with_reducible apply vf_fa); exact rfl) | with_reducible exact vf_c | with_reducible exact af_nil | with_reducible exact oe_none | with_reducible apply tf_v | with_reducible apply nf_flat | with_reducible apply af_cons | with_reducible apply of_some | with_reducible apply vf_e2 | with_reducible apply vf_e1 | with_reducible apply vf_ix | with_reducible apply vf_fld | with_reducible apply vf_call | with_reducible apply vn_call | with_reducible apply vf_sl | with_reducible apply vf_disp | with_reducible apply vn_disp | with_reducible exact add_int | with_reducible exact sub_int | with_reducible exact eq_int | with_reducible exact ne_int | with_reducible exact lt_int | with_reducible exact gt_int | ((with_reducible apply mod_ok); omega) | ((with_reducible apply fdiv_ok) <;> omega) | ((with_reducible apply mul_okl) <;> omega) | ((with_reducible apply mul_okr) <;> omega) | (refine (?_ : flats _ = true); exact rfl) | (refine (?_ : flat _ = true); exact rfl) | (refine (?_ : List.length _ ≤ 16777216); simp; done) | exact rfl | exact add_int | exact sub_int)
    · (repeat' first | ((with_reducible apply vf_fz); exact rfl) | ((with_reducible apply vf_fn); exact rfl) | ((with_reducible apply vf_on); exact rfl) | ((with_reducible apply vf_ow); exact rfl) | ((with_reducible apply vf_fa); exact rfl) | with_reducible exact vf_c | with_reducible exact af_nil | with_reducible exact oe_none | with_reducible apply tf_v | with_reducible apply nf_flat | with_reducible apply af_cons | with_reducible apply of_some | with_reducible apply vf_e2 | with_reducible apply vf_e1 | with_reducible apply vf_ix | with_reducible apply vf_fld | with_reducible apply vf_call | with_reducible apply vn_call | with_reducible apply vf_sl | with_reducible apply vf_disp | with_reducible apply vn_disp | with_reducible exact add_int | with_reducible exact sub_int | with_reducible exact eq_int | with_reducible exact ne_int | with_reducible exact lt_int | with_reducible exact gt_int | ((with_reducible apply mod_ok); omega) | ((with_reducible apply fdiv_ok) <;> omega) | ((with_reducible apply mul_okl) <;> omega) | ((with_reducible apply mul_okr) <;> omega) | (refine (?_ : flats _ = true); exact rfl) | (refine (?_ : flat _ = true); exact rfl) | (refine (?_ : List.length _ ≤ 16777216); simp; done) | exact add_int | exact sub_int)
      refine ix_scr h ?_
      unfold atZ
      rw [if_pos q, List.getD_eq_getElem?_getD, List.getElem?_eq_getElem (by omega)]; rfl
  · apply fn_ev rfl
    unfold b__law_at
    refine se_seq (se_if_f (b := decide (i < (ns.length : Nat))) ?_ (by simpa using q) se_nil) ?_
    · (repeat' first | ((with_reducible apply vf_fz); exact rfl) | ((with_reducible apply vf_fn); exact rfl) | ((with_reducible apply vf_on); exact rfl) | ((with_reducible apply vf_ow); exact rfl) | ((with_reducible apply vf_fa); exact rfl) | with_reducible exact vf_c | with_reducible exact af_nil | with_reducible exact oe_none | with_reducible apply tf_v | with_reducible apply nf_flat | with_reducible apply af_cons | with_reducible apply of_some | with_reducible apply vf_e2 | with_reducible apply vf_e1 | with_reducible apply vf_ix | with_reducible apply vf_fld | with_reducible apply vf_call | with_reducible apply vn_call | with_reducible apply vf_sl | with_reducible apply vf_disp | with_reducible apply vn_disp | with_reducible exact add_int | with_reducible exact sub_int | with_reducible exact eq_int | with_reducible exact ne_int | with_reducible exact lt_int | with_reducible exact gt_int | ((with_reducible apply mod_ok); omega) | ((with_reducible apply fdiv_ok) <;> omega) | ((with_reducible apply mul_okl) <;> omega) | ((with_reducible apply mul_okr) <;> omega) | (refine (?_ : flats _ = true); exact rfl) | (refine (?_ : flat _ = true); exact rfl) | (refine (?_ : List.length _ ≤ 16777216); simp; done) | exact rfl | exact add_int | exact sub_int)
    · rw [show atZ ns i = 0 by unfold atZ; rw [if_neg q]]
      exact sf_ret vf_c rfl

/-! ### what is called, what is refused -/
def Out (c : Nat) (o : Option (D ⊕ (Nat × Option D))) : Prop := match c with
  | 0 => ∃ d, o = some (.inl d)
  | n + 1 => ∃ e, o = some (.inr (n + 1, e))
def V : Nat → D
  | 0 => .str "fine"
  | 1 => .lst [.bl true, .bl false, .bl false]
  | 2 => .lst [.bl false, .bl true, .bl false]
  | _ => .lst [.bl false, .bl false, .bl true]
theorem wpx_retC {fn : List D → Option (D ⊕ (Nat × Option D))} {g : AF} {ρ : Ev} {ds : List D} {r : D ⊕ (Nat × Option D)} {Φ : Fr → Prop} (h : Af g ρ ds) (hc : fn ds = some r) (h2 : match r with
    | .inl d => Φ (.fl (.rt d ρ))
    | .inr p => Φ (.ex p.1 p.2 ρ)) : Wpx (xRet (eCallX fn g)) ρ Φ := by
  obtain ⟨as, h, rfl⟩ := h
  unfold Ae at h
  unfold Wpx xRet eCallX
  rw [h]
  simp only [Option.bind_some, hc, Option.map_some]
  cases r with
  | inl d => exact ⟨.fl (.rt d ρ), by simp [isNew], h2⟩
  | inr p => exact ⟨_, rfl, h2⟩
theorem wp_try {i : Nat} {b : XF} {l : List ((Nat → Option Bool) × HF)} {ρ : Ev} {Φ : Fl → Prop} (h : Wpx b ρ fun r => match r with
    | .fl r => Φ r
    | .ex n o ρ' => ∃ r, pickH i n o ρ' l = some r ∧ Φ r) : Wp (sTry i b l) ρ Φ := by
  obtain ⟨r, h1, h2⟩ := h
  unfold Wp sTry
  rw [h1]
  cases r with
  | fl r => exact ⟨r, rfl, h2⟩
  | ex n o ρ' => exact h2
section
variable {p r ip s : D} {k : Int} {c : Nat}
theorem called_eq (hk : k = 0 ∨ k = 1 ∨ k = 2) {x : D ⊕ (Nat × Option D)} (h0 : k = 0 → f_run [p, r, ip, s] = some x) (h1 : k = 1 → f_bare [p, r, ip, s] = some x) (h2 : k = 2 → f_look [p, r] = some x) : f__law_called [.int k, p, r, ip, s] = some x := by
  refine fnx_is rfl ?_
  unfold b__law_called
  show Wpx _ [.fz (.int k), .fz p, .fz r, .fz ip, .fz s] _
  have A4 : Af (aCons (eV 1) (aCons (eV 2) (aCons (eV 3) (aCons (eV 4) aNil)))) [.fz (.int k), .fz p, .fz r, .fz ip, .fz s] [p, r, ip, s] := af_cons (vf_fz rfl) (af_cons (vf_fz rfl) (af_cons (vf_fz rfl) (af_cons (vf_fz rfl) af_nil)))
  have A2 : Af (aCons (eV 1) (aCons (eV 2) aNil)) [.fz (.int k), .fz p, .fz r, .fz ip, .fz s] [p, r] := af_cons (vf_fz rfl) (af_cons (vf_fz rfl) af_nil)
  rcases hk with rfl | rfl | rfl
  · refine wpx_g (b := true) (tf_v (vf_e2 (vf_fz rfl) vf_c eq_int)) (fun _ => wpx_retC A4 (h0 rfl) ?_) (fun q => by cases q)
    cases x with
    | inl d => exact ⟨fun _ z => (by cases z), rfl⟩
    | inr e => exact ⟨fun _ z => (by cases z), rfl⟩
  · refine wpx_g (b := false) (tf_v (vf_e2 (vf_fz rfl) vf_c eq_int)) (fun q => by cases q) (fun _ => ?_)
    refine wpx_g (b := true) (tf_v (vf_e2 (vf_fz rfl) vf_c eq_int)) (fun _ => wpx_retC A4 (h1 rfl) ?_) (fun q => by cases q)
    cases x with
    | inl d => exact ⟨fun _ z => (by cases z), rfl⟩
    | inr e => exact ⟨fun _ z => (by cases z), rfl⟩
  · refine wpx_g (b := false) (tf_v (vf_e2 (vf_fz rfl) vf_c eq_int)) (fun q => by cases q) (fun _ => ?_)
    refine wpx_g (b := false) (tf_v (vf_e2 (vf_fz rfl) vf_c eq_int)) (fun q => by cases q) (fun _ => wpx_retC A2 (h2 rfl) ?_)
    cases x with
    | inl d => rfl
    | inr e => rfl
theorem refused_eq (hc : c < 4) (h : Out c (f__law_called [.int k, p, r, ip, s])) : f__law_refused [.int k, p, r, ip, s] = some (V c) := by
  refine fn_is rfl ?_
  unfold b__law_refused
  show Wp _ [.fz (.int k), .fz p, .fz r, .fz ip, .fz s, .emp] _
  have A5 : Af (aCons (eV 0) (aCons (eV 1) (aCons (eV 2) (aCons (eV 3) (aCons (eV 4) aNil))))) [.fz (.int k), .fz p, .fz r, .fz ip, .fz s, .emp] [.int k, p, r, ip, s] := af_cons (vf_fz rfl) (af_cons (vf_fz rfl) (af_cons (vf_fz rfl) (af_cons (vf_fz rfl) (af_cons (vf_fz rfl) af_nil))))
  match c, hc, h with
  | 0, _, ⟨d, h⟩ => exact wp_seq (wp_try (wpx_ex A5 h (wp_ret vf_c rfl rfl)))
  | 1, _, ⟨e, h⟩ => exact wp_seq (wp_try (wpx_ex A5 h ⟨_, rfl, rfl⟩))
  | 2, _, ⟨e, h⟩ => exact wp_seq (wp_try (wpx_ex A5 h ⟨_, rfl, rfl⟩))
  | 3, _, ⟨e, h⟩ => exact wp_seq (wp_try (wpx_ex A5 h ⟨_, rfl, rfl⟩))
end
/-- what is due -/
def code (i j : Nat) (k : Int) (b f : Bool) : Nat := if pBad i = true then 1 else if rBad j = true then 2 else if (decide (k < 2) && (b || !f)) = true then 3 else 0
theorem code_lt (i j : Nat) (k : Int) (b f : Bool) : code i j k b f < 4 := by
  unfold code
  split
  · omega
  split
  · omega
  split <;> omega
theorem refused_code {i j : Nat} {k : Int} {ip st : D} {b : Bool} (hi : i < 6) (hj : j < 7) (hk : k = 0 ∨ k = 1 ∨ k = 2) (h1 : wf ip = true) (h2 : ∀ ds, ip = .lst ds → ds.all wf = true) (h3 : wf st = true) (hb : inOk ip = !b) :
    f__law_refused [.int k, PL i, RW j, ip, st] = some (V (code i j k b (stOk st))) := by
  refine refused_eq (code_lt _ _ _ _ _) ?_
  unfold code
  by_cases hp : pBad i = true
  · rw [if_pos hp]
    obtain ⟨o, e⟩ := need_p hi hp hj
    obtain ⟨a1, a2, a3⟩ := run_bad (ip := ip) (s := st) e
    exact ⟨o, called_eq hk (fun _ => a1) (fun _ => a2) (fun _ => a3)⟩
  rw [if_neg hp]
  have hp : pBad i = false := by simpa using hp
  by_cases hr : rBad j = true
  · rw [if_pos hr]
    obtain ⟨o, e⟩ := need_r hi hp hj hr
    obtain ⟨a1, a2, a3⟩ := run_bad (ip := ip) (s := st) e
    exact ⟨o, called_eq hk (fun _ => a1) (fun _ => a2) (fun _ => a3)⟩
  rw [if_neg hr]
  have hr : rBad j = false := by simpa using hr
  have hnr := needrun_gen h1 h2 h3
  obtain ⟨dn, hn⟩ := need_ok hi hp hj hr
  rw [hb] at hnr
  by_cases hx : (decide (k < 2) && (b || !stOk st)) = true
  · rw [if_pos hx]
    simp only [Bool.and_eq_true, decide_eq_true_eq] at hx
    rw [if_neg (by
      have := hx.2
      revert this
      cases b <;> cases stOk st <;> simp)] at hnr
    obtain ⟨a1, a2⟩ := run_bad2 hn hnr
    exact ⟨none, called_eq hk (fun _ => a1) (fun _ => a2) (fun q => absurd q (by omega))⟩
  · rw [if_neg hx]
    by_cases hk2 : k = 2
    · exact ⟨.non, called_eq hk (fun q => absurd q (by omega)) (fun q => absurd q (by omega)) (fun _ => look_good hi hp hj hr)⟩
    · have hlt : k < 2 := by omega
      have hbs : b = false ∧ stOk st = true := by
        revert hx
        rw [show decide (k < 2) = true by simpa using hlt]
        cases b <;> cases stOk st <;> simp
      obtain ⟨rfl, hs⟩ := hbs
      rw [hs] at hnr
      obtain ⟨z, rfl, hz, hz2⟩ : ∃ z, st = .int z ∧ 0 ≤ z ∧ z ≤ 1000000 := by
        revert hs
        cases st <;> simp [stOk]
      obtain ⟨d1, e1⟩ := run_good hi hp hj hr hnr hz
      obtain ⟨d2, e2⟩ := bare_good hi hp hj hr hnr hz hz2
      by_cases hk0 : k = 0
      · exact ⟨d1, called_eq hk (fun _ => e1) (fun q => absurd q (by omega)) (fun q => absurd q (by omega))⟩
      · exact ⟨d2, called_eq hk (fun q => absurd q hk0) (fun _ => e2) (fun q => absurd q (by omega))⟩
end K02

namespace K02
open PySem L2 DL
theorem ve_ixn {f g : EF} {ρ : Ev} {ds : List D} {z : Int} {d : D} (h : Ve f ρ (.lst ds) .new) (h2 : Vf g ρ (.int z)) (h0 : 0 ≤ z) (hd : ds[z.toNat]? = some d) : Ve (eIx ixD f g) ρ d .new := by
  obtain ⟨m, h2⟩ := h2
  have := ve_ix h h2 (ixl_nat h0 hd)
  rw [effm_new] at this
  exact this
theorem ve_lst1 {f : EF} {ρ : Ev} {d : D} (h : Ve f ρ d .new) : Ve (eDisp .lst (aCons f aNil)) ρ (.lst [d]) .new := ve_disp (ae_cons h ae_nil) (by simp [okNew, isNew]) (by simp)
theorem sixP {i : Nat} (h : i < 6) : [PL 0, PL 1, PL 2, PL 3, PL 4, PL 5][i]? = some (PL i) := by
  match i, h with
  | 0, _ => rfl
  | 1, _ => rfl
  | 2, _ => rfl
  | 3, _ => rfl
  | 4, _ => rfl
  | 5, _ => rfl
theorem sevR {i : Nat} (h : i < 7) : [RW 0, RW 1, RW 2, RW 3, RW 4, RW 5, RW 6][i]? = some (RW i) := by
  match i, h with
  | 0, _ => rfl
  | 1, _ => rfl
  | 2, _ => rfl
  | 3, _ => rfl
  | 4, _ => rfl
  | 5, _ => rfl
  | 6, _ => rfl
theorem inP {i : Nat} (h : i < 6) : inTD (PL i) (.tup [PL 2, PL 3, PL 5]) = some (.bl (pBad i)) := by
  match i, h with
  | 0, _ => kernel_rfl
  | 1, _ => kernel_rfl
  | 2, _ => kernel_rfl
  | 3, _ => kernel_rfl
  | 4, _ => kernel_rfl
  | 5, _ => kernel_rfl
theorem inR {i : Nat} (h : i < 7) : inTD (RW i) (.tup [RW 2, RW 3, RW 5, RW 6]) = some (.bl (rBad i)) := by
  match i, h with
  | 0, _ => kernel_rfl
  | 1, _ => kernel_rfl
  | 2, _ => kernel_rfl
  | 3, _ => kernel_rfl
  | 4, _ => kernel_rfl
  | 5, _ => kernel_rfl
  | 6, _ => kernel_rfl
theorem eqR {i : Nat} (h : i < 7) : eqDD (RW i) (RW 1) = some (.bl (i == 1)) := by
  match i, h with
  | 0, _ => kernel_rfl
  | 1, _ => kernel_rfl
  | 2, _ => kernel_rfl
  | 3, _ => kernel_rfl
  | 4, _ => kernel_rfl
  | 5, _ => kernel_rfl
  | 6, _ => kernel_rfl
def odds : List D := [.bl true, .str "1", .non, .tup [.int 1, .int 2], .lst [.int 1], .bl false]
theorem odd_at {i : Nat} (h : i < 6) : ∃ d, odds[i]? = some d ∧ wf d = true ∧ whB d = false := by
  match i, h with
  | 0, _ => exact ⟨_, rfl, rfl, rfl⟩
  | 1, _ => exact ⟨_, rfl, rfl, rfl⟩
  | 2, _ => exact ⟨_, rfl, rfl, rfl⟩
  | 3, _ => exact ⟨_, rfl, rfl, rfl⟩
  | 4, _ => exact ⟨_, rfl, rfl, rfl⟩
  | 5, _ => exact ⟨_, rfl, rfl, rfl⟩
/-- the steps that are drawn -/
def stL (q : Int) : List D := [.int 0, .int q, .int 1000000, .int 1000001, .int (-1), .bl true, .str "3", .non]
structure StC (q : Int) (st : D) : Prop where
  w : wf st = true
  eq : ∃ b, eqDD st (.int 1000000) = some (.bl b)
  fin : ∃ a b, inD st (.tup [.int 0, .int q, .int 1000, .int 1000000]) = some (.bl a) ∧ isTy .bool st = some (.bl b) ∧ (a && !b) = stOk st
theorem in_int (q z : Int) : inD (.int z) (.tup [.int 0, .int q, .int 1000, .int 1000000]) = some (.bl (((0 : Int) == z) || ((q == z) || (((1000 : Int) == z) || ((1000000 : Int) == z))))) := by
  show some (D.bl (inV (.int z) [.int 0, .int q, .int 1000, .int 1000000])) = _
  simp only [inV, List.any_cons, List.any_nil, eqV, Bool.or_false]
theorem stc_int {q z : Int} (h0 : 0 ≤ q) (h1 : q < 50) (hz : z = 0 ∨ z = q ∨ z = 1000 ∨ z = 1000000 ∨ z = 1000001 ∨ z = -1) : StC q (.int z) := by
  refine ⟨rfl, ⟨_, eq_int⟩, _, _, in_int q z, rfl, ?_⟩
  show (_ && !false) = (decide (0 ≤ z) && decide (z ≤ 1000000))
  rw [Bool.not_false, Bool.and_true, Bool.eq_iff_iff]
  simp only [Bool.or_eq_true, beq_iff_eq, Bool.and_eq_true, decide_eq_true_eq]
  omega
theorem stc_at {q : Int} (h0 : 0 ≤ q) (h1 : q < 50) {i : Nat} (h : i < 8) : ∃ d, (stL q)[i]? = some d ∧ StC q d := by
  match i, h with
  | 0, _ => exact ⟨_, rfl, stc_int h0 h1 (by omega)⟩
  | 1, _ => exact ⟨_, rfl, stc_int h0 h1 (by omega)⟩
  | 2, _ => exact ⟨_, rfl, stc_int h0 h1 (by omega)⟩
  | 3, _ => exact ⟨_, rfl, stc_int h0 h1 (by omega)⟩
  | 4, _ => exact ⟨_, rfl, stc_int h0 h1 (by omega)⟩
  | 5, _ => exact ⟨_, rfl, rfl, ⟨false, by kernel_rfl⟩, _, _, rfl, rfl, by rw [Bool.not_true, Bool.and_false]; rfl⟩
  | 6, _ => exact ⟨_, rfl, rfl, ⟨false, by kernel_rfl⟩, false, false, rfl, rfl, rfl⟩
  | 7, _ => exact ⟨_, rfl, rfl, ⟨false, by kernel_rfl⟩, false, false, rfl, rfl, rfl⟩
theorem V_dk {c : Nat} (h : c < 4) : dk 64 (V c) = true := by
  match c, h with
  | 0, _ => decide +kernel
  | 1, _ => decide +kernel
  | 2, _ => decide +kernel
  | 3, _ => decide +kernel
theorem all_cut {p : D → Bool} {a : List D} (h : a.all p = true) (lo hi : Option Int) : (cutL a lo hi).all p = true := by
  rw [List.all_eq_true] at h ⊢
  intro d hd
  unfold cutL at hd
  exact h d (List.mem_of_mem_drop (List.mem_of_mem_take hd))
theorem cut_len {a : List D} (lo hi : Option Int) : (cutL a lo hi).length ≤ a.length := by
  unfold cutL
  simp only [List.length_take, List.length_drop]
  omega
theorem law_true (ns : List Int) (hl : ns.length ≤ 63) : f_law [.scr ns] = some (.bl true) := by
  refine fnf_is rfl rfl ?_
  unfold b_law
  show Wp _ [.fn (.scr ns), .emp, .emp, .emp, .emp, .emp, .emp, .emp, .emp, .emp, .emp, .emp, .emp, .emp, .emp] _
  have va : ∀ {ρ : Ev} {j : Int}, ρ[0]? = some (.fn (.scr ns)) → 0 ≤ j → Vf (eCall f__law_at (aCons (eV 0) (aCons (eC (.int j)) aNil))) ρ (.int (atZ ns j)) := fun e h => vf_call (ds := [.scr ns, _]) (af_cons (vf_fn e) (af_cons vf_c af_nil)) (at_eq h)
  generalize hc : atZ ns 0 = c
  generalize hm : atZ ns 1 = m
  generalize hx : atZ ns 2 = x
  have v0 : ∀ {ρ : Ev}, ρ[0]? = some (.fn (.scr ns)) → Vf (eCall f__law_at (aCons (eV 0) (aCons (eC (.int 0)) aNil))) ρ (.int c) := fun e => by rw [← hc]; exact va e (by decide)
  have v1 : ∀ {ρ : Ev}, ρ[0]? = some (.fn (.scr ns)) → Vf (eCall f__law_at (aCons (eV 0) (aCons (eC (.int 1)) aNil))) ρ (.int m) := fun e => by rw [← hm]; exact va e (by decide)
  have v2 : ∀ {ρ : Ev}, ρ[0]? = some (.fn (.scr ns)) → Vf (eCall f__law_at (aCons (eV 0) (aCons (eC (.int 2)) aNil))) ρ (.int x) := fun e => by rw [← hx]; exact va e (by decide)
  have dm : ∀ {ρ : Ev} {f : EF} {z a b : Int}, Vf f ρ (.int z) → 0 < a → a < 1073741824 → 0 < b → Vf (e2 modD (e2 fdivD f (eC (.int a))) (eC (.int b))) ρ (.int (z / a % b)) := fun h ha ha2 hb => vf_e2 (vf_e2 h vf_c (fdiv_ok ha ha2)) vf_c (mod_ok hb)
  have md : ∀ {ρ : Ev} {f : EF} {z b : Int}, Vf f ρ (.int z) → 0 < b → Vf (e2 modD f (eC (.int b))) ρ (.int (z % b)) := fun h hb => vf_e2 h vf_c (mod_ok hb)
  refine wp_nx (sf_set (d := .int c) (v0 rfl) rfl rfl rfl) ?_
  -- the plots
  have i0 := Int.emod_nonneg c (show (6 : Int) ≠ 0 by omega)
  have i1 := Int.emod_lt_of_pos c (show (0 : Int) < 6 by omega)
  obtain ⟨i, hi⟩ : ∃ i : Nat, c % 6 = (i : Nat) := ⟨_, (Int.toNat_of_nonneg i0).symm⟩
  have hi6 : i < 6 := by omega
  refine wp_nx (sn_set (d := PL i) (ve_ixn (ds := [PL 0, PL 1, PL 2, PL 3, PL 4, PL 5]) (by rfl) (md (vf_fn rfl) (by decide)) i0 (by rw [hi, Int.toNat_natCast]; exact sixP hi6)) rfl rfl) ?_
  -- the rows
  have j0 := Int.emod_nonneg (c / 6) (show (7 : Int) ≠ 0 by omega)
  have j1 := Int.emod_lt_of_pos (c / 6) (show (0 : Int) < 7 by omega)
  obtain ⟨j, hj⟩ : ∃ j : Nat, c / 6 % 7 = (j : Nat) := ⟨_, (Int.toNat_of_nonneg j0).symm⟩
  have hj7 : j < 7 := by omega
  refine wp_nx (sn_set (d := RW j) (ve_ixn (ds := [RW 0, RW 1, RW 2, RW 3, RW 4, RW 5, RW 6]) (by rfl) (dm (vf_fn rfl) (by decide) (by decide) (by decide)) j0 (by rw [hj, Int.toNat_natCast]; exact sevR hj7)) rfl rfl) ?_
  refine wp_nx (sf_set (d := .int m) (v1 rfl) rfl rfl rfl) ?_
  simp only [List.set_cons_succ, List.set_cons_zero]
  -- the inputs
  obtain ⟨n, hn, hn14⟩ : ∃ n : Nat, (if m < 0 then -m else m) % 14 = (n : Nat) ∧ n < 14 := by
    have a0 := Int.emod_nonneg (if m < 0 then -m else m) (show (14 : Int) ≠ 0 by omega)
    have a1 := Int.emod_lt_of_pos (if m < 0 then -m else m) (show (0 : Int) < 14 by omega)
    exact ⟨_, (Int.toNat_of_nonneg a0).symm, by omega⟩
  refine wp_nx (sn_set (d := .lst ((List.range n).map fun (k : Nat) => .int (m / ((k : Int) + 1)))) (vn_lcr (n := n) (F := fun k => .int (m / ((k : Int) + 1))) ?_ (by omega) (by simp) (fun k hk => ?_) (fun _ => rfl)) rfl rfl) ?_
  · rw [← hn]
    exact md (vf_call (ds := [.int m]) (af_cons (vf_fn rfl) af_nil) rfl) (by decide)
  · exact vf_e2 (vf_fn rfl) (vf_e2 (vf_fn rfl) vf_c add_int) (fdiv_ok (by omega) (by omega))
  simp only [List.set_cons_succ, List.set_cons_zero]
  have hLw : ((List.range n).map fun (k : Nat) => D.int (m / ((k : Int) + 1))).all whB = true := by
    rw [List.all_eq_true]; intro d hd; simp only [List.mem_map] at hd; obtain ⟨k, _, rfl⟩ := hd; rfl
  have hLf : ((List.range n).map fun (k : Nat) => D.int (m / ((k : Int) + 1))).all wf = true := by
    rw [List.all_eq_true]; intro d hd; simp only [List.mem_map] at hd; obtain ⟨k, _, rfl⟩ := hd; rfl
  have hLl : ((List.range n).map fun (k : Nat) => D.int (m / ((k : Int) + 1))).length = n := by simp
  generalize ((List.range n).map fun (k : Nat) => D.int (m / ((k : Int) + 1))) = L at hLw hLf hLl ⊢
  have s0 := Int.emod_nonneg x (show ((n : Nat) : Int) + 1 ≠ 0 by omega)
  refine wp_nx (sf_set (d := .int (x % ((n : Nat) + 1))) (vf_e2 (v2 rfl) (vf_e2 (a := .int (n : Nat)) (vf_call (ds := [.lst L]) (af_cons (vf_fn rfl) af_nil) (by rw [← hLl]; rfl)) vf_c add_int) (mod_ok (by omega))) rfl rfl rfl) ?_
  generalize x % (((n : Nat) : Int) + 1) = sp at s0 ⊢
  -- an odd one
  have o0 := Int.emod_nonneg (x / 14) (show (6 : Int) ≠ 0 by omega)
  have o1 := Int.emod_lt_of_pos (x / 14) (show (0 : Int) < 6 by omega)
  obtain ⟨od, hod, hodw, hodn⟩ := odd_at (i := (x / 14 % 6).toNat) (by omega)
  refine wp_nx (sn_set (d := od) (ve_ixn (ds := odds) (by rfl) (dm (v2 rfl) (by decide) (by decide) (by decide)) o0 hod) rfl rfl) ?_
  refine wp_nx (sf_set (d := .bl (c / 42 % 3 == 1)) (vf_e2 (dm (vf_fn rfl) (by decide) (by decide) (by decide)) vf_c eq_int) rfl rfl rfl) ?_
  simp only [List.set_cons_succ, List.set_cons_zero]
  refine wp_mid (fun ρ' => ∃ ip b, wf ip = true ∧ (∀ ds, ip = .lst ds → ds.all wf = true) ∧ inOk ip = !b ∧ (∃ ds, ip = .lst ds) ∧ ρ' = [.fn (.scr ns), .fn (.int c), .fn (PL i), .fn (RW j), .fn (.int m), .fn ip, .fn (.int sp), .fn od, .fn (.bl b), .emp, .emp, .emp, .emp, .emp, .emp]) ?_ ?_
  · refine wp_if (b := c / 42 % 3 == 1) (tf_v (vf_fn rfl)) (fun hb => ?_) (fun hb => ?_)
    · have l1 := cut_len (a := L) none (some sp)
      have l2 := cut_len (a := L) (some sp) none
      refine wp_end (sn_set (ve_addN (ve_addN (ve_slN (ve_fn rfl) oe_none (of_some (i := sp) (vf_fn rfl))) (ve_lst1 (ve_fn rfl)) (by simp; omega)) (ve_slN (ve_fn rfl) (of_some (i := sp) (vf_fn rfl)) oe_none) (by simp; omega)) rfl rfl) ⟨_, rfl, .lst (cutL L none (some sp) ++ [od] ++ cutL L (some sp) none), true, rfl, fun ds e => ?_, ?_, ⟨_, rfl⟩, by rw [hb]; rfl⟩
      · cases e
        rw [List.all_append, List.all_append, all_cut hLf, all_cut hLf]
        simp [hodw]
      · show (cutL L none (some sp) ++ [od] ++ cutL L (some sp) none).all whB = false
        rw [List.all_append, List.all_append]
        simp [hodn]
    · exact wp_nil ⟨_, rfl, .lst L, false, rfl, fun ds e => by cases e; exact hLf, hLw, ⟨_, rfl⟩, by rw [hb]⟩
  rintro ρ ⟨ip, b, w1, w2, w3, ⟨ids, rfl⟩, rfl⟩
  refine wp_mid (fun ρ' => ∃ ip b, wf ip = true ∧ (∀ ds, ip = .lst ds → ds.all wf = true) ∧ inOk ip = !b ∧ ρ' = [.fn (.scr ns), .fn (.int c), .fn (PL i), .fn (RW j), .fn (.int m), .fn ip, .fn (.int sp), .fn od, .fn (.bl b), .emp, .emp, .emp, .emp, .emp, .emp]) ?_ ?_
  · refine wp_if (b := c / 42 % 9 == 2) (tf_v (vf_e2 (dm (vf_fn rfl) (by decide) (by decide) (by decide)) vf_c eq_int)) (fun hb => ?_) (fun hb => ?_)
    · have t0 := Int.emod_nonneg x (show (4 : Int) ≠ 0 by omega)
      have t1 := Int.emod_lt_of_pos x (show (0 : Int) < 4 by omega)
      obtain ⟨d, hd, hdw, hdl, hdi⟩ : ∃ d, [D.tup ids, .non, .int 3, .str "12"][(x % 4).toNat]? = some d ∧ wf d = true ∧ (∀ ds, d ≠ .lst ds) ∧ inOk d = false := by
        have : ∀ t : Nat, t < 4 → ∃ d, [D.tup ids, .non, .int 3, .str "12"][t]? = some d ∧ wf d = true ∧ (∀ ds, d ≠ .lst ds) ∧ inOk d = false := by
          intro t ht
          match t, ht with
          | 0, _ => exact ⟨_, rfl, rfl, fun _ z => (by cases z), rfl⟩
          | 1, _ => exact ⟨_, rfl, rfl, fun _ z => (by cases z), rfl⟩
          | 2, _ => exact ⟨_, rfl, rfl, fun _ z => (by cases z), rfl⟩
          | 3, _ => exact ⟨_, rfl, rfl, fun _ z => (by cases z), rfl⟩
        exact this _ (by omega)
      refine wp_nx (sf_set (d := .bl true) vf_c rfl rfl rfl) ?_
      refine wp_end (sn_set (d := d) (ve_ixn (ds := [.tup ids, .non, .int 3, .str "12"]) (ve_disp (as := [(.tup ids, .new), (.non, .new), (.int 3, .new), (.str "12", .new)]) (ae_cons (ve_tupN (.inl (ve_fn rfl))) (ae_cons ve_c (ae_cons ve_c (ae_cons ve_c ae_nil)))) (by simp [okNew, isNew]) (by simp)) (md (v2 rfl) (by decide)) t0 hd) rfl rfl) ⟨_, rfl, d, true, hdw, fun ds e => absurd e (hdl ds), hdi, rfl⟩
    · exact wp_nil ⟨_, rfl, _, _, w1, w2, w3, rfl⟩
  clear w1 w2 w3
  rintro ρ ⟨ip, b, w1, w2, w3, rfl⟩
  -- the steps
  have q0 := Int.emod_nonneg m (show (50 : Int) ≠ 0 by omega)
  have q1 := Int.emod_lt_of_pos m (show (0 : Int) < 50 by omega)
  have hq : ∀ {ρ : Ev}, ρ[4]? = some (.fn (.int m)) → Ve (e2 modD (eV 4) (eC (.int 50))) ρ (.int (m % 50)) .new := fun e => ve_e2 (ve_fn e) ve_c (mod_ok (by decide))
  generalize m % 50 = q at q0 q1 hq
  have u0 := Int.emod_nonneg (c / 378) (show (8 : Int) ≠ 0 by omega)
  have u1 := Int.emod_lt_of_pos (c / 378) (show (0 : Int) < 8 by omega)
  obtain ⟨st, hst, hstc⟩ := stc_at q0 q1 (i := (c / 378 % 8).toNat) (by omega)
  refine wp_nx (sn_set (d := st) (ve_ixn (ds := stL q) (ve_disp (as := [(.int 0, .new), (.int q, .new), (.int 1000000, .new), (.int 1000001, .new), (.int (-1), .new), (.bl true, .new), (.str "3", .new), (.non, .new)]) (ae_cons ve_c (ae_cons (hq rfl) (ae_cons ve_c (ae_cons ve_c (ae_cons (ve_e2 ve_c ve_c rfl) (ae_cons ve_c (ae_cons ve_c (ae_cons ve_c ae_nil)))))))) rfl (by simp)) (dm (vf_fn rfl) (by decide) (by decide) (by decide)) u0 hst) rfl rfl) ?_
  simp only [List.set_cons_succ, List.set_cons_zero]
  refine wp_mid (fun ρ' => ∃ st, StC q st ∧ ρ' = [.fn (.scr ns), .fn (.int c), .fn (PL i), .fn (RW j), .fn (.int m), .fn ip, .fn (.int sp), .fn od, .fn (.bl b), .fn st, .emp, .emp, .emp, .emp, .emp]) ?_ ?_
  · obtain ⟨bb, hbb⟩ := hstc.eq
    refine wp_if (b := (j == 1) && bb) (te_and (tf_v (vf_e2 (b := RW 1) (vf_fn rfl) ⟨_, (by rfl : Ve (eDisp .lst (aCons (eDisp .tup (aCons (eC (.str "go")) (aCons (eC (.int 0)) aNil))) aNil)) _ (RW 1) .new)⟩ (eqR hj7))) fun _ => tf_v (vf_e2 (vf_fn rfl) vf_c hbb)) (fun _ => ?_) (fun _ => ?_)
    · exact wp_end (sf_set (d := .int 1000) vf_c rfl rfl rfl) ⟨_, rfl, _, stc_int q0 q1 (z := 1000) (by omega), rfl⟩
    · exact wp_nil ⟨_, rfl, _, hstc, rfl⟩
  clear hst hstc
  rintro ρ ⟨st, hstc, rfl⟩
  have k0 := Int.emod_nonneg (c / 3024) (show (3 : Int) ≠ 0 by omega)
  have k1 := Int.emod_lt_of_pos (c / 3024) (show (0 : Int) < 3 by omega)
  refine wp_nx (sf_set (d := .int (c / 3024 % 3)) (dm (vf_fn rfl) (by decide) (by decide) (by decide)) rfl rfl rfl) ?_
  generalize c / 3024 % 3 = k at k0 k1 ⊢
  simp only [List.set_cons_succ, List.set_cons_zero]
  refine wp_nx (sn_set (d := .lst [.bl (pBad i), .bl (rBad j)]) (ve_disp (as := [(.bl (pBad i), .new), (.bl (rBad j), .new)]) (ae_cons (ve_e2 (b := .tup [PL 2, PL 3, PL 5]) (ve_fn rfl) (by rfl) (inP hi6)) (ae_cons (ve_e2 (b := .tup [RW 2, RW 3, RW 5, RW 6]) (ve_fn rfl) (by rfl) (inR hj7)) ae_nil)) rfl (by simp)) rfl rfl) ?_
  obtain ⟨fa, fb, hfa, hfb, hfs⟩ := hstc.fin
  refine wp_nx (sf_set (d := .bl (stOk st)) ?_ rfl rfl rfl) ?_
  · have h1 : Vf (e2 inD (eV 9) (eDisp .tup (aCons (eC (.int 0)) (aCons (e2 modD (eV 4) (eC (.int 50))) (aCons (eC (.int 1000)) (aCons (eC (.int 1000000)) aNil)))))) [.fn (.scr ns), .fn (.int c), .fn (PL i), .fn (RW j), .fn (.int m), .fn ip, .fn (.int sp), .fn od, .fn (.bl b), .fn st, .fn (.int k), .fn (.lst [.bl (pBad i), .bl (rBad j)]), .emp, .emp, .emp] (.bl fa) :=
      vf_e2 (vf_fn rfl) ⟨_, ve_disp (as := [(.int 0, .new), (.int q, .new), (.int 1000, .new), (.int 1000000, .new)]) (ae_cons ve_c (ae_cons (hq rfl) (ae_cons ve_c (ae_cons ve_c ae_nil)))) rfl (by simp)⟩ hfa
    rw [← hfs]
    cases fa with
    | false => exact vf_and_f h1
    | true => exact vf_and_t h1 (vf_e1 (vf_e1 (vf_fn rfl) hfb) rfl)
  refine wp_nx (sf_set (d := V 0) vf_c rfl rfl rfl) ?_
  simp only [List.set_cons_succ, List.set_cons_zero]
  have code3 : ∀ {ρ : Ev}, ρ[13]? = some (.fn (V 0)) → True := fun _ => trivial
  refine wp_mid (fun ρ' => ρ' = [.fn (.scr ns), .fn (.int c), .fn (PL i), .fn (RW j), .fn (.int m), .fn ip, .fn (.int sp), .fn od, .fn (.bl b), .fn st, .fn (.int k), .fn (.lst [.bl (pBad i), .bl (rBad j)]), .fn (.bl (stOk st)), .fn (V (code i j k b (stOk st))), .emp]) ?_ ?_
  · refine wp_if (b := pBad i) (tf_v (vf_ix (a := .lst [.bl (pBad i), .bl (rBad j)]) (vf_fn rfl) vf_c rfl)) (fun h1 => ?_) (fun h1 => ?_)
    · exact wp_end (sn_set (d := V 1) (by rfl) rfl rfl) ⟨_, rfl, by unfold code; rw [if_pos h1]; rfl⟩
    refine wp_if (b := rBad j) (tf_v (vf_ix (a := .lst [.bl (pBad i), .bl (rBad j)]) (vf_fn rfl) vf_c rfl)) (fun h2 => ?_) (fun h2 => ?_)
    · exact wp_end (sn_set (d := V 2) (by rfl) rfl rfl) ⟨_, rfl, by unfold code; rw [if_neg (by rw [h1]; decide), if_pos h2]; rfl⟩
    refine wp_if (b := decide (k < 2) && (b || !stOk st)) (te_and (tf_v (vf_e2 (vf_fn rfl) vf_c lt_int)) fun _ => te_or (tf_v (vf_fn rfl)) fun _ => te_not (tf_v (vf_fn rfl))) (fun h3 => ?_) (fun h3 => ?_)
    · exact wp_end (sn_set (d := V 3) (by rfl) rfl rfl) ⟨_, rfl, by unfold code; rw [if_neg (by rw [h1]; decide), if_neg (by rw [h2]; decide), if_pos h3]; rfl⟩
    · exact wp_nil ⟨_, rfl, by unfold code; rw [if_neg (by rw [h1]; decide), if_neg (by rw [h2]; decide), if_neg (by rw [h3]; decide)]⟩
  rintro ρ rfl
  exact wp_ret (d := .bl true) (vf_e2 (vf_call (ds := [.int k, PL i, RW j, ip, st]) (af_cons (vf_fn rfl) (af_cons (vf_fn rfl) (af_cons (vf_fn rfl) (af_cons (vf_fn rfl) (af_cons (vf_fn rfl) af_nil))))) (refused_code hi6 hj7 (by omega) w1 w2 hstc.w w3)) (vf_fn rfl) (eq_refl (V_dk (code_lt _ _ _ _ _)))) rfl rfl
end K02

namespace K02
open PySem L2 DL
def top (i : Nat) : Stmt := PySem.Challenge.pw_plotfree_k02_what_runs_refuse.main.body.getD i (.Pass ⟨0, 0, 0, 0⟩)
abbrev s__law_at : Stmt := top 44
abbrev N__law_at : List Str := ["_law_script", "_law_k"]
theorem sc__law_at : FnScope N__law_at ["_law_script", "_law_k"] (defScope s__law_at) := ⟨rfl, rfl, rfl, by decide +kernel, rfl, by decide +kernel, by decide +kernel⟩
abbrev s_BadRows___init__ : Stmt := inClass (top 3) 0
abbrev N_BadRows___init__ : List Str := ["self", "at"]
theorem sc_BadRows___init__ : FnScope N_BadRows___init__ ["self", "at"] (defScope s_BadRows___init__) := ⟨rfl, rfl, rfl, by decide +kernel, rfl, by decide +kernel, by decide +kernel⟩
abbrev s_BadPlots___init__ : Stmt := inClass (top 2) 0
abbrev N_BadPlots___init__ : List Str := ["self", "at"]
theorem sc_BadPlots___init__ : FnScope N_BadPlots___init__ ["self", "at"] (defScope s_BadPlots___init__) := ⟨rfl, rfl, rfl, by decide +kernel, rfl, by decide +kernel, by decide +kernel⟩
abbrev s_is_name : Stmt := top 13
abbrev N_is_name : List Str := ["thing", "sign"]
theorem sc_is_name : FnScope N_is_name ["thing"] (defScope s_is_name) := ⟨rfl, rfl, rfl, by decide +kernel, rfl, by decide +kernel, by decide +kernel⟩
abbrev s_is_plot : Stmt := top 14
abbrev N_is_plot : List Str := ["ahead", "pair"]
theorem sc_is_plot : FnScope N_is_plot ["ahead", "pair"] (defScope s_is_plot) := ⟨rfl, rfl, rfl, by decide +kernel, rfl, by decide +kernel, by decide +kernel⟩
abbrev s_need_plots : Stmt := top 15
abbrev N_need_plots : List Str := ["plots", "ahead", "at", "pair"]
theorem sc_need_plots : FnScope N_need_plots ["plots"] (defScope s_need_plots) := ⟨rfl, rfl, rfl, by decide +kernel, rfl, by decide +kernel, by decide +kernel⟩
abbrev s_is_whole : Stmt := top 12
abbrev N_is_whole : List Str := ["thing"]
theorem sc_is_whole : FnScope N_is_whole ["thing"] (defScope s_is_whole) := ⟨rfl, rfl, rfl, by decide +kernel, rfl, by decide +kernel, by decide +kernel⟩
abbrev s_is_part : Stmt := top 16
abbrev N_is_part : List Str := ["form", "thing", "known", "many"]
theorem sc_is_part : FnScope N_is_part ["form", "thing", "known", "many"] (defScope s_is_part) := ⟨rfl, rfl, rfl, by decide +kernel, rfl, by decide +kernel, by decide +kernel⟩
abbrev s_is_row : Stmt := top 17
abbrev N_is_row : List Str := ["row", "known", "many", "forms", "form", "thing"]
theorem sc_is_row : FnScope N_is_row ["row", "known", "many"] (defScope s_is_row) := ⟨rfl, rfl, rfl, by decide +kernel, rfl, by decide +kernel, by decide +kernel⟩
abbrev s_need : Stmt := top 18
abbrev N_need : List Str := ["plots", "rows", "known", "pair", "at", "row"]
theorem sc_need : FnScope N_need ["plots", "rows"] (defScope s_need) := ⟨rfl, rfl, rfl, by decide +kernel, rfl, by decide +kernel, by decide +kernel⟩
abbrev s_need_run : Stmt := top 19
abbrev N_need_run : List Str := ["inputs", "steps", "one"]
theorem sc_need_run : FnScope N_need_run ["inputs", "steps"] (defScope s_need_run) := ⟨rfl, rfl, rfl, by decide +kernel, rfl, by decide +kernel, by decide +kernel⟩
abbrev s_row_at : Stmt := top 20
abbrev N_row_at : List Str := ["rows", "place"]
theorem sc_row_at : FnScope N_row_at ["rows", "place"] (defScope s_row_at) := ⟨rfl, rfl, rfl, by decide +kernel, rfl, by decide +kernel, by decide +kernel⟩
abbrev s_Store___init__ : Stmt := inClass (top 23) 0
abbrev N_Store___init__ : List Str := ["self", "plots"]
theorem sc_Store___init__ : FnScope N_Store___init__ ["self", "plots"] (defScope s_Store___init__) := ⟨rfl, rfl, rfl, by decide +kernel, rfl, by decide +kernel, by decide +kernel⟩
abbrev s_Store_number_of : Stmt := inClass (top 23) 1
abbrev N_Store_number_of : List Str := ["self", "plot", "name", "number"]
theorem sc_Store_number_of : FnScope N_Store_number_of ["self", "plot"] (defScope s_Store_number_of) := ⟨rfl, rfl, rfl, by decide +kernel, rfl, by decide +kernel, by decide +kernel⟩
abbrev s_Store_laid : Stmt := inClass (top 23) 3
abbrev N_Store_laid : List Str := ["self", "name", "plot", "worth", "number"]
theorem sc_Store_laid : FnScope N_Store_laid ["self", "name", "plot", "worth"] (defScope s_Store_laid) := ⟨rfl, rfl, rfl, by decide +kernel, rfl, by decide +kernel, by decide +kernel⟩
abbrev s_outward : Stmt := top 21
abbrev N_outward : List Str := ["plots", "plot", "outers", "name", "outer", "found"]
theorem sc_outward : FnScope N_outward ["plots", "plot"] (defScope s_outward) := ⟨rfl, rfl, rfl, by decide +kernel, rfl, by decide +kernel, by decide +kernel⟩
abbrev s_Store_begun : Stmt := inClass (top 23) 5
abbrev N_Store_begun : List Str := ["self", "plot", "around"]
theorem sc_Store_begun : FnScope N_Store_begun ["self", "plot"] (defScope s_Store_begun) := ⟨rfl, rfl, rfl, by decide +kernel, rfl, by decide +kernel, by decide +kernel⟩
abbrev s_Store_lack : Stmt := inClass (top 23) 2
abbrev N_Store_lack : List Str := ["self", "name", "plot", "number"]
theorem sc_Store_lack : FnScope N_Store_lack ["self", "name"] (defScope s_Store_lack) := ⟨rfl, rfl, rfl, by decide +kernel, rfl, by decide +kernel, by decide +kernel⟩
abbrev s_Store_worth_of : Stmt := inClass (top 23) 4
abbrev N_Store_worth_of : List Str := ["self", "name"]
theorem sc_Store_worth_of : FnScope N_Store_worth_of ["self", "name"] (defScope s_Store_worth_of) := ⟨rfl, rfl, rfl, by decide +kernel, rfl, by decide +kernel, by decide +kernel⟩
abbrev s_Store_copied : Stmt := inClass (top 23) 6
abbrev N_Store_copied : List Str := ["self", "name", "other", "plot", "word"]
theorem sc_Store_copied : FnScope N_Store_copied ["self", "name", "other", "plot"] (defScope s_Store_copied) := ⟨rfl, rfl, rfl, by decide +kernel, rfl, by decide +kernel, by decide +kernel⟩
abbrev s_Store_shared : Stmt := inClass (top 23) 7
abbrev N_Store_shared : List Str := ["self", "name", "other"]
theorem sc_Store_shared : FnScope N_Store_shared ["self", "name", "other"] (defScope s_Store_shared) := ⟨rfl, rfl, rfl, by decide +kernel, rfl, by decide +kernel, by decide +kernel⟩
abbrev s_Store_grown : Stmt := inClass (top 23) 8
abbrev N_Store_grown : List Str := ["self", "name", "other", "one", "word"]
theorem sc_Store_grown : FnScope N_Store_grown ["self", "name", "other"] (defScope s_Store_grown) := ⟨rfl, rfl, rfl, by decide +kernel, rfl, by decide +kernel, by decide +kernel⟩
abbrev s_Store_said : Stmt := inClass (top 23) 9
abbrev N_Store_said : List Str := ["self", "name", "word"]
theorem sc_Store_said : FnScope N_Store_said ["self", "name"] (defScope s_Store_said) := ⟨rfl, rfl, rfl, by decide +kernel, rfl, by decide +kernel, by decide +kernel⟩
abbrev s_Store_gone : Stmt := inClass (top 23) 10
abbrev N_Store_gone : List Str := ["self", "plot", "left", "gone", "name", "number"]
theorem sc_Store_gone : FnScope N_Store_gone ["self", "plot"] (defScope s_Store_gone) := ⟨rfl, rfl, rfl, by decide +kernel, rfl, by decide +kernel, by decide +kernel⟩
abbrev s_Store_do : Stmt := inClass (top 23) 11
abbrev N_Store_do : List Str := ["self", "row", "word"]
theorem sc_Store_do : FnScope N_Store_do ["self", "row"] (defScope s_Store_do) := ⟨rfl, rfl, rfl, by decide +kernel, rfl, by decide +kernel, by decide +kernel⟩
abbrev s_Outcome___init__ : Stmt := inClass (top 25) 0
abbrev N_Outcome___init__ : List Str := ["self", "end", "row", "steps", "store"]
theorem sc_Outcome___init__ : FnScope N_Outcome___init__ ["self", "end", "row", "steps", "store"] (defScope s_Outcome___init__) := ⟨rfl, rfl, rfl, by decide +kernel, rfl, by decide +kernel, by decide +kernel⟩
abbrev s_run : Stmt := top 26
abbrev N_run : List Str := ["plots", "rows", "inputs", "steps", "store", "place", "taken", "done", "row", "word"]
theorem sc_run : FnScope N_run ["plots", "rows", "inputs", "steps"] (defScope s_run) := ⟨rfl, rfl, rfl, by decide +kernel, rfl, by decide +kernel, by decide +kernel⟩
abbrev s_Field___init__ : Stmt := inClass (top 28) 0
abbrev N_Field___init__ : List Str := ["self", "plots", "plot", "outer", "around"]
theorem sc_Field___init__ : FnScope N_Field___init__ ["self", "plots"] (defScope s_Field___init__) := ⟨rfl, rfl, rfl, by decide +kernel, rfl, by decide +kernel, by decide +kernel⟩
abbrev s_Field_lay : Stmt := inClass (top 28) 1
abbrev N_Field_lay : List Str := ["self", "name", "plot", "worth", "cell"]
theorem sc_Field_lay : FnScope N_Field_lay ["self", "name", "plot", "worth"] (defScope s_Field_lay) := ⟨rfl, rfl, rfl, by decide +kernel, rfl, by decide +kernel, by decide +kernel⟩
abbrev s_Field_give : Stmt := inClass (top 28) 2
abbrev N_Field_give : List Str := ["self", "plot", "one"]
theorem sc_Field_give : FnScope N_Field_give ["self", "plot"] (defScope s_Field_give) := ⟨rfl, rfl, rfl, by decide +kernel, rfl, by decide +kernel, by decide +kernel⟩
abbrev s_Field_do : Stmt := inClass (top 28) 3
abbrev N_Field_do : List Str := ["self", "row", "told", "word"]
theorem sc_Field_do : FnScope N_Field_do ["self", "row", "told"] (defScope s_Field_do) := ⟨rfl, rfl, rfl, by decide +kernel, rfl, by decide +kernel, by decide +kernel⟩
abbrev s_bare : Stmt := top 29
abbrev N_bare : List Str := ["plots", "rows", "inputs", "steps", "field", "told", "place", "taken", "done", "row"]
theorem sc_bare : FnScope N_bare ["plots", "rows", "inputs", "steps"] (defScope s_bare) := ⟨rfl, rfl, rfl, by decide +kernel, rfl, by decide +kernel, by decide +kernel⟩
abbrev s_Wrong___init__ : Stmt := inClass (top 39) 0
abbrev N_Wrong___init__ : List Str := ["self", "choices", "outcome"]
theorem sc_Wrong___init__ : FnScope N_Wrong___init__ ["self", "choices", "outcome"] (defScope s_Wrong___init__) := ⟨rfl, rfl, rfl, by decide +kernel, rfl, by decide +kernel, by decide +kernel⟩
abbrev s_at_first : Stmt := top 32
abbrev N_at_first : List Str := ["plots", "rows", "found", "met", "row", "name", "outer"]
theorem sc_at_first : FnScope N_at_first ["plots", "rows"] (defScope s_at_first) := ⟨rfl, rfl, rfl, by decide +kernel, rfl, by decide +kernel, by decide +kernel⟩
abbrev s_wrong_by_plot : Stmt := top 33
abbrev N_wrong_by_plot : List Str := ["plots", "row", "plot", "is_open", "word", "asked"]
theorem sc_wrong_by_plot : FnScope N_wrong_by_plot ["plots", "row", "plot", "is_open"] (defScope s_wrong_by_plot) := ⟨rfl, rfl, rfl, by decide +kernel, rfl, by decide +kernel, by decide +kernel⟩
abbrev s_wrong_by : Stmt := top 34
abbrev N_wrong_by : List Str := ["plots", "row", "fact", "kind", "thing", "where", "asked", "at"]
theorem sc_wrong_by : FnScope N_wrong_by ["plots", "row", "fact"] (defScope s_wrong_by) := ⟨rfl, rfl, rfl, by decide +kernel, rfl, by decide +kernel, by decide +kernel⟩
abbrev s_behind_plot : Stmt := top 35
abbrev N_behind_plot : List Str := ["plots", "row", "plot", "is_open", "word", "found"]
theorem sc_behind_plot : FnScope N_behind_plot ["plots", "row", "plot", "is_open"] (defScope s_behind_plot) := ⟨rfl, rfl, rfl, by decide +kernel, rfl, by decide +kernel, by decide +kernel⟩
abbrev s_behind : Stmt := top 36
abbrev N_behind : List Str := ["plots", "row", "fact", "kind", "thing", "where", "word", "found"]
theorem sc_behind : FnScope N_behind ["plots", "row", "fact"] (defScope s_behind) := ⟨rfl, rfl, rfl, by decide +kernel, rfl, by decide +kernel, by decide +kernel⟩
abbrev s_ways_on : Stmt := top 37
abbrev N_ways_on : List Str := ["rows", "place", "row"]
theorem sc_ways_on : FnScope N_ways_on ["rows", "place"] (defScope s_ways_on) := ⟨rfl, rfl, rfl, by decide +kernel, rfl, by decide +kernel, by decide +kernel⟩
abbrev s_way_to : Stmt := top 40
abbrev N_way_to : List Str := ["came", "node", "choices", "steps", "choice"]
theorem sc_way_to : FnScope N_way_to ["came", "node"] (defScope s_way_to) := ⟨rfl, rfl, rfl, by decide +kernel, rfl, by decide +kernel, by decide +kernel⟩
abbrev s_first_wrong : Stmt := top 41
abbrev N_first_wrong : List Str := ["plots", "rows", "came", "nodes", "fact", "at", "node", "place", "row", "later", "choice", "after", "other"]
theorem sc_first_wrong : FnScope N_first_wrong ["plots", "rows"] (defScope s_first_wrong) := ⟨rfl, rfl, rfl, by decide +kernel, rfl, by decide +kernel, by decide +kernel⟩
abbrev s_look : Stmt := top 42
abbrev N_look : List Str := ["plots", "rows", "way", "choices", "steps"]
theorem sc_look : FnScope N_look ["plots", "rows"] (defScope s_look) := ⟨rfl, rfl, rfl, by decide +kernel, rfl, by decide +kernel, by decide +kernel⟩
abbrev s__law_called : Stmt := top 45
abbrev N__law_called : List Str := ["_law_kind", "_law_plots", "_law_rows", "_law_inputs", "_law_steps"]
theorem sc__law_called : FnScope N__law_called ["_law_kind", "_law_plots", "_law_rows", "_law_inputs", "_law_steps"] (defScope s__law_called) := ⟨rfl, rfl, rfl, by decide +kernel, rfl, by decide +kernel, by decide +kernel⟩
abbrev s__law_refused : Stmt := top 46
abbrev N__law_refused : List Str := ["_law_kind", "_law_plots", "_law_rows", "_law_inputs", "_law_steps", "error"]
theorem sc__law_refused : FnScope N__law_refused ["_law_kind", "_law_plots", "_law_rows", "_law_inputs", "_law_steps"] (defScope s__law_refused) := ⟨rfl, rfl, rfl, by decide +kernel, rfl, by decide +kernel, by decide +kernel⟩
abbrev s_law : Stmt := top 47
abbrev N_law : List Str := ["_law_script", "_law_cell", "_law_plots", "_law_rows", "_law_number", "_law_inputs", "_law_spot", "_law_odd", "_law_is_odd", "_law_steps", "_law_kind", "_law_bad", "_law_fine_steps", "_law_due", "_law_k"]
theorem sc_law : FnScope N_law ["_law_script"] (defScope s_law) := ⟨rfl, rfl, rfl, by decide +kernel, rfl, by decide +kernel, by decide +kernel⟩
/-- the classes: their attributes are fields -/
structure Cm (K : PySem.W.Frag) (cm : Nat → Addr) : Prop where
  c4 : Cls K (cm 4)
  a4_plots : NoAttr K (cm 4) "plots"
  a4_there : NoAttr K (cm 4) "there"
  a4_worth : NoAttr K (cm 4) "worth"
  a4_held : NoAttr K (cm 4) "held"
  a4_told : NoAttr K (cm 4) "told"
  a4_opened : NoAttr K (cm 4) "opened"
  a4_given : NoAttr K (cm 4) "given"
  c5 : Cls K (cm 5)
  a5_end : NoAttr K (cm 5) "end"
  a5_row : NoAttr K (cm 5) "row"
  a5_steps : NoAttr K (cm 5) "steps"
  a5_told : NoAttr K (cm 5) "told"
  a5_opened : NoAttr K (cm 5) "opened"
  a5_given : NoAttr K (cm 5) "given"
  c6 : Cls K (cm 6)
  a6_cells : NoAttr K (cm 6) "cells"
  a6_spare : NoAttr K (cm 6) "spare"
  a6_held : NoAttr K (cm 6) "held"
  a6_under : NoAttr K (cm 6) "under"
  a6_mine : NoAttr K (cm 6) "mine"
  c7 : Cls K (cm 7)
  a7_choices : NoAttr K (cm 7) "choices"
  a7_row : NoAttr K (cm 7) "row"
  a7_word : NoAttr K (cm 7) "word"
  a7_steps : NoAttr K (cm 7) "steps"
section
variable {P : Program} {w : World} {K : PySem.W.Frag} {mg : Str → Option Value} {base : Heap} {cm : Nat → Addr}
theorem ok__law_at {f : Addr} {fd : FuncData} (F : Fun K "_law_at" "_law_at" s__law_at f fd) (T : Bm mg) (TC : Cm K cm) : FnOk P w K mg base CX0 1 f fd ["_law_script", "_law_k"] (spP K cm w f__law_at) := by
  have key := @fn_pure P w K mg base cm "_law_at" "_law_at" s__law_at f fd N__law_at ["_law_script", "_law_k"] 0 b__law_at F sc__law_at (by decide)
  refine key fun cdv A outer s H E hr => ?_
  have NN := sc__law_at.nd
  exact (pub_cons (pus_if (put_lt (pu_var 1) (pu_len T.len (pua_cons (pu_var 0) pua_nil))) (pub_one (pus_ret (pu_ix (hu1 hr) (pu_var 0) (pu_var 1)))) pub_nil)
    (pub_one (pus_ret pu_int)))
theorem ok_BadRows___init__ {f : Addr} {fd : FuncData} (F : Fun K "__init__" "BadRows.__init__" s_BadRows___init__ f fd) (Z : FactX K (cm 2)) (p0 : PinC K (cm 0)) (m0 : mg "PlotError" = some (.ref (cm 0))) : FnOk P w K mg base CX0 1 f fd ["self", "at"] (spAt K (cm 2)) :=
  fn_at (m := "no rows") F sc_BadRows___init__ Z.oex Z.at_ fun cdv A outer s H E hr => pss_cons (ps_expr (pe_pinit p0 m0 (pa_cons (pe_var (i := 0) rfl (.inl rfl)) (pa_cons pe_str pa_nil)))) (pss_one (ps_ost (pe_var (i := 0) rfl (.inl rfl)) (pe_var (i := 1) rfl (.inl rfl))))
theorem ok_BadPlots___init__ {f : Addr} {fd : FuncData} (F : Fun K "__init__" "BadPlots.__init__" s_BadPlots___init__ f fd) (Z : FactX K (cm 1)) (p0 : PinC K (cm 0)) (m0 : mg "PlotError" = some (.ref (cm 0))) : FnOk P w K mg base CX0 1 f fd ["self", "at"] (spAt K (cm 1)) :=
  fn_at (m := "no plots") F sc_BadPlots___init__ Z.oex Z.at_ fun cdv A outer s H E hr => pss_cons (ps_expr (pe_pinit p0 m0 (pa_cons (pe_var (i := 0) rfl (.inl rfl)) (pa_cons pe_str pa_nil)))) (pss_one (ps_ost (pe_var (i := 0) rfl (.inl rfl)) (pe_var (i := 1) rfl (.inl rfl))))
theorem ok_is_name {f : Addr} {fd : FuncData} (F : Fun K "is_name" "is_name" s_is_name f fd) (T : Bm mg) (k_LETTERS : ∃ t, mg "LETTERS" = some (.str "abcdefghijklmnopqrstuvwxyz" t)) (TC : Cm K cm) : FnOk P w K mg base CX0 1 f fd ["thing"] (spP K cm w f_is_name) := by
  have key := @fn_pureF P w K mg base cm "is_name" "is_name" s_is_name f fd N_is_name ["thing"] 0 b_is_name F sc_is_name (by decide)
  refine key fun cdv A outer s H E hr => ?_
  have NN := sc_is_name.nd
  exact (pub_cons (pus_if (putw_or (put_not (put_val (pu_isi .str T.isinstance T.str (by decide +kernel) (pu_var 0)))) (putw_one_or (put_not (put_chain (p := (fun i j => decide (i ≤ j))) (q := (fun i j => decide (i ≤ j))) op_le op_le pu_int (pu_len T.len (pua_cons (pu_var 0) pua_nil)) pu_int)))).pt (pub_one (pus_ret pu_bl)) pub_nil)
    (pub_cons (pus_for (pui_seq (pu_var 0)) (pug_name 1 NN) (pub_one (pus_if (put_nin (hu65 hr) (pu_var 1) (pu_globS k_LETTERS)) (pub_one (pus_ret pu_bl)) pub_nil)))
    (pub_one (pus_ret pu_bl))))
theorem ok_is_plot {f : Addr} {fd : FuncData} (F : Fun K "is_plot" "is_plot" s_is_plot f fd) (T : Bm mg) (TC : Cm K cm) (C_is_name : CalP P w K mg base cm 1 "is_name" f_is_name) : FnOk P w K mg base CX0 2 f fd ["ahead", "pair"] (spP K cm w f_is_plot) := by
  have key := @fn_pureF P w K mg base cm "is_plot" "is_plot" s_is_plot f fd N_is_plot ["ahead", "pair"] 1 b_is_plot F sc_is_plot (by decide)
  refine key fun cdv A outer s H E hr => ?_
  have NN := sc_is_plot.nd
  exact (pub_cons (pus_if (putw_or (put_not (put_val (pu_isi .tuple T.isinstance T.tuple (by decide +kernel) (pu_var 1)))) (putw_or (put_ne (hu64 hr) (pu_len T.len (pua_cons (pu_var 1) pua_nil)) pu_int) (putw_or (put_not (put_val (pu_call C_is_name hr (by decide) (pua_cons (pu_ix (hu1 hr) (pu_var 1) pu_int) pua_nil)))) (putw_one_or (put_in (hu65 hr) (pu_ix (hu1 hr) (pu_var 1) pu_int) (pu_var 0)))))).pt (pub_one (pus_ret pu_bl)) pub_nil)
    (pub_one (pus_ret (pu_or (pu_isN (pu_ix (hu1 hr) (pu_var 1) pu_int)) (pu_one (pu_and (pu_call C_is_name hr (by decide) (pua_cons (pu_ix (hu1 hr) (pu_var 1) pu_int) pua_nil)) (pu_one (pu_in (hu65 hr) (pu_ix (hu1 hr) (pu_var 1) pu_int) (pu_var 0)))))))))
theorem ok_need_plots {f : Addr} {fd : FuncData} (F : Fun K "need_plots" "need_plots" s_need_plots f fd) (T : Bm mg) (k_MOST_PLOTS : ∃ t, mg "MOST_PLOTS" = some (.int 12 t)) (TC : Cm K cm) (C_BadPlots___init__ : MakX P w K mg base cm 1 1 "BadPlots") (C_is_plot : CalP P w K mg base cm 2 "is_plot" f_is_plot) : FnOk P w K mg base (L2.CX P w) 3 f fd ["plots"] (spX K cm w f_need_plots) := by
  have key := @fn_excF P w K mg base cm "need_plots" "need_plots" s_need_plots f fd N_need_plots ["plots"] 2 b_need_plots F sc_need_plots (by decide)
  refine key fun cdv A outer s H E hr => ?_
  have NN := sc_need_plots.nd
  exact (pubx_cons (pusx_if (putw_or (put_not (put_val (pu_isi .list T.isinstance T.list (by decide +kernel) (pu_var 0)))) (putw_one_or (put_gt (pu_len T.len (pua_cons (pu_var 0) pua_nil)) (pu_globI k_MOST_PLOTS)))).pt (pubx_one (pusx_raiseAt (takes_of rfl rfl rfl rfl) C_BadPlots___init__ hr (by decide) pu_non)) (pubx_up pub_nil))
    (pubx_cons (pusx_up (pus_setN 1 NN pn_dic0))
    (pubx_one (pusx_for (passes_of rfl) (pui3_enum T.enumerate (pu_var 0)) (pug_tup (pugs_cons 2 NN (pugs_cons 3 NN pugs_nil))) (pubx_cons (pusx_if (put_not (put_val (pu_call C_is_plot hr (by decide) (pua_cons (pu_var 1) (pua_cons (pu_var 3) pua_nil))))) (pubx_one (pusx_raiseAt (takes_of rfl rfl rfl rfl) C_BadPlots___init__ hr (by decide) (pu_var 2))) (pubx_up pub_nil))
    (pubx_up (pub_one (pus_sub (hu1 hr) (pn_flat pu_bl) (pul_name 1) (pu_ix (hu1 hr) (pu_var 3) pu_int)))))))))
theorem ok_is_whole {f : Addr} {fd : FuncData} (F : Fun K "is_whole" "is_whole" s_is_whole f fd) (T : Bm mg) (TC : Cm K cm) : FnOk P w K mg base CX0 1 f fd ["thing"] (spP K cm w f_is_whole) := by
  have key := @fn_pureF P w K mg base cm "is_whole" "is_whole" s_is_whole f fd N_is_whole ["thing"] 0 b_is_whole F sc_is_whole (by decide)
  refine key fun cdv A outer s H E hr => ?_
  have NN := sc_is_whole.nd
  exact (pub_one (pus_ret (pu_and (pu_isi .int T.isinstance T.int (by decide +kernel) (pu_var 0)) (pu_one (pu_not (pu_isi .bool T.isinstance T.bool (by decide +kernel) (pu_var 0)))))))
theorem ok_is_part {f : Addr} {fd : FuncData} (F : Fun K "is_part" "is_part" s_is_part f fd) (T : Bm mg) (k_MOST_NUMBER : ∃ t, mg "MOST_NUMBER" = some (.int 1000000000000000000 t)) (TC : Cm K cm) (C_is_name : CalP P w K mg base cm 1 "is_name" f_is_name) (C_is_whole : CalP P w K mg base cm 1 "is_whole" f_is_whole) : FnOk P w K mg base CX0 2 f fd ["form", "thing", "known", "many"] (spP K cm w f_is_part) := by
  have key := @fn_pureF P w K mg base cm "is_part" "is_part" s_is_part f fd N_is_part ["form", "thing", "known", "many"] 1 b_is_part F sc_is_part (by decide)
  refine key fun cdv A outer s H E hr => ?_
  have NN := sc_is_part.nd
  exact (pub_cons (pus_if (put_eq (hu64 hr) (pu_var 0) pu_str) (pub_one (pus_ret (pu_call C_is_name hr (by decide) (pua_cons (pu_var 1) pua_nil)))) pub_nil)
    (pub_cons (pus_if (put_eq (hu64 hr) (pu_var 0) pu_str) (pub_one (pus_ret (pu_and (pu_call C_is_name hr (by decide) (pua_cons (pu_var 1) pua_nil)) (pu_one (pu_in (hu65 hr) (pu_var 1) (pu_var 2)))))) pub_nil)
    (pub_cons (pus_if (put_eq (hu64 hr) (pu_var 0) pu_str) (pub_one (pus_ret (pu_and (pu_call C_is_whole hr (by decide) (pua_cons (pu_var 1) pua_nil)) (pu_one (pu_le (pu_abs T.abs (pua_cons (pu_var 1) pua_nil)) (pu_globI k_MOST_NUMBER)))))) pub_nil)
    (pub_one (pus_ret (pu_and (pu_call C_is_whole hr (by decide) (pua_cons (pu_var 1) pua_nil)) (pu_one (pu_chain (p := (fun i j => decide (i ≤ j))) (q := (fun i j => decide (i ≤ j))) op_le op_le pu_int (pu_var 1) (pu_var 3)))))))))
theorem ok_is_row {f : Addr} {fd : FuncData} (F : Fun K "is_row" "is_row" s_is_row f fd) (T : Bm mg) (kt_FORMS : KTabT K w mg "FORMS" tabT_FORMS) (TC : Cm K cm) (C_is_part : CalP P w K mg base cm 2 "is_part" f_is_part) : FnOk P w K mg base CX0 3 f fd ["row", "known", "many"] (spP K cm w f_is_row) := by
  have key := @fn_pureF P w K mg base cm "is_row" "is_row" s_is_row f fd N_is_row ["row", "known", "many"] 2 b_is_row F sc_is_row (by decide)
  refine key fun cdv A outer s H E hr => ?_
  have NN := sc_is_row.nd
  exact (pub_cons (pus_if (putw_or (put_not (put_val (pu_isi .tuple T.isinstance T.tuple (by decide +kernel) (pu_var 0)))) (putw_or (put_eq (hu64 hr) (pu_len T.len (pua_cons (pu_var 0) pua_nil)) pu_int) (putw_or (put_not (put_val (pu_isi .str T.isinstance T.str (by decide +kernel) (pu_ix (hu1 hr) (pu_var 0) pu_int)))) (putw_one_or (put_tnin kt_FORMS (pu_ix (hu1 hr) (pu_var 0) pu_int)))))).pt (pub_one (pus_ret pu_bl)) pub_nil)
    (pub_cons (pus_set 3 NN (pu_tix kt_FORMS (pu_ix (hu1 hr) (pu_var 0) pu_int)))
    (pub_cons (pus_if (put_ne (hu64 hr) (pu_len T.len (pua_cons (pu_var 0) pua_nil)) (pu_add pu_int (pu_len T.len (pua_cons (pu_var 3) pua_nil)))) (pub_one (pus_ret pu_bl)) pub_nil)
    (pub_cons (pus_dn (W := fun _ _ _ _ => False) (pusx_for PassesOwn.never (pui3_zip T.zip (pu_var 3) (pu_slN (pu_var 0) (puo_some pu_int) puo_none)) (pug_tup (pugs_cons 4 NN (pugs_cons 5 NN pugs_nil))) (pubx_up (pub_one (pus_if (put_not (put_val (pu_call C_is_part hr (by decide) (pua_cons (pu_var 4) (pua_cons (pu_var 5) (pua_cons (pu_var 1) (pua_cons (pu_var 2) pua_nil))))))) (pub_one (pus_ret pu_bl)) pub_nil)))))
    (pub_one (pus_ret pu_bl))))))
theorem ok_need {f : Addr} {fd : FuncData} (F : Fun K "need" "need" s_need f fd) (T : Bm mg) (k_MOST_ROWS : ∃ t, mg "MOST_ROWS" = some (.int 60 t)) (TC : Cm K cm) (C_need_plots : CalX P w K mg base cm 3 "need_plots" f_need_plots) (C_BadRows___init__ : MakX P w K mg base cm 1 2 "BadRows") (C_is_row : CalP P w K mg base cm 3 "is_row" f_is_row) : FnOk P w K mg base (L2.CX P w) 4 f fd ["plots", "rows"] (spX K cm w f_need) := by
  have key := @fn_excF P w K mg base cm "need" "need" s_need f fd N_need ["plots", "rows"] 3 b_need F sc_need (by decide)
  refine key fun cdv A outer s H E hr => ?_
  have NN := sc_need.nd
  exact (pubx_cons (pusx_ex (pux_call (takes_of rfl rfl rfl rfl) C_need_plots hr (by decide) (pua_cons (pu_var 0) pua_nil)))
    (pubx_cons (pusx_if (putw_or (put_not (put_val (pu_isi .list T.isinstance T.list (by decide +kernel) (pu_var 1)))) (putw_one_or (put_gt (pu_len T.len (pua_cons (pu_var 1) pua_nil)) (pu_globI k_MOST_ROWS)))).pt (pubx_one (pusx_raiseAt (takes_of rfl rfl rfl rfl) C_BadRows___init__ hr (by decide) pu_non)) (pubx_up pub_nil))
    (pubx_cons (pusx_up (pus_setN 2 NN pn_dic0))
    (pubx_cons (pusx_up (pus_for (pui_seq (pu_var 0)) (pug_name 3 NN) (pub_one (pus_sub (hu1 hr) (pn_flat pu_bl) (pul_name 2) (pu_ix (hu1 hr) (pu_var 3) pu_int))) (hp := passes_of rfl)))
    (pubx_cons (pusx_for (passes_of rfl) (pui3_enum T.enumerate (pu_var 1)) (pug_tup (pugs_cons 4 NN (pugs_cons 5 NN pugs_nil))) (pubx_one (pusx_if (put_not (put_val (pu_call C_is_row hr (by decide) (pua_cons (pu_var 5) (pua_cons (pu_var 2) (pua_cons (pu_len T.len (pua_cons (pu_var 1) pua_nil)) pua_nil)))))) (pubx_one (pusx_raiseAt (takes_of rfl rfl rfl rfl) C_BadRows___init__ hr (by decide) (pu_var 4))) (pubx_up pub_nil))))
    (pubx_up (pub_one (pus_ret pu_bl))))))))
theorem ok_need_run {f : Addr} {fd : FuncData} (F : Fun K "need_run" "need_run" s_need_run f fd) (T : Bm mg) (k_MOST_STEPS : ∃ t, mg "MOST_STEPS" = some (.int 1000000 t)) (R0_BadRun : MakX0 K mg cm 3 "BadRun") (TC : Cm K cm) (C_is_whole : CalP P w K mg base cm 1 "is_whole" f_is_whole) : FnOk P w K mg base (L2.CX P w) 2 f fd ["inputs", "steps"] (spX K cm w f_need_run) := by
  have key := @fn_excF P w K mg base cm "need_run" "need_run" s_need_run f fd N_need_run ["inputs", "steps"] 1 b_need_run F sc_need_run (by decide)
  refine key fun cdv A outer s H E hr => ?_
  have NN := sc_need_run.nd
  exact (pubx_cons (pusx_if (putw_or (put_not (put_val (pu_isi .list T.isinstance T.list (by decide +kernel) (pu_var 0)))) (putw_or (put_not (put_val (pu_call C_is_whole hr (by decide) (pua_cons (pu_var 1) pua_nil)))) (putw_one_or (put_not (put_chain (p := (fun i j => decide (i ≤ j))) (q := (fun i j => decide (i ≤ j))) op_le op_le pu_int (pu_var 1) (pu_globI k_MOST_STEPS)))))).pt (pubx_one (pusx_raise0 (takes_of rfl rfl rfl rfl) R0_BadRun)) (pubx_up pub_nil))
    (pubx_one (pusx_for (passes_of rfl) (pui3_of (pui_seq (pu_var 0))) (pug_name 2 NN) (pubx_one (pusx_if (put_not (put_val (pu_call C_is_whole hr (by decide) (pua_cons (pu_var 2) pua_nil)))) (pubx_one (pusx_raise0 (takes_of rfl rfl rfl rfl) R0_BadRun)) (pubx_up pub_nil))))))
theorem ok_row_at {f : Addr} {fd : FuncData} (F : Fun K "row_at" "row_at" s_row_at f fd) (T : Bm mg) (TC : Cm K cm) : FnOk P w K mg base CX0 1 f fd ["rows", "place"] (spP K cm w f_row_at) := by
  have key := @fn_pure P w K mg base cm "row_at" "row_at" s_row_at f fd N_row_at ["rows", "place"] 0 b_row_at F sc_row_at (by decide)
  refine key fun cdv A outer s H E hr => ?_
  have NN := sc_row_at.nd
  exact (pub_cons (pus_if (put_lt (pu_var 1) (pu_len T.len (pua_cons (pu_var 0) pua_nil))) (pub_one (pus_ret (pu_ix (hu1 hr) (pu_var 0) (pu_var 1)))) pub_nil)
    (pub_one (pus_ret (pu_tup (pua_cons pu_str pua_nil)))))
theorem ok_Store___init__ {f : Addr} {fd : FuncData} (F : Fun K "__init__" "Store.__init__" s_Store___init__ f fd) (T : Bm mg) (TC : Cm K cm) : FnOk P w K mg base CX0 1 f fd ["self", "plots"] (spC K cm w [true, false] f_Store___init__) := by
  have key := @fn_chg P w K mg base cm "__init__" "Store.__init__" s_Store___init__ f fd N_Store___init__ ["self", "plots"] 0 [true, false] b_Store___init__ F sc_Store___init__ (by decide) rfl
  refine key fun cdv A outer s H E hr => ?_
  have NN := sc_Store___init__.nd
  exact (pub_cons (pus_fldY 4 TC.c4 TC.a4_plots (puy_new (pn_lstc T.list (pua_cons (pu_var 1) pua_nil))) (pul_name 0))
    (pub_cons (pus_fldY 4 TC.c4 TC.a4_there (puy_new (pn_lst pns_nil)) (pul_name 0))
    (pub_cons (pus_fldY 4 TC.c4 TC.a4_worth (puy_new (pn_lst pns_nil)) (pul_name 0))
    (pub_cons (pus_fldY 4 TC.c4 TC.a4_held (puy_new pn_dic0) (pul_name 0))
    (pub_cons (pus_fldY 4 TC.c4 TC.a4_told (puy_new (pn_lst pns_nil)) (pul_name 0))
    (pub_cons (pus_fldY 4 TC.c4 TC.a4_opened (puy_new (pn_flat pu_int)) (pul_name 0))
    (pub_one (pus_fldY 4 TC.c4 TC.a4_given (puy_new (pn_lst pns_nil)) (pul_name 0)))))))))
theorem ok_Store_number_of {f : Addr} {fd : FuncData} (F : Fun K "number_of" "Store.number_of" s_Store_number_of f fd) (T : Bm mg) (TC : Cm K cm) : FnOk P w K mg base CX0 1 f fd ["self", "plot"] (spP K cm w f_Store_number_of) := by
  have key := @fn_pure P w K mg base cm "number_of" "Store.number_of" s_Store_number_of f fd N_Store_number_of ["self", "plot"] 0 b_Store_number_of F sc_Store_number_of (by decide)
  refine key fun cdv A outer s H E hr => ?_
  have NN := sc_Store_number_of.nd
  exact (pub_cons (pus_for (pui_seq (pu_fld 4 TC.c4 TC.a4_there (pu_var 0))) (pug_tup (pugs_cons 2 NN (pugs_cons 3 NN pugs_nil))) (pub_one (pus_if (put_eq (hu64 hr) (pu_var 2) (pu_var 1)) (pub_one (pus_ret (pu_var 3))) pub_nil)))
    (pub_one (pus_ret pu_non)))
theorem ok_Store_laid {f : Addr} {fd : FuncData} (F : Fun K "laid" "Store.laid" s_Store_laid f fd) (T : Bm mg) (TC : Cm K cm) (C_Store_number_of : MetP P w K mg base cm 1 4 "number_of" f_Store_number_of) : FnOk P w K mg base CX0 2 f fd ["self", "name", "plot", "worth"] (spC K cm w [true, false, false, false] f_Store_laid) := by
  have key := @fn_chg P w K mg base cm "laid" "Store.laid" s_Store_laid f fd N_Store_laid ["self", "name", "plot", "worth"] 1 [true, false, false, false] b_Store_laid F sc_Store_laid (by decide) rfl
  refine key fun cdv A outer s H E hr => ?_
  have NN := sc_Store_laid.nd
  exact (pub_cons (pus_set 4 NN (pu_meth _ C_Store_number_of hr (by decide) (pu_var 0) (pua_cons (pu_var 2) pua_nil)))
    (pub_cons (pus_if (put_isN (pu_var 4)) (pub_one (pus_ret pu_str)) pub_nil)
    (pub_cons (pus_app (pul_fld 4 TC.c4 TC.a4_worth (pul_name 0)) (pn_lst (pns_cons (pn_flat (pu_var 3)) (pns_cons (pn_flat (pu_var 4)) pns_nil))))
    (pub_cons (pus_sub (hu1 hr) (pn_flat (pu_sub (pu_len T.len (pua_cons (pu_fld 4 TC.c4 TC.a4_worth (pu_var 0)) pua_nil)) pu_int)) (pul_fld 4 TC.c4 TC.a4_held (pul_name 0)) (pu_var 1))
    (pub_one (pus_ret pu_str))))))
theorem ok_outward {f : Addr} {fd : FuncData} (F : Fun K "outward" "outward" s_outward f fd) (T : Bm mg) (TC : Cm K cm) : FnOk P w K mg base CX0 1 f fd ["plots", "plot"] (spP K cm w f_outward) := by
  have key := @fn_pure P w K mg base cm "outward" "outward" s_outward f fd N_outward ["plots", "plot"] 0 b_outward F sc_outward (by decide)
  refine key fun cdv A outer s H E hr => ?_
  have NN := sc_outward.nd
  exact (pub_cons (pus_setN 2 NN pn_dic0)
    (pub_cons (pus_for (pui_seq (pu_var 0)) (pug_tup (pugs_cons 3 NN (pugs_cons 4 NN pugs_nil))) (pub_one (pus_sub (hu1 hr) (pn_flat (pu_var 4)) (pul_name 2) (pu_var 3))))
    (pub_cons (pus_setN 5 NN (pn_lst pns_nil))
    (pub_cons (pus_while (put_notN (pu_var 1)) (pub_cons (pus_app (pul_name 5) (pn_flat (pu_var 1)))
    (pub_one (pus_set 1 NN (pu_ix (hu1 hr) (pu_var 2) (pu_var 1))))))
    (pub_one (pus_retOn 5))))))
theorem ok_Store_begun {f : Addr} {fd : FuncData} (F : Fun K "begun" "Store.begun" s_Store_begun f fd) (T : Bm mg) (TC : Cm K cm) (C_Store_number_of : MetP P w K mg base cm 1 4 "number_of" f_Store_number_of) (C_outward : CalP P w K mg base cm 1 "outward" f_outward) : FnOk P w K mg base CX0 2 f fd ["self", "plot"] (spC K cm w [true, false] f_Store_begun) := by
  have key := @fn_chg P w K mg base cm "begun" "Store.begun" s_Store_begun f fd N_Store_begun ["self", "plot"] 1 [true, false] b_Store_begun F sc_Store_begun (by decide) rfl
  refine key fun cdv A outer s H E hr => ?_
  have NN := sc_Store_begun.nd
  exact (pub_cons (pus_if (put_notN (pu_meth _ C_Store_number_of hr (by decide) (pu_var 0) (pua_cons (pu_var 1) pua_nil))) (pub_one (pus_ret pu_str)) pub_nil)
    (pub_cons (pus_set 2 NN (pu_sl (pu_call C_outward hr (by decide) (pua_cons (pu_fld 4 TC.c4 TC.a4_plots (pu_var 0)) (pua_cons (pu_var 1) pua_nil))) (puo_some pu_int) (puo_some pu_int)))
    (pub_cons (pus_if (putw_and (put_ne (hu64 hr) (pu_var 2) (pu_lst pua_nil)) (putw_one_and (put_isN (pu_meth _ C_Store_number_of hr (by decide) (pu_var 0) (pua_cons (pu_ix (hu1 hr) (pu_var 2) pu_int) pua_nil))))).pt (pub_one (pus_ret pu_str)) pub_nil)
    (pub_cons (pus_app (pul_fld 4 TC.c4 TC.a4_there (pul_name 0)) (pn_flat (pu_tup (pua_cons (pu_var 1) (pua_cons (pu_fld 4 TC.c4 TC.a4_opened (pu_var 0)) pua_nil)))))
    (pub_cons (pus_fldA 4 TC.c4 TC.a4_opened pu_int (pul_name 0))
    (pub_one (pus_ret pu_str)))))))
theorem ok_Store_lack {f : Addr} {fd : FuncData} (F : Fun K "lack" "Store.lack" s_Store_lack f fd) (T : Bm mg) (TC : Cm K cm) : FnOk P w K mg base CX0 1 f fd ["self", "name"] (spP K cm w f_Store_lack) := by
  have key := @fn_pure P w K mg base cm "lack" "Store.lack" s_Store_lack f fd N_Store_lack ["self", "name"] 0 b_Store_lack F sc_Store_lack (by decide)
  refine key fun cdv A outer s H E hr => ?_
  have NN := sc_Store_lack.nd
  exact (pub_cons (pus_if (put_nin (hu65 hr) (pu_var 1) (pu_fld 4 TC.c4 TC.a4_held (pu_var 0))) (pub_one (pus_ret pu_str)) pub_nil)
    (pub_cons (pus_for (pui_seq (pu_fld 4 TC.c4 TC.a4_there (pu_var 0))) (pug_tup (pugs_cons 2 NN (pugs_cons 3 NN pugs_nil))) (pub_one (pus_if (put_eq (hu64 hr) (pu_var 3) (pu_ix (hu1 hr) (pu_ix (hu1 hr) (pu_fld 4 TC.c4 TC.a4_worth (pu_var 0)) (pu_ix (hu1 hr) (pu_fld 4 TC.c4 TC.a4_held (pu_var 0)) (pu_var 1))) pu_int)) (pub_one (pus_ret pu_str)) pub_nil)))
    (pub_one (pus_ret pu_str))))
theorem ok_Store_worth_of {f : Addr} {fd : FuncData} (F : Fun K "worth_of" "Store.worth_of" s_Store_worth_of f fd) (T : Bm mg) (TC : Cm K cm) : FnOk P w K mg base CX0 1 f fd ["self", "name"] (spP K cm w f_Store_worth_of) := by
  have key := @fn_pure P w K mg base cm "worth_of" "Store.worth_of" s_Store_worth_of f fd N_Store_worth_of ["self", "name"] 0 b_Store_worth_of F sc_Store_worth_of (by decide)
  refine key fun cdv A outer s H E hr => ?_
  have NN := sc_Store_worth_of.nd
  exact (pub_one (pus_ret (pu_ix (hu1 hr) (pu_ix (hu1 hr) (pu_fld 4 TC.c4 TC.a4_worth (pu_var 0)) (pu_ix (hu1 hr) (pu_fld 4 TC.c4 TC.a4_held (pu_var 0)) (pu_var 1))) pu_int)))
theorem ok_Store_copied {f : Addr} {fd : FuncData} (F : Fun K "copied" "Store.copied" s_Store_copied f fd) (T : Bm mg) (TC : Cm K cm) (C_Store_lack : MetP P w K mg base cm 1 4 "lack" f_Store_lack) (C_Store_laid : MetC P w K mg base cm 2 4 "laid" [true, false, false, false] f_Store_laid) (C_Store_worth_of : MetP P w K mg base cm 1 4 "worth_of" f_Store_worth_of) : FnOk P w K mg base CX0 3 f fd ["self", "name", "other", "plot"] (spC K cm w [true, false, false, false] f_Store_copied) := by
  have key := @fn_chg P w K mg base cm "copied" "Store.copied" s_Store_copied f fd N_Store_copied ["self", "name", "other", "plot"] 2 [true, false, false, false] b_Store_copied F sc_Store_copied (by decide) rfl
  refine key fun cdv A outer s H E hr => ?_
  have NN := sc_Store_copied.nd
  exact (pub_cons (pus_set 4 NN (pu_meth _ C_Store_lack hr (by decide) (pu_var 0) (pua_cons (pu_var 2) pua_nil)))
    (pub_cons (pus_if (put_ne (hu64 hr) (pu_var 4) pu_str) (pub_one (pus_ret (pu_var 4))) pub_nil)
    (pub_one (pus_retM (pum_meth 0 _ C_Store_laid hr (by decide) (puc_rd (pu_var 1) (puc_rd (pu_var 3) (puc_rd (pu_meth _ C_Store_worth_of hr (by decide) (pu_var 0) (pua_cons (pu_var 2) pua_nil)) puc_nil))))))))
theorem ok_Store_shared {f : Addr} {fd : FuncData} (F : Fun K "shared" "Store.shared" s_Store_shared f fd) (T : Bm mg) (TC : Cm K cm) : FnOk P w K mg base CX0 1 f fd ["self", "name", "other"] (spC K cm w [true, false, false] f_Store_shared) := by
  have key := @fn_chg P w K mg base cm "shared" "Store.shared" s_Store_shared f fd N_Store_shared ["self", "name", "other"] 0 [true, false, false] b_Store_shared F sc_Store_shared (by decide) rfl
  refine key fun cdv A outer s H E hr => ?_
  have NN := sc_Store_shared.nd
  exact (pub_cons (pus_if (put_nin (hu65 hr) (pu_var 2) (pu_fld 4 TC.c4 TC.a4_held (pu_var 0))) (pub_one (pus_ret pu_str)) pub_nil)
    (pub_cons (pus_sub (hu1 hr) (pn_flat (pu_ix (hu1 hr) (pu_fld 4 TC.c4 TC.a4_held (pu_var 0)) (pu_var 2))) (pul_fld 4 TC.c4 TC.a4_held (pul_name 0)) (pu_var 1))
    (pub_one (pus_ret pu_str))))
theorem ok_Store_grown {f : Addr} {fd : FuncData} (F : Fun K "grown" "Store.grown" s_Store_grown f fd) (T : Bm mg) (TC : Cm K cm) (C_Store_lack : MetP P w K mg base cm 1 4 "lack" f_Store_lack) (C_Store_worth_of : MetP P w K mg base cm 1 4 "worth_of" f_Store_worth_of) : FnOk P w K mg base CX0 2 f fd ["self", "name", "other"] (spC K cm w [true, false, false] f_Store_grown) := by
  have key := @fn_chg P w K mg base cm "grown" "Store.grown" s_Store_grown f fd N_Store_grown ["self", "name", "other"] 1 [true, false, false] b_Store_grown F sc_Store_grown (by decide) rfl
  refine key fun cdv A outer s H E hr => ?_
  have NN := sc_Store_grown.nd
  exact (pub_cons (pus_for (pui_seq (pu_tup (pua_cons (pu_var 1) (pua_cons (pu_var 2) pua_nil)))) (pug_name 3 NN) (pub_cons (pus_set 4 NN (pu_meth _ C_Store_lack hr (by decide) (pu_var 0) (pua_cons (pu_var 3) pua_nil)))
    (pub_one (pus_if (put_ne (hu64 hr) (pu_var 4) pu_str) (pub_one (pus_ret (pu_var 4))) pub_nil))))
    (pub_cons (pus_augP (hu1 hr) (pul_ix (hu1 hr) (pul_fld 4 TC.c4 TC.a4_worth (pul_name 0)) (pu_ix (hu1 hr) (pu_fld 4 TC.c4 TC.a4_held (pu_var 0)) (pu_var 1))) pu_int (pu_meth _ C_Store_worth_of hr (by decide) (pu_var 0) (pua_cons (pu_var 2) pua_nil)))
    (pub_one (pus_ret pu_str))))
theorem ok_Store_said {f : Addr} {fd : FuncData} (F : Fun K "said" "Store.said" s_Store_said f fd) (T : Bm mg) (TC : Cm K cm) (C_Store_lack : MetP P w K mg base cm 1 4 "lack" f_Store_lack) (C_Store_worth_of : MetP P w K mg base cm 1 4 "worth_of" f_Store_worth_of) : FnOk P w K mg base CX0 2 f fd ["self", "name"] (spC K cm w [true, false] f_Store_said) := by
  have key := @fn_chg P w K mg base cm "said" "Store.said" s_Store_said f fd N_Store_said ["self", "name"] 1 [true, false] b_Store_said F sc_Store_said (by decide) rfl
  refine key fun cdv A outer s H E hr => ?_
  have NN := sc_Store_said.nd
  exact (pub_cons (pus_set 2 NN (pu_meth _ C_Store_lack hr (by decide) (pu_var 0) (pua_cons (pu_var 1) pua_nil)))
    (pub_cons (pus_if (put_eq (hu64 hr) (pu_var 2) pu_str) (pub_one (pus_app (pul_fld 4 TC.c4 TC.a4_told (pul_name 0)) (pn_flat (pu_meth _ C_Store_worth_of hr (by decide) (pu_var 0) (pua_cons (pu_var 1) pua_nil))))) pub_nil)
    (pub_one (pus_ret (pu_var 2)))))
theorem ok_Store_gone {f : Addr} {fd : FuncData} (F : Fun K "gone" "Store.gone" s_Store_gone f fd) (T : Bm mg) (TC : Cm K cm) (C_Store_number_of : MetP P w K mg base cm 1 4 "number_of" f_Store_number_of) (C_outward : CalP P w K mg base cm 1 "outward" f_outward) : FnOk P w K mg base CX0 2 f fd ["self", "plot"] (spC K cm w [true, false] f_Store_gone) := by
  have key := @fn_chg P w K mg base cm "gone" "Store.gone" s_Store_gone f fd N_Store_gone ["self", "plot"] 1 [true, false] b_Store_gone F sc_Store_gone (by decide) rfl
  refine key fun cdv A outer s H E hr => ?_
  have NN := sc_Store_gone.nd
  exact (pub_cons (pus_if (put_isN (pu_meth _ C_Store_number_of hr (by decide) (pu_var 0) (pua_cons (pu_var 1) pua_nil))) (pub_one (pus_ret pu_str)) pub_nil)
    (pub_cons (pus_setN 2 NN (pn_lst pns_nil))
    (pub_cons (pus_setN 3 NN (pn_lst pns_nil))
    (pub_cons (pus_lock 0 (pus_for (pui_seq (pu_fld 4 TC.c4 TC.a4_there (pu_var 0))) (pug_tup (pugs_cons 4 NN (pugs_cons 5 NN pugs_nil))) (pub_one (pus_if (put_in (hu65 hr) (pu_var 1) (pu_call C_outward hr (by decide) (pua_cons (pu_fld 4 TC.c4 TC.a4_plots (pu_var 0)) (pua_cons (pu_var 4) pua_nil)))) (pub_one (pus_app (pul_name 3) (pn_flat (pu_var 5)))) (pub_one (pus_app (pul_name 2) (pn_flat (pu_tup (pua_cons (pu_var 4) (pua_cons (pu_var 5) pua_nil))))))))))
    (pub_cons (pus_fldY 4 TC.c4 TC.a4_there (puy_mv 2) (pul_name 0))
    (pub_cons (pus_ext (pul_fld 4 TC.c4 TC.a4_given (pul_name 0)) (pu_rev (pu_var 3)))
    (pub_one (pus_ret pu_str))))))))
theorem ok_Store_do {f : Addr} {fd : FuncData} (F : Fun K "do" "Store.do" s_Store_do f fd) (T : Bm mg) (TC : Cm K cm) (C_Store_begun : MetC P w K mg base cm 2 4 "begun" [true, false] f_Store_begun) (C_Store_laid : MetC P w K mg base cm 2 4 "laid" [true, false, false, false] f_Store_laid) (C_Store_copied : MetC P w K mg base cm 3 4 "copied" [true, false, false, false] f_Store_copied) (C_Store_shared : MetC P w K mg base cm 1 4 "shared" [true, false, false] f_Store_shared) (C_Store_grown : MetC P w K mg base cm 2 4 "grown" [true, false, false] f_Store_grown) (C_Store_said : MetC P w K mg base cm 2 4 "said" [true, false] f_Store_said) (C_Store_gone : MetC P w K mg base cm 2 4 "gone" [true, false] f_Store_gone) : FnOk P w K mg base CX0 4 f fd ["self", "row"] (spC K cm w [true, false] f_Store_do) := by
  have key := @fn_chg P w K mg base cm "do" "Store.do" s_Store_do f fd N_Store_do ["self", "row"] 3 [true, false] b_Store_do F sc_Store_do (by decide) rfl
  refine key fun cdv A outer s H E hr => ?_
  have NN := sc_Store_do.nd
  exact (pub_cons (pus_set 2 NN (pu_ix (hu1 hr) (pu_var 1) pu_int))
    (pub_cons (pus_if (put_eq (hu64 hr) (pu_var 2) pu_str) (pub_one (pus_retM (pum_meth 0 _ C_Store_begun hr (by decide) (puc_rd (pu_ix (hu1 hr) (pu_var 1) pu_int) puc_nil)))) pub_nil)
    (pub_cons (pus_if (put_eq (hu64 hr) (pu_var 2) pu_str) (pub_one (pus_retM (pum_meth 0 _ C_Store_laid hr (by decide) (puc_rd (pu_ix (hu1 hr) (pu_var 1) pu_int) (puc_rd (pu_ix (hu1 hr) (pu_var 1) pu_int) (puc_rd (pu_ix (hu1 hr) (pu_var 1) pu_int) puc_nil)))))) pub_nil)
    (pub_cons (pus_if (put_eq (hu64 hr) (pu_var 2) pu_str) (pub_one (pus_retM (pum_meth 0 _ C_Store_copied hr (by decide) (puc_rd (pu_ix (hu1 hr) (pu_var 1) pu_int) (puc_rd (pu_ix (hu1 hr) (pu_var 1) pu_int) (puc_rd (pu_ix (hu1 hr) (pu_var 1) pu_int) puc_nil)))))) pub_nil)
    (pub_cons (pus_if (put_eq (hu64 hr) (pu_var 2) pu_str) (pub_one (pus_retM (pum_meth 0 _ C_Store_shared hr (by decide) (puc_rd (pu_ix (hu1 hr) (pu_var 1) pu_int) (puc_rd (pu_ix (hu1 hr) (pu_var 1) pu_int) puc_nil))))) pub_nil)
    (pub_cons (pus_if (put_eq (hu64 hr) (pu_var 2) pu_str) (pub_one (pus_retM (pum_meth 0 _ C_Store_grown hr (by decide) (puc_rd (pu_ix (hu1 hr) (pu_var 1) pu_int) (puc_rd (pu_ix (hu1 hr) (pu_var 1) pu_int) puc_nil))))) pub_nil)
    (pub_cons (pus_if (put_eq (hu64 hr) (pu_var 2) pu_str) (pub_one (pus_retM (pum_meth 0 _ C_Store_said hr (by decide) (puc_rd (pu_ix (hu1 hr) (pu_var 1) pu_int) puc_nil)))) pub_nil)
    (pub_cons (pus_if (put_eq (hu64 hr) (pu_var 2) pu_str) (pub_one (pus_retM (pum_meth 0 _ C_Store_gone hr (by decide) (puc_rd (pu_ix (hu1 hr) (pu_var 1) pu_int) puc_nil)))) pub_nil)
    (pub_cons (pus_if (put_ne (hu64 hr) (pu_fld 4 TC.c4 TC.a4_there (pu_var 0)) (pu_lst pua_nil)) (pub_one (pus_ret pu_str)) pub_nil)
    (pub_one (pus_ret pu_str)))))))))))
theorem ok_Outcome___init__ {f : Addr} {fd : FuncData} (F : Fun K "__init__" "Outcome.__init__" s_Outcome___init__ f fd) (T : Bm mg) (TC : Cm K cm) : FnOk P w K mg base CX0 1 f fd ["self", "end", "row", "steps", "store"] (spI K cm w 5 f_Outcome___init__) := by
  have key := @fn_init P w K mg base cm "__init__" "Outcome.__init__" s_Outcome___init__ f fd N_Outcome___init__ ["self", "end", "row", "steps", "store"] 0 5 b_Outcome___init__ F sc_Outcome___init__ (by decide)
  refine key fun cdv A outer s H E hr => ?_
  exact (puks_cons (puk_par 0 TC.c5 TC.a5_end) (puks_cons (puk_par 1 TC.c5 TC.a5_row) (puks_cons (puk_par 2 TC.c5 TC.a5_steps) (puks_cons (puk_fld 3 4 TC.c5 TC.a5_told TC.c4 TC.a4_told) (puks_cons (puk_fld 3 4 TC.c5 TC.a5_opened TC.c4 TC.a4_opened) (puks_one (puk_fld 3 4 TC.c5 TC.a5_given TC.c4 TC.a4_given)))))))
theorem ok_run {f : Addr} {fd : FuncData} (F : Fun K "run" "run" s_run f fd) (T : Bm mg) (TC : Cm K cm) (C_need : CalX P w K mg base cm 4 "need" f_need) (C_need_run : CalX P w K mg base cm 2 "need_run" f_need_run) (C_Store___init__ : MakC P w K mg base cm 1 4 "Store" [true, false] f_Store___init__) (C_row_at : CalP P w K mg base cm 1 "row_at" f_row_at) (C_Store_do : MetC P w K mg base cm 4 4 "do" [true, false] f_Store_do) (C_Outcome___init__ : MakI P w K mg base cm 1 5 "Outcome" f_Outcome___init__) : FnOk P w K mg base (L2.CX P w) 5 f fd ["plots", "rows", "inputs", "steps"] (spX K cm w f_run) := by
  have key := @fn_exc P w K mg base cm "run" "run" s_run f fd N_run ["plots", "rows", "inputs", "steps"] 4 b_run F sc_run (by decide)
  refine key fun cdv A outer s H E hr => ?_
  have NN := sc_run.nd
  exact (pubx_cons (pusx_ex (pux_call (takes_of rfl rfl rfl rfl) C_need hr (by decide) (pua_cons (pu_var 0) (pua_cons (pu_var 1) pua_nil))))
    (pubx_cons (pusx_ex (pux_call (takes_of rfl rfl rfl rfl) C_need_run hr (by decide) (pua_cons (pu_var 2) (pua_cons (pu_var 3) pua_nil))))
    (pubx_up (pub_cons (pus_setN 4 NN (pn_make C_Store___init__ hr (by decide) (pua_cons (pu_var 0) pua_nil)))
    (pub_cons (pus_set 5 NN pu_int)
    (pub_cons (pus_set 6 NN pu_int)
    (pub_cons (pus_set 7 NN pu_int)
    (pub_cons (pus_while (put_lt (pu_var 7) (pu_var 3)) (pub_cons (pus_set 8 NN (pu_call C_row_at hr (by decide) (pua_cons (pu_var 1) (pua_cons (pu_var 5) pua_nil))))
    (pub_cons (pus_augadd 7 NN pu_int)
    (pub_one (pus_if (put_eq (hu64 hr) (pu_ix (hu1 hr) (pu_var 8) pu_int) pu_str) (pub_one (pus_set 5 NN (pu_ix (hu1 hr) (pu_var 8) pu_int))) (pub_one (pus_if (put_eq (hu64 hr) (pu_ix (hu1 hr) (pu_var 8) pu_int) pu_str) (pub_cons (pus_augadd 6 NN pu_int)
    (pub_one (pus_if (putw_and (put_le (pu_var 6) (pu_len T.len (pua_cons (pu_var 2) pua_nil))) (putw_one_and (put_ne (hu64 hr) (pu_ix (hu1 hr) (pu_var 2) (pu_sub (pu_var 6) pu_int)) pu_int))).pt (pub_one (pus_set 5 NN (pu_ix (hu1 hr) (pu_var 8) pu_int))) (pub_one (pus_augadd 5 NN pu_int))))) (pub_cons (pus_setM 9 NN (pum_meth 4 _ C_Store_do hr (by decide) (puc_rd (pu_var 8) puc_nil)))
    (pub_cons (pus_if (put_ne (hu64 hr) (pu_var 9) pu_str) (pub_froz 4 (pub_one (pus_ret (pu_makeI C_Outcome___init__ hr (by decide) (pua_cons (pu_var 9) (pua_cons (pu_var 5) (pua_cons (pu_var 7) (pua_cons (pu_var 4) pua_nil)))))))) pub_nil)
    (pub_cons (pus_if (put_eq (hu64 hr) (pu_ix (hu1 hr) (pu_var 8) pu_int) pu_str) (pub_froz 4 (pub_one (pus_ret (pu_makeI C_Outcome___init__ hr (by decide) (pua_cons pu_str (pua_cons (pu_var 5) (pua_cons (pu_var 7) (pua_cons (pu_var 4) pua_nil)))))))) pub_nil)
    (pub_one (pus_augadd 5 NN pu_int))))))))))) (hp := passes_of rfl))
    (pub_froz 4 (pub_one (pus_ret (pu_makeI C_Outcome___init__ hr (by decide) (pua_cons pu_str (pua_cons (pu_var 5) (pua_cons (pu_var 7) (pua_cons (pu_var 4) pua_nil))))))))))))))))
theorem ok_Field___init__ {f : Addr} {fd : FuncData} (F : Fun K "__init__" "Field.__init__" s_Field___init__ f fd) (T : Bm mg) (TC : Cm K cm) (C_outward : CalP P w K mg base cm 1 "outward" f_outward) : FnOk P w K mg base CX0 2 f fd ["self", "plots"] (spC K cm w [true, false] f_Field___init__) := by
  have key := @fn_chg P w K mg base cm "__init__" "Field.__init__" s_Field___init__ f fd N_Field___init__ ["self", "plots"] 1 [true, false] b_Field___init__ F sc_Field___init__ (by decide) rfl
  refine key fun cdv A outer s H E hr => ?_
  have NN := sc_Field___init__.nd
  exact (pub_cons (pus_fldY 6 TC.c6 TC.a6_cells (puy_new (pn_lst pns_nil)) (pul_name 0))
    (pub_cons (pus_fldY 6 TC.c6 TC.a6_spare (puy_new (pn_lst pns_nil)) (pul_name 0))
    (pub_cons (pus_fldY 6 TC.c6 TC.a6_held (puy_new pn_dic0) (pul_name 0))
    (pub_cons (pus_fldY 6 TC.c6 TC.a6_under (puy_new pn_dic0) (pul_name 0))
    (pub_cons (pus_fldY 6 TC.c6 TC.a6_mine (puy_new pn_dic0) (pul_name 0))
    (pub_one (pus_for (pui_seq (pu_var 1)) (pug_tup (pugs_cons 2 NN (pugs_cons 3 NN pugs_nil))) (pub_cons (pus_sub (hu1 hr) (pn_lst pns_nil) (pul_fld 6 TC.c6 TC.a6_mine (pul_name 0)) (pu_var 2))
    (pub_one (pus_for (pui_seq (pu_call C_outward hr (by decide) (pua_cons (pu_var 1) (pua_cons (pu_var 2) pua_nil)))) (pug_name 4 NN) (pub_one (pus_sdApp (pul_fld 6 TC.c6 TC.a6_under (pul_name 0)) (pu_var 4) (pn_flat (pu_var 2))))))))))))))
theorem ok_Field_lay {f : Addr} {fd : FuncData} (F : Fun K "lay" "Field.lay" s_Field_lay f fd) (T : Bm mg) (TC : Cm K cm) : FnOk P w K mg base CX0 1 f fd ["self", "name", "plot", "worth"] (spC K cm w [true, false, false, false] f_Field_lay) := by
  have key := @fn_chg P w K mg base cm "lay" "Field.lay" s_Field_lay f fd N_Field_lay ["self", "name", "plot", "worth"] 0 [true, false, false, false] b_Field_lay F sc_Field_lay (by decide) rfl
  refine key fun cdv A outer s H E hr => ?_
  have NN := sc_Field_lay.nd
  exact (pub_cons (pus_if (put_ne (hu64 hr) (pu_fld 6 TC.c6 TC.a6_spare (pu_var 0)) (pu_lst pua_nil)) (pub_cons (pus_pop 4 NN (pul_fld 6 TC.c6 TC.a6_spare (pul_name 0)))
    (pub_one (pus_sub (hu1 hr) (pn_flat (pu_var 3)) (pul_fld 6 TC.c6 TC.a6_cells (pul_name 0)) (pu_var 4)))) (pub_cons (pus_set 4 NN (pu_len T.len (pua_cons (pu_fld 6 TC.c6 TC.a6_cells (pu_var 0)) pua_nil)))
    (pub_one (pus_app (pul_fld 6 TC.c6 TC.a6_cells (pul_name 0)) (pn_flat (pu_var 3))))))
    (pub_cons (pus_app (pul_ix (hu1 hr) (pul_fld 6 TC.c6 TC.a6_mine (pul_name 0)) (pu_var 2)) (pn_flat (pu_var 4)))
    (pub_one (pus_sub (hu1 hr) (pn_flat (pu_var 4)) (pul_fld 6 TC.c6 TC.a6_held (pul_name 0)) (pu_var 1)))))
theorem ok_Field_give {f : Addr} {fd : FuncData} (F : Fun K "give" "Field.give" s_Field_give f fd) (T : Bm mg) (TC : Cm K cm) : FnOk P w K mg base CX0 1 f fd ["self", "plot"] (spC K cm w [true, false] f_Field_give) := by
  have key := @fn_chg P w K mg base cm "give" "Field.give" s_Field_give f fd N_Field_give ["self", "plot"] 0 [true, false] b_Field_give F sc_Field_give (by decide) rfl
  refine key fun cdv A outer s H E hr => ?_
  have NN := sc_Field_give.nd
  exact (pub_one (pus_forP (pul_ix (hu1 hr) (pul_fld 6 TC.c6 TC.a6_under (pul_name 0)) (pu_var 1)) (pug_name 2 NN) (pub_cons (pus_ext (pul_fld 6 TC.c6 TC.a6_spare (pul_name 0)) (pu_ix (hu1 hr) (pu_fld 6 TC.c6 TC.a6_mine (pu_var 0)) (pu_var 2)))
    (pub_one (pus_sub (hu1 hr) (pn_lst pns_nil) (pul_fld 6 TC.c6 TC.a6_mine (pul_name 0)) (pu_var 2))))))
theorem ok_Field_do {f : Addr} {fd : FuncData} (F : Fun K "do" "Field.do" s_Field_do f fd) (T : Bm mg) (TC : Cm K cm) (C_Field_lay : MetC P w K mg base cm 1 6 "lay" [true, false, false, false] f_Field_lay) (C_Field_give : MetC P w K mg base cm 1 6 "give" [true, false] f_Field_give) : FnOk P w K mg base CX0 2 f fd ["self", "row", "told"] (spC K cm w [true, false, true] f_Field_do) := by
  have key := @fn_chg P w K mg base cm "do" "Field.do" s_Field_do f fd N_Field_do ["self", "row", "told"] 1 [true, false, true] b_Field_do F sc_Field_do (by decide) rfl
  refine key fun cdv A outer s H E hr => ?_
  have NN := sc_Field_do.nd
  exact (pub_cons (pus_set 3 NN (pu_ix (hu1 hr) (pu_var 1) pu_int))
    (pub_one (pus_if (put_eq (hu64 hr) (pu_var 3) pu_str) (pub_one (pus_exM (pum_meth 0 _ C_Field_lay hr (by decide) (puc_rd (pu_ix (hu1 hr) (pu_var 1) pu_int) (puc_rd (pu_ix (hu1 hr) (pu_var 1) pu_int) (puc_rd (pu_ix (hu1 hr) (pu_var 1) pu_int) puc_nil)))))) (pub_one (pus_if (put_eq (hu64 hr) (pu_var 3) pu_str) (pub_one (pus_exM (pum_meth 0 _ C_Field_lay hr (by decide) (puc_rd (pu_ix (hu1 hr) (pu_var 1) pu_int) (puc_rd (pu_ix (hu1 hr) (pu_var 1) pu_int) (puc_rd (pu_ix (hu1 hr) (pu_fld 6 TC.c6 TC.a6_cells (pu_var 0)) (pu_ix (hu1 hr) (pu_fld 6 TC.c6 TC.a6_held (pu_var 0)) (pu_ix (hu1 hr) (pu_var 1) pu_int))) puc_nil)))))) (pub_one (pus_if (put_eq (hu64 hr) (pu_var 3) pu_str) (pub_one (pus_sub (hu1 hr) (pn_flat (pu_ix (hu1 hr) (pu_fld 6 TC.c6 TC.a6_held (pu_var 0)) (pu_ix (hu1 hr) (pu_var 1) pu_int))) (pul_fld 6 TC.c6 TC.a6_held (pul_name 0)) (pu_ix (hu1 hr) (pu_var 1) pu_int))) (pub_one (pus_if (put_eq (hu64 hr) (pu_var 3) pu_str) (pub_one (pus_augP (hu1 hr) (pul_fld 6 TC.c6 TC.a6_cells (pul_name 0)) (pu_ix (hu1 hr) (pu_fld 6 TC.c6 TC.a6_held (pu_var 0)) (pu_ix (hu1 hr) (pu_var 1) pu_int)) (pu_ix (hu1 hr) (pu_fld 6 TC.c6 TC.a6_cells (pu_var 0)) (pu_ix (hu1 hr) (pu_fld 6 TC.c6 TC.a6_held (pu_var 0)) (pu_ix (hu1 hr) (pu_var 1) pu_int))))) (pub_one (pus_if (put_eq (hu64 hr) (pu_var 3) pu_str) (pub_one (pus_app (pul_name 2) (pn_flat (pu_ix (hu1 hr) (pu_fld 6 TC.c6 TC.a6_cells (pu_var 0)) (pu_ix (hu1 hr) (pu_fld 6 TC.c6 TC.a6_held (pu_var 0)) (pu_ix (hu1 hr) (pu_var 1) pu_int)))))) (pub_one (pus_if (put_eq (hu64 hr) (pu_var 3) pu_str) (pub_one (pus_exM (pum_meth 0 _ C_Field_give hr (by decide) (puc_rd (pu_ix (hu1 hr) (pu_var 1) pu_int) puc_nil)))) pub_nil)))))))))))))
theorem ok_bare {f : Addr} {fd : FuncData} (F : Fun K "bare" "bare" s_bare f fd) (T : Bm mg) (TC : Cm K cm) (C_need : CalX P w K mg base cm 4 "need" f_need) (C_need_run : CalX P w K mg base cm 2 "need_run" f_need_run) (C_Field___init__ : MakC P w K mg base cm 2 6 "Field" [true, false] f_Field___init__) (C_row_at : CalP P w K mg base cm 1 "row_at" f_row_at) (C_Field_do : MetC P w K mg base cm 2 6 "do" [true, false, true] f_Field_do) : FnOk P w K mg base (L2.CX P w) 5 f fd ["plots", "rows", "inputs", "steps"] (spX K cm w f_bare) := by
  have key := @fn_exc P w K mg base cm "bare" "bare" s_bare f fd N_bare ["plots", "rows", "inputs", "steps"] 4 b_bare F sc_bare (by decide)
  refine key fun cdv A outer s H E hr => ?_
  have NN := sc_bare.nd
  exact (pubx_cons (pusx_ex (pux_call (takes_of rfl rfl rfl rfl) C_need hr (by decide) (pua_cons (pu_var 0) (pua_cons (pu_var 1) pua_nil))))
    (pubx_cons (pusx_ex (pux_call (takes_of rfl rfl rfl rfl) C_need_run hr (by decide) (pua_cons (pu_var 2) (pua_cons (pu_var 3) pua_nil))))
    (pubx_up (pub_cons (pus_setN 4 NN (pn_make C_Field___init__ hr (by decide) (pua_cons (pu_var 0) pua_nil)))
    (pub_cons (pus_setN 5 NN (pn_lst pns_nil))
    (pub_cons (pus_set 6 NN pu_int)
    (pub_cons (pus_set 7 NN pu_int)
    (pub_cons (pus_for (pui_range T.range (pu_var 3)) (pug_name 8 NN) (pub_cons (pus_set 9 NN (pu_call C_row_at hr (by decide) (pua_cons (pu_var 1) (pua_cons (pu_var 6) pua_nil))))
    (pub_cons (pus_if (put_eq (hu64 hr) (pu_ix (hu1 hr) (pu_var 9) pu_int) pu_str) (pub_one pus_break) pub_nil)
    (pub_one (pus_if (put_eq (hu64 hr) (pu_ix (hu1 hr) (pu_var 9) pu_int) pu_str) (pub_one (pus_set 6 NN (pu_ix (hu1 hr) (pu_var 9) pu_int))) (pub_one (pus_if (put_eq (hu64 hr) (pu_ix (hu1 hr) (pu_var 9) pu_int) pu_str) (pub_cons (pus_augadd 7 NN pu_int)
    (pub_one (pus_if (putw_and (put_le (pu_var 7) (pu_len T.len (pua_cons (pu_var 2) pua_nil))) (putw_one_and (put_ne (hu64 hr) (pu_ix (hu1 hr) (pu_var 2) (pu_sub (pu_var 7) pu_int)) pu_int))).pt (pub_one (pus_set 6 NN (pu_ix (hu1 hr) (pu_var 9) pu_int))) (pub_one (pus_augadd 6 NN pu_int))))) (pub_cons (pus_exM (pum_meth 4 _ C_Field_do hr (by decide) (puc_rd (pu_var 9) (puc_own 5 puc_nil))))
    (pub_one (pus_augadd 6 NN pu_int))))))))) (hp := passes_of rfl))
    (pub_froz 5 (pub_one (pus_ret (pu_tup (pua_cons (pu_var 5) (pua_cons (pu_len T.len (pua_cons (pu_fld 6 TC.c6 TC.a6_cells (pu_var 4)) pua_nil)) pua_nil))))))))))))))
theorem ok_Wrong___init__ {f : Addr} {fd : FuncData} (F : Fun K "__init__" "Wrong.__init__" s_Wrong___init__ f fd) (T : Bm mg) (TC : Cm K cm) : FnOk P w K mg base CX0 1 f fd ["self", "choices", "outcome"] (spI K cm w 7 f_Wrong___init__) := by
  have key := @fn_init P w K mg base cm "__init__" "Wrong.__init__" s_Wrong___init__ f fd N_Wrong___init__ ["self", "choices", "outcome"] 0 7 b_Wrong___init__ F sc_Wrong___init__ (by decide)
  refine key fun cdv A outer s H E hr => ?_
  exact (puks_cons (puk_par 0 TC.c7 TC.a7_choices) (puks_cons (puk_fld 1 5 TC.c7 TC.a7_row TC.c5 TC.a5_row) (puks_cons (puk_fld 1 5 TC.c7 TC.a7_word TC.c5 TC.a5_end) (puks_one (puk_fld 1 5 TC.c7 TC.a7_steps TC.c5 TC.a5_steps)))))
theorem ok_at_first {f : Addr} {fd : FuncData} (F : Fun K "at_first" "at_first" s_at_first f fd) (T : Bm mg) (k_NAMED : KTab K w mg "NAMED" tab_NAMED) (TC : Cm K cm) : FnOk P w K mg base CX0 1 f fd ["plots", "rows"] (spP K cm w f_at_first) := by
  have key := @fn_pure P w K mg base cm "at_first" "at_first" s_at_first f fd N_at_first ["plots", "rows"] 0 b_at_first F sc_at_first (by decide)
  refine key fun cdv A outer s H E hr => ?_
  have NN := sc_at_first.nd
  exact (pub_cons (pus_setNLc 2 (own := [("name", 5), ("outer", 6)]) NN (pui_seq (pu_var 0)) (blkOk_by (own := [("name", 5), ("outer", 6)]) (N := N_at_first) (sc := defScope s_at_first) (by decide +kernel)) (fun _ _ _ _ _ => (pug_tup (pugs_cons 5 NN (pugs_cons 6 NN pugs_nil)))) (fun _ _ _ _ _ => puts_nil) (fun _ _ _ _ _ => (pu_tup (pua_cons pu_str (pua_cons (pu_var 5) (pua_cons pu_bl pua_nil))))))
    (pub_cons (pus_setN 3 NN pn_dic0)
    (pub_cons (pus_for (pui_seq (pu_var 1)) (pug_name 4 NN) (pub_one (pus_for (pui_seq (pu_sl (pu_var 4) (puo_some pu_int) (puo_some (pu_add pu_int (pu_kget k_NAMED (pu_ix (hu1 hr) (pu_var 4) pu_int) pu_int))))) (pug_name 5 NN) (pub_one (pus_if (put_nin (hu65 hr) (pu_var 5) (pu_var 3)) (pub_cons (pus_sub (hu1 hr) (pn_flat pu_bl) (pul_name 3) (pu_var 5))
    (pub_one (pus_app (pul_name 2) (pn_flat (pu_tup (pua_cons pu_str (pua_cons (pu_var 5) (pua_cons pu_non pua_nil)))))))) pub_nil)))))
    (pub_one (pus_retOn 2)))))
theorem ok_wrong_by_plot {f : Addr} {fd : FuncData} (F : Fun K "wrong_by_plot" "wrong_by_plot" s_wrong_by_plot f fd) (T : Bm mg) (TC : Cm K cm) (C_outward : CalP P w K mg base cm 1 "outward" f_outward) : FnOk P w K mg base CX0 2 f fd ["plots", "row", "plot", "is_open"] (spP K cm w f_wrong_by_plot) := by
  have key := @fn_pure P w K mg base cm "wrong_by_plot" "wrong_by_plot" s_wrong_by_plot f fd N_wrong_by_plot ["plots", "row", "plot", "is_open"] 1 b_wrong_by_plot F sc_wrong_by_plot (by decide)
  refine key fun cdv A outer s H E hr => ?_
  have NN := sc_wrong_by_plot.nd
  exact (pub_cons (pus_set 4 NN (pu_ix (hu1 hr) (pu_var 1) pu_int))
    (pub_cons (pus_if (putw_and (put_eq (hu64 hr) (pu_var 4) pu_str) (putw_one_and (put_val (pu_var 3)))).pt (pub_one (pus_ret pu_str)) pub_nil)
    (pub_cons (pus_if (put_eq (hu64 hr) (pu_var 4) pu_str) (pub_cons (pus_if (putw_and (put_eq (hu64 hr) (pu_ix (hu1 hr) (pu_var 1) pu_int) (pu_var 2)) (putw_one_and (put_val (pu_var 3)))).pt (pub_one (pus_ret pu_str)) pub_nil)
    (pub_cons (pus_if (putw_and (put_not (put_val (pu_var 3))) (putw_one_and (put_in (hu65 hr) (pu_var 2) (pu_sl (pu_call C_outward hr (by decide) (pua_cons (pu_var 0) (pua_cons (pu_ix (hu1 hr) (pu_var 1) pu_int) pua_nil))) (puo_some pu_int) (puo_some pu_int))))).pt (pub_one (pus_ret pu_str)) pub_nil)
    (pub_one (pus_ret pu_str)))) pub_nil)
    (pub_cons (pus_set 5 NN (pu_dict (pup_cons (k := .inr "lay") pu_str pu_int (pup_cons (k := .inr "copy") pu_str pu_int (pup_cons (k := .inr "give") pu_str pu_int pup_nil))) (by decide +kernel)))
    (pub_cons (pus_if (putw_and (put_in (hu65 hr) (pu_var 4) (pu_var 5)) (putw_and (put_eq (hu64 hr) (pu_ix (hu1 hr) (pu_var 1) (pu_ix (hu1 hr) (pu_var 5) (pu_var 4))) (pu_var 2)) (putw_one_and (put_not (put_val (pu_var 3)))))).pt (pub_one (pus_ret pu_str)) pub_nil)
    (pub_one (pus_ret pu_str)))))))
theorem ok_wrong_by {f : Addr} {fd : FuncData} (F : Fun K "wrong_by" "wrong_by" s_wrong_by f fd) (T : Bm mg) (TC : Cm K cm) (C_wrong_by_plot : CalP P w K mg base cm 2 "wrong_by_plot" f_wrong_by_plot) : FnOk P w K mg base CX0 3 f fd ["plots", "row", "fact"] (spP K cm w f_wrong_by) := by
  have key := @fn_pure P w K mg base cm "wrong_by" "wrong_by" s_wrong_by f fd N_wrong_by ["plots", "row", "fact"] 2 b_wrong_by F sc_wrong_by (by decide)
  refine key fun cdv A outer s H E hr => ?_
  have NN := sc_wrong_by.nd
  exact (pub_cons (pus_unp (pu_var 2) (pug_tup (pugs_cons 3 NN (pugs_cons 4 NN (pugs_cons 5 NN pugs_nil)))))
    (pub_cons (pus_if (put_eq (hu64 hr) (pu_var 3) pu_str) (pub_one (pus_ret (pu_call C_wrong_by_plot hr (by decide) (pua_cons (pu_var 0) (pua_cons (pu_var 1) (pua_cons (pu_var 4) (pua_cons (pu_var 5) pua_nil))))))) pub_nil)
    (pub_cons (pus_set 6 NN (pu_dict (pup_cons (k := .inr "copy") pu_str (pu_tup (pua_cons pu_int pua_nil)) (pup_cons (k := .inr "same") pu_str (pu_tup (pua_cons pu_int pua_nil)) (pup_cons (k := .inr "add") pu_str (pu_tup (pua_cons pu_int (pua_cons pu_int pua_nil))) (pup_cons (k := .inr "tell") pu_str (pu_tup (pua_cons pu_int pua_nil)) pup_nil)))) (by decide +kernel)))
    (pub_cons (pus_if (putw_or (put_nin (hu65 hr) (pu_ix (hu1 hr) (pu_var 1) pu_int) (pu_var 6)) (putw_one_or (put_nin (hu65 hr) (pu_var 4) (pu_lc (own := [("at", 7)]) NN (pui_seq (pu_ix (hu1 hr) (pu_var 6) (pu_ix (hu1 hr) (pu_var 1) pu_int))) (blkOk_by (own := [("at", 7)]) (N := N_wrong_by) (sc := defScope s_wrong_by) (by decide +kernel)) (fun _ _ _ _ _ => (pug_name 7 NN)) (fun _ _ _ _ _ => puts_nil) (fun _ _ _ _ _ => (pu_ix (hu1 hr) (pu_var 1) (pu_var 7))))))).pt (pub_one (pus_ret pu_str)) pub_nil)
    (pub_cons (pus_if (put_isN (pu_var 5)) (pub_one (pus_ret pu_str)) pub_nil)
    (pub_cons (pus_if (putw_and (put_eq (hu64 hr) (pu_var 5) pu_str) (putw_one_and (put_ne (hu64 hr) (pu_ix (hu1 hr) (pu_var 1) pu_int) pu_str))).pt (pub_one (pus_ret pu_str)) pub_nil)
    (pub_one (pus_ret pu_str))))))))
theorem ok_behind_plot {f : Addr} {fd : FuncData} (F : Fun K "behind_plot" "behind_plot" s_behind_plot f fd) (T : Bm mg) (TC : Cm K cm) (C_outward : CalP P w K mg base cm 1 "outward" f_outward) : FnOk P w K mg base CX0 2 f fd ["plots", "row", "plot", "is_open"] (spP K cm w f_behind_plot) := by
  have key := @fn_pure P w K mg base cm "behind_plot" "behind_plot" s_behind_plot f fd N_behind_plot ["plots", "row", "plot", "is_open"] 1 b_behind_plot F sc_behind_plot (by decide)
  refine key fun cdv A outer s H E hr => ?_
  have NN := sc_behind_plot.nd
  exact (pub_cons (pus_set 4 NN (pu_ix (hu1 hr) (pu_var 1) pu_int))
    (pub_cons (pus_if (putw_and (put_eq (hu64 hr) (pu_var 4) pu_str) (putw_one_and (put_eq (hu64 hr) (pu_ix (hu1 hr) (pu_var 1) pu_int) (pu_var 2)))).pt (pub_one (pus_ret (pu_lst (pua_cons (pu_tup (pua_cons pu_str (pua_cons (pu_var 2) (pua_cons pu_bl pua_nil)))) pua_nil)))) pub_nil)
    (pub_cons (pus_if (putw_and (put_eq (hu64 hr) (pu_var 4) pu_str) (putw_one_and (put_in (hu65 hr) (pu_ix (hu1 hr) (pu_var 1) pu_int) (pu_call C_outward hr (by decide) (pua_cons (pu_var 0) (pua_cons (pu_var 2) pua_nil)))))).pt (pub_one (pus_ret (pu_lst (pua_cons (pu_tup (pua_cons pu_str (pua_cons (pu_var 2) (pua_cons pu_bl pua_nil)))) pua_nil)))) pub_nil)
    (pub_cons (pus_setN 5 NN (pn_lst (pns_cons (pn_flat (pu_tup (pua_cons pu_str (pua_cons (pu_var 2) (pua_cons (pu_var 3) pua_nil))))) pns_nil)))
    (pub_cons (pus_if (putw_or (putw_and (put_eq (hu64 hr) (pu_var 4) pu_str) (putw_one_and (put_eq (hu64 hr) (pu_ix (hu1 hr) (pu_var 1) pu_int) (pu_var 2)))).pt (putw_one_or (putw_and (put_eq (hu64 hr) (pu_var 4) pu_str) (putw_one_and (put_eq (hu64 hr) (pu_ix (hu1 hr) (pu_var 1) pu_int) (pu_var 2)))).pt)).pt (pub_one (pus_app (pul_name 5) (pn_flat (pu_tup (pua_cons pu_str (pua_cons (pu_ix (hu1 hr) (pu_var 1) pu_int) (pua_cons (pu_var 2) pua_nil))))))) pub_nil)
    (pub_one (pus_retOn 5)))))))
theorem ok_behind {f : Addr} {fd : FuncData} (F : Fun K "behind" "behind" s_behind f fd) (T : Bm mg) (TC : Cm K cm) (C_behind_plot : CalP P w K mg base cm 2 "behind_plot" f_behind_plot) (C_outward : CalP P w K mg base cm 1 "outward" f_outward) : FnOk P w K mg base CX0 3 f fd ["plots", "row", "fact"] (spP K cm w f_behind) := by
  have key := @fn_pure P w K mg base cm "behind" "behind" s_behind f fd N_behind ["plots", "row", "fact"] 2 b_behind F sc_behind (by decide)
  refine key fun cdv A outer s H E hr => ?_
  have NN := sc_behind.nd
  exact (pub_cons (pus_unp (pu_var 2) (pug_tup (pugs_cons 3 NN (pugs_cons 4 NN (pugs_cons 5 NN pugs_nil)))))
    (pub_cons (pus_if (put_eq (hu64 hr) (pu_var 3) pu_str) (pub_one (pus_ret (pu_call C_behind_plot hr (by decide) (pua_cons (pu_var 0) (pua_cons (pu_var 1) (pua_cons (pu_var 4) (pua_cons (pu_var 5) pua_nil))))))) pub_nil)
    (pub_cons (pus_set 6 NN (pu_ix (hu1 hr) (pu_var 1) pu_int))
    (pub_cons (pus_if (put_eq (hu64 hr) (pu_var 6) pu_str) (pub_cons (pus_setN 7 NN (pn_lst pns_nil))
    (pub_cons (pus_if (putw_or (put_eq (hu64 hr) (pu_var 4) (pu_ix (hu1 hr) (pu_var 1) pu_int)) (putw_one_or (put_ne (hu64 hr) (pu_var 4) (pu_ix (hu1 hr) (pu_var 1) pu_int)))).pt (pub_one (pus_app (pul_name 7) (pn_flat (pu_var 2)))) pub_nil)
    (pub_cons (pus_if (putw_and (put_eq (hu64 hr) (pu_var 4) (pu_ix (hu1 hr) (pu_var 1) pu_int)) (putw_one_and (put_ne (hu64 hr) (pu_ix (hu1 hr) (pu_var 1) pu_int) (pu_ix (hu1 hr) (pu_var 1) pu_int)))).pt (pub_one (pus_app (pul_name 7) (pn_flat (pu_tup (pua_cons pu_str (pua_cons (pu_ix (hu1 hr) (pu_var 1) pu_int) (pua_cons (pu_var 5) pua_nil))))))) pub_nil)
    (pub_one (pus_retOn 7))))) pub_nil)
    (pub_cons (pus_if (putw_and (put_in (hu65 hr) (pu_var 6) (pu_tup (pua_cons pu_str (pua_cons pu_str pua_nil)))) (putw_one_and (put_eq (hu64 hr) (pu_var 4) (pu_ix (hu1 hr) (pu_var 1) pu_int)))).pt (pub_one (pus_ret (pu_lst pua_nil))) pub_nil)
    (pub_cons (pus_if (putw_and (put_eq (hu64 hr) (pu_var 6) pu_str) (putw_and (put_notN (pu_var 5)) (putw_and (put_ne (hu64 hr) (pu_var 5) pu_str) (putw_one_and (put_in (hu65 hr) (pu_ix (hu1 hr) (pu_var 1) pu_int) (pu_call C_outward hr (by decide) (pua_cons (pu_var 0) (pua_cons (pu_var 5) pua_nil)))))))).pt (pub_one (pus_ret (pu_lst (pua_cons (pu_tup (pua_cons pu_str (pua_cons (pu_var 4) (pua_cons pu_str pua_nil)))) pua_nil)))) pub_nil)
    (pub_one (pus_ret (pu_lst (pua_cons (pu_var 2) pua_nil))))))))))
theorem ok_ways_on {f : Addr} {fd : FuncData} (F : Fun K "ways_on" "ways_on" s_ways_on f fd) (T : Bm mg) (TC : Cm K cm) (C_row_at : CalP P w K mg base cm 1 "row_at" f_row_at) : FnOk P w K mg base CX0 2 f fd ["rows", "place"] (spP K cm w f_ways_on) := by
  have key := @fn_pure P w K mg base cm "ways_on" "ways_on" s_ways_on f fd N_ways_on ["rows", "place"] 1 b_ways_on F sc_ways_on (by decide)
  refine key fun cdv A outer s H E hr => ?_
  have NN := sc_ways_on.nd
  exact (pub_cons (pus_set 2 NN (pu_call C_row_at hr (by decide) (pua_cons (pu_var 0) (pua_cons (pu_var 1) pua_nil))))
    (pub_cons (pus_if (put_eq (hu64 hr) (pu_ix (hu1 hr) (pu_var 2) pu_int) pu_str) (pub_one (pus_ret (pu_lst pua_nil))) pub_nil)
    (pub_cons (pus_if (put_eq (hu64 hr) (pu_ix (hu1 hr) (pu_var 2) pu_int) pu_str) (pub_one (pus_ret (pu_lst (pua_cons (pu_tup (pua_cons pu_non (pua_cons (pu_ix (hu1 hr) (pu_var 2) pu_int) pua_nil))) pua_nil)))) pub_nil)
    (pub_cons (pus_if (put_eq (hu64 hr) (pu_ix (hu1 hr) (pu_var 2) pu_int) pu_str) (pub_one (pus_ret (pu_lst (pua_cons (pu_tup (pua_cons pu_int (pua_cons (pu_add (pu_var 1) pu_int) pua_nil))) (pua_cons (pu_tup (pua_cons pu_int (pua_cons (pu_ix (hu1 hr) (pu_var 2) pu_int) pua_nil))) pua_nil))))) pub_nil)
    (pub_one (pus_ret (pu_lst (pua_cons (pu_tup (pua_cons pu_non (pua_cons (pu_add (pu_var 1) pu_int) pua_nil))) pua_nil))))))))
theorem ok_way_to {f : Addr} {fd : FuncData} (F : Fun K "way_to" "way_to" s_way_to f fd) (T : Bm mg) (TC : Cm K cm) : FnOk P w K mg base CX0 1 f fd ["came", "node"] (spP K cm w f_way_to) := by
  have key := @fn_pure P w K mg base cm "way_to" "way_to" s_way_to f fd N_way_to ["came", "node"] 0 b_way_to F sc_way_to (by decide)
  refine key fun cdv A outer s H E hr => ?_
  have NN := sc_way_to.nd
  exact (pub_cons (pus_setN 2 NN (pn_lst pns_nil))
    (pub_cons (pus_set 3 NN pu_int)
    (pub_cons (pus_while (put_notN (pu_ixN  (hu65 hr) (pu_var 0) (pu_var 1))) (pub_cons (pus_unp (pu_ixN  (hu65 hr) (pu_var 0) (pu_var 1)) (pug_tup (pugs_cons 1 NN (pugs_cons 4 NN pugs_nil))))
    (pub_cons (pus_augadd 3 NN pu_int)
    (pub_one (pus_if (put_notN (pu_var 4)) (pub_one (pus_app (pul_name 2) (pn_flat (pu_var 4)))) pub_nil)))))
    (pub_one (pus_ret (pu_tup (pua_cons (pu_rev (pu_var 2)) (pua_cons (pu_var 3) pua_nil))))))))
theorem ok_first_wrong {f : Addr} {fd : FuncData} (F : Fun K "first_wrong" "first_wrong" s_first_wrong f fd) (T : Bm mg) (TC : Cm K cm) (C_at_first : CalP P w K mg base cm 1 "at_first" f_at_first) (C_row_at : CalP P w K mg base cm 1 "row_at" f_row_at) (C_wrong_by : CalP P w K mg base cm 3 "wrong_by" f_wrong_by) (C_way_to : CalP P w K mg base cm 1 "way_to" f_way_to) (C_behind : CalP P w K mg base cm 3 "behind" f_behind) (C_ways_on : CalP P w K mg base cm 2 "ways_on" f_ways_on) : FnOk P w K mg base CX0 4 f fd ["plots", "rows"] (spP K cm w f_first_wrong) := by
  have key := @fn_pure P w K mg base cm "first_wrong" "first_wrong" s_first_wrong f fd N_first_wrong ["plots", "rows"] 3 b_first_wrong F sc_first_wrong (by decide)
  refine key fun cdv A outer s H E hr => ?_
  have NN := sc_first_wrong.nd
  exact (pub_cons (pus_setN 2 NN pn_dic0)
    (pub_dn 2 (pub_cons (pus_setN 3 NN (pn_lst pns_nil))
    (pub_cons (pus_for (pui_seq (pu_call C_at_first hr (by decide) (pua_cons (pu_var 0) (pua_cons (pu_var 1) pua_nil)))) (pug_name 4 NN) (pub_cons (pus_subN 2  (hu65 hr) pu_non (pu_tup (pua_cons pu_int (pua_cons (pu_var 4) pua_nil))))
    (pub_one (pus_app (pul_name 3) (pn_flat (pu_tup (pua_cons pu_int (pua_cons (pu_var 4) pua_nil))))))))
    (pub_cons (pus_set 5 NN pu_int)
    (pub_cons (pus_while (put_lt (pu_var 5) (pu_len T.len (pua_cons (pu_var 3) pua_nil))) (pub_cons (pus_set 6 NN (pu_ix (hu1 hr) (pu_var 3) (pu_var 5)))
    (pub_cons (pus_unp (pu_var 6) (pug_tup (pugs_cons 7 NN (pugs_cons 4 NN pugs_nil))))
    (pub_cons (pus_set 8 NN (pu_call C_row_at hr (by decide) (pua_cons (pu_var 1) (pua_cons (pu_var 7) pua_nil))))
    (pub_cons (pus_if (put_ne (hu64 hr) (pu_call C_wrong_by hr (by decide) (pua_cons (pu_var 0) (pua_cons (pu_var 8) (pua_cons (pu_var 4) pua_nil)))) pu_str) (pub_one (pus_ret (pu_call C_way_to hr (by decide) (pua_cons (pu_var 2) (pua_cons (pu_var 6) pua_nil))))) pub_nil)
    (pub_cons (pus_set 9 NN (pu_call C_behind hr (by decide) (pua_cons (pu_var 0) (pua_cons (pu_var 8) (pua_cons (pu_var 4) pua_nil)))))
    (pub_cons (pus_for (pui_seq (pu_call C_ways_on hr (by decide) (pua_cons (pu_var 1) (pua_cons (pu_var 7) pua_nil)))) (pug_tup (pugs_cons 10 NN (pugs_cons 11 NN pugs_nil))) (pub_one (pus_for (pui_seq (pu_var 9)) (pug_name 12 NN) (pub_one (pus_if (put_ninN (hu65 hr) (pu_tup (pua_cons (pu_var 11) (pua_cons (pu_var 12) pua_nil))) (pu_var 2)) (pub_cons (pus_subN 2  (hu65 hr) (pu_tup (pua_cons (pu_var 6) (pua_cons (pu_var 10) pua_nil))) (pu_tup (pua_cons (pu_var 11) (pua_cons (pu_var 12) pua_nil))))
    (pub_one (pus_app (pul_name 3) (pn_flat (pu_tup (pua_cons (pu_var 11) (pua_cons (pu_var 12) pua_nil))))))) pub_nil)))))
    (pub_one (pus_augadd 5 NN pu_int)))))))))
    (pub_one (pus_ret pu_non))))))))
theorem ok_look {f : Addr} {fd : FuncData} (F : Fun K "look" "look" s_look f fd) (T : Bm mg) (TC : Cm K cm) (C_need : CalX P w K mg base cm 4 "need" f_need) (C_first_wrong : CalP P w K mg base cm 4 "first_wrong" f_first_wrong) (C_Wrong___init__ : MakI P w K mg base cm 1 7 "Wrong" f_Wrong___init__) (C_run : CalX P w K mg base cm 5 "run" f_run) : FnOk P w K mg base (L2.CX P w) 6 f fd ["plots", "rows"] (spX K cm w f_look) := by
  have key := @fn_exc P w K mg base cm "look" "look" s_look f fd N_look ["plots", "rows"] 5 b_look F sc_look (by decide)
  refine key fun cdv A outer s H E hr => ?_
  have NN := sc_look.nd
  exact (pubx_cons (pusx_ex (pux_call (takes_of rfl rfl rfl rfl) C_need hr (by decide) (pua_cons (pu_var 0) (pua_cons (pu_var 1) pua_nil))))
    (pubx_up (pub_cons (pus_set 2 NN (pu_call C_first_wrong hr (by decide) (pua_cons (pu_var 0) (pua_cons (pu_var 1) pua_nil))))
    (pub_cons (pus_if (put_isN (pu_var 2)) (pub_one (pus_ret pu_non)) pub_nil)
    (pub_cons (pus_unp (pu_var 2) (pug_tup (pugs_cons 3 NN (pugs_cons 4 NN pugs_nil))))
    (pub_one (pus_ret (pu_makeI C_Wrong___init__ hr (by decide) (pua_cons (pu_var 3) (pua_cons (pu_callX C_run hr (by decide) (pua_cons (pu_var 0) (pua_cons (pu_var 1) (pua_cons (pu_var 3) (pua_cons (pu_var 4) pua_nil))))) pua_nil))))))))))
theorem ok__law_called {f : Addr} {fd : FuncData} (F : Fun K "_law_called" "_law_called" s__law_called f fd) (T : Bm mg) (TC : Cm K cm) (C_run : CalX P w K mg base cm 5 "run" f_run) (C_bare : CalX P w K mg base cm 5 "bare" f_bare) (C_look : CalX P w K mg base cm 6 "look" f_look) : FnOk P w K mg base (L2.CX P w) 7 f fd ["_law_kind", "_law_plots", "_law_rows", "_law_inputs", "_law_steps"] (spX K cm w f__law_called) := by
  have key := @fn_exc P w K mg base cm "_law_called" "_law_called" s__law_called f fd N__law_called ["_law_kind", "_law_plots", "_law_rows", "_law_inputs", "_law_steps"] 6 b__law_called F sc__law_called (by decide)
  refine key fun cdv A outer s H E hr => ?_
  have NN := sc__law_called.nd
  exact (pubx_cons (pusx_if (put_eq (hu64 hr) (pu_var 0) pu_int) (pubx_one (pusx_ret (pux_call (takes_of rfl rfl rfl rfl) C_run hr (by decide) (pua_cons (pu_var 1) (pua_cons (pu_var 2) (pua_cons (pu_var 3) (pua_cons (pu_var 4) pua_nil))))))) (pubx_up pub_nil))
    (pubx_cons (pusx_if (put_eq (hu64 hr) (pu_var 0) pu_int) (pubx_one (pusx_ret (pux_call (takes_of rfl rfl rfl rfl) C_bare hr (by decide) (pua_cons (pu_var 1) (pua_cons (pu_var 2) (pua_cons (pu_var 3) (pua_cons (pu_var 4) pua_nil))))))) (pubx_up pub_nil))
    (pubx_one (pusx_ret (pux_call (takes_of rfl rfl rfl rfl) C_look hr (by decide) (pua_cons (pu_var 1) (pua_cons (pu_var 2) pua_nil)))))))
theorem ok__law_refused {f : Addr} {fd : FuncData} (F : Fun K "_law_refused" "_law_refused" s__law_refused f fd) (T : Bm mg) (M_PlotError : mg "PlotError" = some (.ref (cm 0))) (M_BadPlots : mg "BadPlots" = some (.ref (cm 1))) (M_BadRows : mg "BadRows" = some (.ref (cm 2))) (M_BadRun : mg "BadRun" = some (.ref (cm 3))) (N_ValueError : mg "ValueError" = none) (TS_PlotError : TstOk K cm [(1, true), (2, true), (3, true)] (.ref (cm 0))) (KO_ValueError : KitOk K cm [(1, true), (2, true), (3, true)] [1, 2, 3] (.type "ValueError")) (KO_BadRun : KitOk K cm [(1, false), (2, false), (3, true)] [1, 2, 3] (.ref (cm 3))) (KO_BadRows : KitOk K cm [(1, false), (2, true), (3, false)] [1, 2, 3] (.ref (cm 2))) (KO_BadPlots : KitOk K cm [(1, true), (2, false), (3, false)] [1, 2, 3] (.ref (cm 1))) (XI : ∀ n ∈ ([1, 2, 3] : List Nat), IsxC K (cm n)) (TC : Cm K cm) (C__law_called : CalX P w K mg base cm 7 "_law_called" f__law_called) : FnOk P w K mg base CX0 8 f fd ["_law_kind", "_law_plots", "_law_rows", "_law_inputs", "_law_steps"] (spP K cm w f__law_refused) := by
  have key := @fn_pure P w K mg base cm "_law_refused" "_law_refused" s__law_refused f fd N__law_refused ["_law_kind", "_law_plots", "_law_rows", "_law_inputs", "_law_steps"] 7 b__law_refused F sc__law_refused (by decide)
  refine key fun cdv A outer s H E hr => ?_
  have NN := sc__law_refused.nd
  exact (pub_cons (pus_try NN (fun W pn xe tk po => (pubx_one (pusx_ex (pux_call tk C__law_called hr (by decide) (pua_cons (pu_var 0) (pua_cons (pu_var 1) (pua_cons (pu_var 2) (pua_cons (pu_var 3) (pua_cons (pu_var 4) pua_nil))))))))) (.cons ⟨rfl, by decide, .inl M_PlotError⟩ TS_PlotError.ht (puh_of [1, 2, 3] fun a oe n d pn o hn hz hfl => (pzb_ifnot (pz_isi (XI n hn) hz hfl (pe_bltn (v := .ty "ValueError") rfl N_ValueError (by decide +kernel) rfl) (fun _ r => r) (KO_ValueError n hn) T.isinstance) (pzb_ret (pz_of rfl rfl pu_str)) (pzb_ret (pz_lst (pza_cons (pz_isi (XI n hn) hz hfl (pe_glob (v := .ref (cm 1)) rfl M_BadPlots rfl) (fun _ r => r) (KO_BadPlots n hn) T.isinstance) (pza_cons (pz_isi (XI n hn) hz hfl (pe_glob (v := .ref (cm 2)) rfl M_BadRows rfl) (fun _ r => r) (KO_BadRows n hn) T.isinstance) (pza_cons (pz_isi (XI n hn) hz hfl (pe_glob (v := .ref (cm 3)) rfl M_BadRun rfl) (fun _ r => r) (KO_BadRun n hn) T.isinstance) pza_nil))))))) .nil))
    (pub_one (pus_ret pu_str)))
theorem ok_law {f : Addr} {fd : FuncData} (F : Fun K "law" "law" s_law f fd) (T : Bm mg) (TC : Cm K cm) (C__law_at : CalP P w K mg base cm 1 "_law_at" f__law_at) (C__law_refused : CalP P w K mg base cm 8 "_law_refused" f__law_refused) : FnOk P w K mg base CX0 9 f fd ["_law_script"] (spP K cm w f_law) := by
  have key := @fn_pureF P w K mg base cm "law" "law" s_law f fd N_law ["_law_script"] 8 b_law F sc_law (by decide)
  refine key fun cdv A outer s H E hr => ?_
  have NN := sc_law.nd
  exact (pub_cons (pus_set 1 NN (pu_call C__law_at hr (by decide) (pua_cons (pu_var 0) (pua_cons pu_int pua_nil))))
    (pub_cons (pus_set 2 NN (pu_ix (hu1 hr) (pu_lst (pua_cons (pu_lst (pua_cons (pu_tup (pua_cons pu_str (pua_cons pu_non pua_nil))) pua_nil)) (pua_cons (pu_lst (pua_cons (pu_tup (pua_cons pu_str (pua_cons pu_non pua_nil))) (pua_cons (pu_tup (pua_cons pu_str (pua_cons pu_str pua_nil))) pua_nil))) (pua_cons (pu_lst (pua_cons (pu_tup (pua_cons pu_str (pua_cons pu_str pua_nil))) pua_nil)) (pua_cons pu_str (pua_cons (pu_lst pua_nil) (pua_cons pu_non pua_nil))))))) (pu_mod (pu_var 1) pu_int)))
    (pub_cons (pus_set 3 NN (pu_ix (hu1 hr) (pu_lst (pua_cons (pu_lst pua_nil) (pua_cons (pu_lst (pua_cons (pu_tup (pua_cons pu_str (pua_cons pu_int pua_nil))) pua_nil)) (pua_cons (pu_lst (pua_cons (pu_tup (pua_cons pu_str pua_nil)) pua_nil)) (pua_cons (pu_tup (pua_cons (pu_tup (pua_cons pu_str pua_nil)) pua_nil)) (pua_cons (pu_lst (pua_cons (pu_tup (pua_cons pu_str pua_nil)) pua_nil)) (pua_cons (pu_lst (pua_cons (pu_tup (pua_cons pu_str (pua_cons pu_int pua_nil))) pua_nil)) (pua_cons (pu_lst (pua_cons (pu_tup (pua_cons pu_str (pua_cons pu_str pua_nil))) pua_nil)) pua_nil)))))))) (pu_mod (pu_fdiv (pu_var 1) pu_int) pu_int)))
    (pub_cons (pus_set 4 NN (pu_call C__law_at hr (by decide) (pua_cons (pu_var 0) (pua_cons pu_int pua_nil))))
    (pub_cons (pus_setLc 5 (own := [("_law_k", 14)]) NN (pui_range T.range (pu_mod (pu_abs T.abs (pua_cons (pu_var 4) pua_nil)) pu_int)) (blkOk_by (own := [("_law_k", 14)]) (N := N_law) (sc := defScope s_law) (by decide +kernel)) (fun _ _ _ _ _ => (pug_name 14 NN)) (fun _ _ _ _ _ => puts_nil) (fun _ _ _ _ _ => (pu_fdiv (pu_var 4) (pu_add (pu_var 14) pu_int))))
    (pub_cons (pus_set 6 NN (pu_mod (pu_call C__law_at hr (by decide) (pua_cons (pu_var 0) (pua_cons pu_int pua_nil))) (pu_add (pu_len T.len (pua_cons (pu_var 5) pua_nil)) pu_int)))
    (pub_cons (pus_set 7 NN (pu_ix (hu1 hr) (pu_lst (pua_cons pu_bl (pua_cons pu_str (pua_cons pu_non (pua_cons (pu_tup (pua_cons pu_int (pua_cons pu_int pua_nil))) (pua_cons (pu_lst (pua_cons pu_int pua_nil)) (pua_cons pu_bl pua_nil))))))) (pu_mod (pu_fdiv (pu_call C__law_at hr (by decide) (pua_cons (pu_var 0) (pua_cons pu_int pua_nil))) pu_int) pu_int)))
    (pub_cons (pus_set 8 NN (pu_eq (hu64 hr) (pu_mod (pu_fdiv (pu_var 1) pu_int) pu_int) pu_int))
    (pub_cons (pus_if (put_val (pu_var 8)) (pub_one (pus_set 5 NN (pu_addN (pu_addN (pu_slN (pu_var 5) puo_none (puo_some (pu_var 6))) (pu_lst (pua_cons (pu_var 7) pua_nil))) (pu_slN (pu_var 5) (puo_some (pu_var 6)) puo_none)))) pub_nil)
    (pub_cons (pus_if (put_eq (hu64 hr) (pu_mod (pu_fdiv (pu_var 1) pu_int) pu_int) pu_int) (pub_cons (pus_set 8 NN pu_bl)
    (pub_one (pus_set 5 NN (pu_ix (hu1 hr) (pu_lst (pua_cons (pu_tupN T.tuple (pua_cons (pu_var 5) pua_nil)) (pua_cons pu_non (pua_cons pu_int (pua_cons pu_str pua_nil))))) (pu_mod (pu_call C__law_at hr (by decide) (pua_cons (pu_var 0) (pua_cons pu_int pua_nil))) pu_int))))) pub_nil)
    (pub_cons (pus_set 9 NN (pu_ix (hu1 hr) (pu_lst (pua_cons pu_int (pua_cons (pu_mod (pu_var 4) pu_int) (pua_cons pu_int (pua_cons pu_int (pua_cons (pu_sub pu_int pu_int) (pua_cons pu_bl (pua_cons pu_str (pua_cons pu_non pua_nil))))))))) (pu_mod (pu_fdiv (pu_var 1) pu_int) pu_int)))
    (pub_cons (pus_if (putw_and (put_eq (hu64 hr) (pu_var 3) (pu_lst (pua_cons (pu_tup (pua_cons pu_str (pua_cons pu_int pua_nil))) pua_nil))) (putw_one_and (put_eq (hu64 hr) (pu_var 9) pu_int))).pt (pub_one (pus_set 9 NN pu_int)) pub_nil)
    (pub_cons (pus_set 10 NN (pu_mod (pu_fdiv (pu_var 1) pu_int) pu_int))
    (pub_cons (pus_set 11 NN (pu_lst (pua_cons (pu_inT (hu65 hr) (pu_var 2) (pu_tup (pua_cons (pu_lst (pua_cons (pu_tup (pua_cons pu_str (pua_cons pu_str pua_nil))) pua_nil)) (pua_cons pu_str (pua_cons pu_non pua_nil))))) (pua_cons (pu_inT (hu65 hr) (pu_var 3) (pu_tup (pua_cons (pu_lst (pua_cons (pu_tup (pua_cons pu_str pua_nil)) pua_nil)) (pua_cons (pu_tup (pua_cons (pu_tup (pua_cons pu_str pua_nil)) pua_nil)) (pua_cons (pu_lst (pua_cons (pu_tup (pua_cons pu_str (pua_cons pu_int pua_nil))) pua_nil)) (pua_cons (pu_lst (pua_cons (pu_tup (pua_cons pu_str (pua_cons pu_str pua_nil))) pua_nil)) pua_nil)))))) pua_nil))))
    (pub_cons (pus_set 12 NN (pu_and (pu_in (hu65 hr) (pu_var 9) (pu_tup (pua_cons pu_int (pua_cons (pu_mod (pu_var 4) pu_int) (pua_cons pu_int (pua_cons pu_int pua_nil)))))) (pu_one (pu_not (pu_isi .bool T.isinstance T.bool (by decide +kernel) (pu_var 9))))))
    (pub_cons (pus_set 13 NN pu_str)
    (pub_cons (pus_if (put_val (pu_ix (hu1 hr) (pu_var 11) pu_int)) (pub_one (pus_set 13 NN (pu_lst (pua_cons pu_bl (pua_cons pu_bl (pua_cons pu_bl pua_nil)))))) (pub_one (pus_if (put_val (pu_ix (hu1 hr) (pu_var 11) pu_int)) (pub_one (pus_set 13 NN (pu_lst (pua_cons pu_bl (pua_cons pu_bl (pua_cons pu_bl pua_nil)))))) (pub_one (pus_if (putw_and (put_lt (pu_var 10) pu_int) (putw_one_and (putw_or (put_val (pu_var 8)) (putw_one_or (put_not (put_val (pu_var 12))))).pt)).pt (pub_one (pus_set 13 NN (pu_lst (pua_cons pu_bl (pua_cons pu_bl (pua_cons pu_bl pua_nil)))))) pub_nil)))))
    (pub_one (pus_ret (pu_eq (hu64 hr) (pu_call C__law_refused hr (by decide) (pua_cons (pu_var 10) (pua_cons (pu_var 2) (pua_cons (pu_var 3) (pua_cons (pu_var 5) (pua_cons (pu_var 9) pua_nil)))))) (pu_var 13)))))))))))))))))))))
end
end K02

namespace K02
open PySem L2 DL
theorem all_mk {l : PySem.W.OpenLaw} {w : World} {K : PySem.W.Frag} {h : Heap} {mg : Str → Option Value} {fa fl C0 C1 C2 C3 C4 C5 C6 C7 : Addr} (X : K.In h) (G : h.Ns mainGlobals mg) (hfa : mg "law" = some (.ref fa)) (zB : FactB K) (aC4 : PySem.W.nsIn K mainGlobals "Store" = some (some (.ref C4))) (zC4 : FactC K C4) (A4_plots : PySem.W.findIn K (.ref C4) "plots" = some none) (A4_there : PySem.W.findIn K (.ref C4) "there" = some none) (A4_worth : PySem.W.findIn K (.ref C4) "worth" = some none) (A4_held : PySem.W.findIn K (.ref C4) "held" = some none) (A4_told : PySem.W.findIn K (.ref C4) "told" = some none) (A4_opened : PySem.W.findIn K (.ref C4) "opened" = some none) (A4_given : PySem.W.findIn K (.ref C4) "given" = some none) (aC5 : PySem.W.nsIn K mainGlobals "Outcome" = some (some (.ref C5))) (zC5 : FactC K C5) (A5_end : PySem.W.findIn K (.ref C5) "end" = some none) (A5_row : PySem.W.findIn K (.ref C5) "row" = some none) (A5_steps : PySem.W.findIn K (.ref C5) "steps" = some none) (A5_told : PySem.W.findIn K (.ref C5) "told" = some none) (A5_opened : PySem.W.findIn K (.ref C5) "opened" = some none) (A5_given : PySem.W.findIn K (.ref C5) "given" = some none) (aC6 : PySem.W.nsIn K mainGlobals "Field" = some (some (.ref C6))) (zC6 : FactC K C6) (A6_cells : PySem.W.findIn K (.ref C6) "cells" = some none) (A6_spare : PySem.W.findIn K (.ref C6) "spare" = some none) (A6_held : PySem.W.findIn K (.ref C6) "held" = some none) (A6_under : PySem.W.findIn K (.ref C6) "under" = some none) (A6_mine : PySem.W.findIn K (.ref C6) "mine" = some none) (aC7 : PySem.W.nsIn K mainGlobals "Wrong" = some (some (.ref C7))) (zC7 : FactC K C7) (A7_choices : PySem.W.findIn K (.ref C7) "choices" = some none) (A7_row : PySem.W.findIn K (.ref C7) "row" = some none) (A7_word : PySem.W.findIn K (.ref C7) "word" = some none) (A7_steps : PySem.W.findIn K (.ref C7) "steps" = some none) (aC0 : PySem.W.nsIn K mainGlobals "PlotError" = some (some (.ref C0))) (aC1 : PySem.W.nsIn K mainGlobals "BadPlots" = some (some (.ref C1))) (aC2 : PySem.W.nsIn K mainGlobals "BadRows" = some (some (.ref C2))) (aC3 : PySem.W.nsIn K mainGlobals "BadRun" = some (some (.ref C3))) (zX1 : FactX K C1) (zX2 : FactX K C2) (zX3 : FactX K C3) (p0_0 : PinC K C0) (r0_3 : PySem.W.excIn K C3 [.type "ValueError", .type "Exception", .type "BaseException", .type "object"] "ValueError.__new__" = true) (nB_ValueError : PySem.W.nsIn K mainGlobals "ValueError" = some none) (e3_0 : PySem.W.subIn K (.ref C0) (.type "BaseException") = some true ∧ PySem.W.hasDictIn K C0 = true ∧ PySem.W.typeIn K (.ref C0) = some (.type "type")) (s_1_0 : PySem.W.subIn K (.ref C1) (.ref C0) = some true) (s_2_0 : PySem.W.subIn K (.ref C2) (.ref C0) = some true) (s_3_0 : PySem.W.subIn K (.ref C3) (.ref C0) = some true) (ko_1_BadPlots : PySem.W.kitOne K (.ref C1) (.ref C1) = some true) (ko_2_BadPlots : PySem.W.kitOne K (.ref C2) (.ref C1) = some false) (ko_3_BadPlots : PySem.W.kitOne K (.ref C3) (.ref C1) = some false) (ko_1_BadRows : PySem.W.kitOne K (.ref C1) (.ref C2) = some false) (ko_2_BadRows : PySem.W.kitOne K (.ref C2) (.ref C2) = some true) (ko_3_BadRows : PySem.W.kitOne K (.ref C3) (.ref C2) = some false) (ko_1_BadRun : PySem.W.kitOne K (.ref C1) (.ref C3) = some false) (ko_2_BadRun : PySem.W.kitOne K (.ref C2) (.ref C3) = some false) (ko_3_BadRun : PySem.W.kitOne K (.ref C3) (.ref C3) = some true) (ko_1_ValueError : PySem.W.kitOne K (.ref C1) (.type "ValueError") = some true) (ko_2_ValueError : PySem.W.kitOne K (.ref C2) (.type "ValueError") = some true) (ko_3_ValueError : PySem.W.kitOne K (.ref C3) (.type "ValueError") = some true) (cl0 : PySem.W.specialIn K (.builtin "object.__class__") "__get__" = some (some (.builtin "getset_descriptor.__get__"))) (cl1 : PySem.W.takesIn K (.builtin "object.__class__") = some true) (D__law_at : FactD K "_law_at" s__law_at) (D_BadRows___init__ : FactM K C2 "__init__" "BadRows.__init__" s_BadRows___init__) (D_BadPlots___init__ : FactM K C1 "__init__" "BadPlots.__init__" s_BadPlots___init__) (D_is_name : FactD K "is_name" s_is_name) (D_is_plot : FactD K "is_plot" s_is_plot) (D_need_plots : FactD K "need_plots" s_need_plots) (D_is_whole : FactD K "is_whole" s_is_whole) (D_is_part : FactD K "is_part" s_is_part) (D_is_row : FactD K "is_row" s_is_row) (D_need : FactD K "need" s_need) (D_need_run : FactD K "need_run" s_need_run) (D_row_at : FactD K "row_at" s_row_at) (D_Store___init__ : FactM K C4 "__init__" "Store.__init__" s_Store___init__) (D_Store_number_of : FactM K C4 "number_of" "Store.number_of" s_Store_number_of) (D_Store_laid : FactM K C4 "laid" "Store.laid" s_Store_laid) (D_outward : FactD K "outward" s_outward) (D_Store_begun : FactM K C4 "begun" "Store.begun" s_Store_begun) (D_Store_lack : FactM K C4 "lack" "Store.lack" s_Store_lack) (D_Store_worth_of : FactM K C4 "worth_of" "Store.worth_of" s_Store_worth_of) (D_Store_copied : FactM K C4 "copied" "Store.copied" s_Store_copied) (D_Store_shared : FactM K C4 "shared" "Store.shared" s_Store_shared) (D_Store_grown : FactM K C4 "grown" "Store.grown" s_Store_grown) (D_Store_said : FactM K C4 "said" "Store.said" s_Store_said) (D_Store_gone : FactM K C4 "gone" "Store.gone" s_Store_gone) (D_Store_do : FactM K C4 "do" "Store.do" s_Store_do) (D_Outcome___init__ : FactM K C5 "__init__" "Outcome.__init__" s_Outcome___init__) (D_run : FactD K "run" s_run) (D_Field___init__ : FactM K C6 "__init__" "Field.__init__" s_Field___init__) (D_Field_lay : FactM K C6 "lay" "Field.lay" s_Field_lay) (D_Field_give : FactM K C6 "give" "Field.give" s_Field_give) (D_Field_do : FactM K C6 "do" "Field.do" s_Field_do) (D_bare : FactD K "bare" s_bare) (D_Wrong___init__ : FactM K C7 "__init__" "Wrong.__init__" s_Wrong___init__) (D_at_first : FactD K "at_first" s_at_first) (D_wrong_by_plot : FactD K "wrong_by_plot" s_wrong_by_plot) (D_wrong_by : FactD K "wrong_by" s_wrong_by) (D_behind_plot : FactD K "behind_plot" s_behind_plot) (D_behind : FactD K "behind" s_behind) (D_ways_on : FactD K "ways_on" s_ways_on) (D_way_to : FactD K "way_to" s_way_to) (D_first_wrong : FactD K "first_wrong" s_first_wrong) (D_look : FactD K "look" s_look) (D__law_called : FactD K "_law_called" s__law_called) (D__law_refused : FactD K "_law_refused" s__law_refused) (k_LETTERS : ∃ t, PySem.W.nsIn K mainGlobals "LETTERS" = some (some (.str "abcdefghijklmnopqrstuvwxyz" t))) (k_MOST_PLOTS : ∃ t, PySem.W.nsIn K mainGlobals "MOST_PLOTS" = some (some (.int 12 t))) (k_MOST_NUMBER : ∃ t, PySem.W.nsIn K mainGlobals "MOST_NUMBER" = some (some (.int 1000000000000000000 t))) (k_MOST_ROWS : ∃ t, PySem.W.nsIn K mainGlobals "MOST_ROWS" = some (some (.int 60 t))) (k_MOST_STEPS : ∃ t, PySem.W.nsIn K mainGlobals "MOST_STEPS" = some (some (.int 1000000 t))) (k_NAMED : KTab0 K w "NAMED" tab_NAMED) (kt_FORMS : KTabT0 K w "FORMS" tabT_FORMS)
    {od an : Option Addr} {sl : Array (Option Value)} {oc kV dc pm cd ct : Value} (a : PySem.W.nsIn K mainGlobals "law" = some (some (.ref fl))) (lk : K.lookup fl = some ⟨oc, od, .func (PySem.W.fnOf "law" "law" (defArgs s_law) (defBody s_law) (defScope s_law) .none kV dc pm an cd ct), sl⟩) (cc : PySem.W.codeIn K cd "law" = true) (kk : PySem.W.keepIn K (.ref fl) = true) :
    ∃ (cm : Nat → Addr) (fd : FuncData), (∀ (s : Shared) (v : Value), BindsTo s fd ⟨[v], []⟩ [("_law_script", v)]) ∧ ∀ base : Heap, K.In base → base.Ns mainGlobals mg → FnOk l.prog w K mg base CX0 9 fa fd ["_law_script"] (spP K cm w f_law) := by
  have e := hfa.symm.trans (PySem.W.mg_of X G a)
  cases e
  have T : Bm mg := zB.bm X G
  have k_LETTERS := k_LETTERS.imp fun t e => PySem.W.mg_of X G e
  have k_MOST_PLOTS := k_MOST_PLOTS.imp fun t e => PySem.W.mg_of X G e
  have k_MOST_NUMBER := k_MOST_NUMBER.imp fun t e => PySem.W.mg_of X G e
  have k_MOST_ROWS := k_MOST_ROWS.imp fun t e => PySem.W.mg_of X G e
  have k_MOST_STEPS := k_MOST_STEPS.imp fun t e => PySem.W.mg_of X G e
  have k_NAMED := k_NAMED.at_ X G
  have kt_FORMS := kt_FORMS.at_ X G
  have TC : Cm K (clsL [C0, C1, C2, C3, C4, C5, C6, C7]) := ⟨zC4.cls, A4_plots, A4_there, A4_worth, A4_held, A4_told, A4_opened, A4_given, zC5.cls, A5_end, A5_row, A5_steps, A5_told, A5_opened, A5_given, zC6.cls, A6_cells, A6_spare, A6_held, A6_under, A6_mine, zC7.cls, A7_choices, A7_row, A7_word, A7_steps⟩
  refine ⟨clsL [C0, C1, C2, C3, C4, C5, C6, C7], PySem.W.fnOf "law" "law" (defArgs s_law) (defBody s_law) (defScope s_law) .none kV dc pm an cd ct, fun s v => .of_eq rfl, fun base _ _ => ?_⟩
  have M_PlotError : mg "PlotError" = some (.ref ((clsL [C0, C1, C2, C3, C4, C5, C6, C7]) 0)) := PySem.W.mg_of X G aC0
  have M_BadPlots : mg "BadPlots" = some (.ref ((clsL [C0, C1, C2, C3, C4, C5, C6, C7]) 1)) := PySem.W.mg_of X G aC1
  have M_BadRows : mg "BadRows" = some (.ref ((clsL [C0, C1, C2, C3, C4, C5, C6, C7]) 2)) := PySem.W.mg_of X G aC2
  have M_BadRun : mg "BadRun" = some (.ref ((clsL [C0, C1, C2, C3, C4, C5, C6, C7]) 3)) := PySem.W.mg_of X G aC3
  have N_ValueError : mg "ValueError" = none := PySem.W.mg_none_of X G nB_ValueError
  have TS_PlotError : TstOk K (clsL [C0, C1, C2, C3, C4, C5, C6, C7]) [(1, true), (2, true), (3, true)] (.ref ((clsL [C0, C1, C2, C3, C4, C5, C6, C7]) 0)) := fun p hp => by
    simp only [List.mem_cons, List.mem_nil_iff, or_false] at hp
    rcases hp with hp | hp | hp <;> subst hp <;> first | exact exm_of e3_0.1 e3_0.2.1 e3_0.2.2 s_1_0 | exact exm_of e3_0.1 e3_0.2.1 e3_0.2.2 s_2_0 | exact exm_of e3_0.1 e3_0.2.1 e3_0.2.2 s_3_0
  have KO_BadPlots : KitOk K (clsL [C0, C1, C2, C3, C4, C5, C6, C7]) [(1, true), (2, false), (3, false)] [1, 2, 3] (.ref ((clsL [C0, C1, C2, C3, C4, C5, C6, C7]) 1)) := fun n hn => by simp only [List.mem_cons, List.mem_nil_iff, or_false] at hn; rcases hn with hn | hn | hn <;> subst hn <;> first | exact ko_1_BadPlots | exact ko_2_BadPlots | exact ko_3_BadPlots
  have KO_BadRows : KitOk K (clsL [C0, C1, C2, C3, C4, C5, C6, C7]) [(1, false), (2, true), (3, false)] [1, 2, 3] (.ref ((clsL [C0, C1, C2, C3, C4, C5, C6, C7]) 2)) := fun n hn => by simp only [List.mem_cons, List.mem_nil_iff, or_false] at hn; rcases hn with hn | hn | hn <;> subst hn <;> first | exact ko_1_BadRows | exact ko_2_BadRows | exact ko_3_BadRows
  have KO_BadRun : KitOk K (clsL [C0, C1, C2, C3, C4, C5, C6, C7]) [(1, false), (2, false), (3, true)] [1, 2, 3] (.ref ((clsL [C0, C1, C2, C3, C4, C5, C6, C7]) 3)) := fun n hn => by simp only [List.mem_cons, List.mem_nil_iff, or_false] at hn; rcases hn with hn | hn | hn <;> subst hn <;> first | exact ko_1_BadRun | exact ko_2_BadRun | exact ko_3_BadRun
  have KO_ValueError : KitOk K (clsL [C0, C1, C2, C3, C4, C5, C6, C7]) [(1, true), (2, true), (3, true)] [1, 2, 3] (.type "ValueError") := fun n hn => by simp only [List.mem_cons, List.mem_nil_iff, or_false] at hn; rcases hn with hn | hn | hn <;> subst hn <;> first | exact ko_1_ValueError | exact ko_2_ValueError | exact ko_3_ValueError
  have XI : ∀ n ∈ ([1, 2, 3] : List Nat), IsxC K ((clsL [C0, C1, C2, C3, C4, C5, C6, C7]) n) := fun n hn => by simp only [List.mem_cons, List.mem_nil_iff, or_false] at hn; rcases hn with hn | hn | hn <;> subst hn <;> first | exact zX1.isx cl0 cl1 | exact zX2.isx cl0 cl1 | exact zX3.isx cl0 cl1
  have XA : ∀ n ∈ ([1, 2, 3] : List Nat), FactX K ((clsL [C0, C1, C2, C3, C4, C5, C6, C7]) n) := fun n hn => by simp only [List.mem_cons, List.mem_nil_iff, or_false] at hn; rcases hn with hn | hn | hn <;> subst hn <;> first | exact zX1 | exact zX2 | exact zX3
  have R0_BadRun : MakX0 K mg (clsL [C0, C1, C2, C3, C4, C5, C6, C7]) 3 "BadRun" := ⟨r0_3, M_BadRun, zX3.kC, zX3.exC, zX3.tyC⟩
  have C__law_at : CalP l.prog w K mg base (clsL [C0, C1, C2, C3, C4, C5, C6, C7]) 1 "_law_at" f__law_at := (D__law_at.at_ (ps := ["_law_script", "_law_k"]) X G fun _ _ _ _ _ _ us hl => match us, hl with | [_, _], _ => rfl).cal fun F => ok__law_at F T TC
  have C_BadRows___init__ : MakX l.prog w K mg base (clsL [C0, C1, C2, C3, C4, C5, C6, C7]) 1 2 "BadRows" := MetAt.makX (cm := (clsL [C0, C1, C2, C3, C4, C5, C6, C7])) (n := 2) (D_BadRows___init__.at_ (ps := ["self", "at"]) fun _ _ _ _ _ _ us hl => match us, hl with | [_, _], _ => rfl) zX2 M_BadRows (fun _ i => beq_iff_eq.mp i) fun F => ok_BadRows___init__ F zX2 p0_0 M_PlotError
  have C_BadPlots___init__ : MakX l.prog w K mg base (clsL [C0, C1, C2, C3, C4, C5, C6, C7]) 1 1 "BadPlots" := MetAt.makX (cm := (clsL [C0, C1, C2, C3, C4, C5, C6, C7])) (n := 1) (D_BadPlots___init__.at_ (ps := ["self", "at"]) fun _ _ _ _ _ _ us hl => match us, hl with | [_, _], _ => rfl) zX1 M_BadPlots (fun _ i => beq_iff_eq.mp i) fun F => ok_BadPlots___init__ F zX1 p0_0 M_PlotError
  have C_is_name : CalP l.prog w K mg base (clsL [C0, C1, C2, C3, C4, C5, C6, C7]) 1 "is_name" f_is_name := (D_is_name.at_ (ps := ["thing"]) X G fun _ _ _ _ _ _ us hl => match us, hl with | [_], _ => rfl).cal fun F => ok_is_name F T k_LETTERS TC
  have C_is_plot : CalP l.prog w K mg base (clsL [C0, C1, C2, C3, C4, C5, C6, C7]) 2 "is_plot" f_is_plot := (D_is_plot.at_ (ps := ["ahead", "pair"]) X G fun _ _ _ _ _ _ us hl => match us, hl with | [_, _], _ => rfl).cal fun F => ok_is_plot F T TC C_is_name
  have C_need_plots : CalX l.prog w K mg base (clsL [C0, C1, C2, C3, C4, C5, C6, C7]) 3 "need_plots" f_need_plots := (D_need_plots.at_ (ps := ["plots"]) X G fun _ _ _ _ _ _ us hl => match us, hl with | [_], _ => rfl).calX fun F => ok_need_plots F T k_MOST_PLOTS TC C_BadPlots___init__ C_is_plot
  have C_is_whole : CalP l.prog w K mg base (clsL [C0, C1, C2, C3, C4, C5, C6, C7]) 1 "is_whole" f_is_whole := (D_is_whole.at_ (ps := ["thing"]) X G fun _ _ _ _ _ _ us hl => match us, hl with | [_], _ => rfl).cal fun F => ok_is_whole F T TC
  have C_is_part : CalP l.prog w K mg base (clsL [C0, C1, C2, C3, C4, C5, C6, C7]) 2 "is_part" f_is_part := (D_is_part.at_ (ps := ["form", "thing", "known", "many"]) X G fun _ _ _ _ _ _ us hl => match us, hl with | [_, _, _, _], _ => rfl).cal fun F => ok_is_part F T k_MOST_NUMBER TC C_is_name C_is_whole
  have C_is_row : CalP l.prog w K mg base (clsL [C0, C1, C2, C3, C4, C5, C6, C7]) 3 "is_row" f_is_row := (D_is_row.at_ (ps := ["row", "known", "many"]) X G fun _ _ _ _ _ _ us hl => match us, hl with | [_, _, _], _ => rfl).cal fun F => ok_is_row F T kt_FORMS TC C_is_part
  have C_need : CalX l.prog w K mg base (clsL [C0, C1, C2, C3, C4, C5, C6, C7]) 4 "need" f_need := (D_need.at_ (ps := ["plots", "rows"]) X G fun _ _ _ _ _ _ us hl => match us, hl with | [_, _], _ => rfl).calX fun F => ok_need F T k_MOST_ROWS TC C_need_plots C_BadRows___init__ C_is_row
  have C_need_run : CalX l.prog w K mg base (clsL [C0, C1, C2, C3, C4, C5, C6, C7]) 2 "need_run" f_need_run := (D_need_run.at_ (ps := ["inputs", "steps"]) X G fun _ _ _ _ _ _ us hl => match us, hl with | [_, _], _ => rfl).calX fun F => ok_need_run F T k_MOST_STEPS R0_BadRun TC C_is_whole
  have C_row_at : CalP l.prog w K mg base (clsL [C0, C1, C2, C3, C4, C5, C6, C7]) 1 "row_at" f_row_at := (D_row_at.at_ (ps := ["rows", "place"]) X G fun _ _ _ _ _ _ us hl => match us, hl with | [_, _], _ => rfl).cal fun F => ok_row_at F T TC
  have C_Store___init__ : MakC l.prog w K mg base (clsL [C0, C1, C2, C3, C4, C5, C6, C7]) 1 4 "Store" [true, false] f_Store___init__ := MetAt.mak (cm := (clsL [C0, C1, C2, C3, C4, C5, C6, C7])) (n := 4) (D_Store___init__.at_ (ps := ["self", "plots"]) fun _ _ _ _ _ _ us hl => match us, hl with | [_, _], _ => rfl) zC4 (PySem.W.mg_of X G aC4) fun F => ok_Store___init__ F T TC
  have C_Store_number_of : MetP l.prog w K mg base (clsL [C0, C1, C2, C3, C4, C5, C6, C7]) 1 4 "number_of" f_Store_number_of := MetAt.met (cm := (clsL [C0, C1, C2, C3, C4, C5, C6, C7])) (n := 4) (D_Store_number_of.at_ (ps := ["self", "plot"]) fun _ _ _ _ _ _ us hl => match us, hl with | [_, _], _ => rfl) zC4.cls fun F => ok_Store_number_of F T TC
  have C_Store_laid : MetC l.prog w K mg base (clsL [C0, C1, C2, C3, C4, C5, C6, C7]) 2 4 "laid" [true, false, false, false] f_Store_laid := MetAt.metC (cm := (clsL [C0, C1, C2, C3, C4, C5, C6, C7])) (n := 4) (D_Store_laid.at_ (ps := ["self", "name", "plot", "worth"]) fun _ _ _ _ _ _ us hl => match us, hl with | [_, _, _, _], _ => rfl) zC4.cls fun F => ok_Store_laid F T TC C_Store_number_of
  have C_outward : CalP l.prog w K mg base (clsL [C0, C1, C2, C3, C4, C5, C6, C7]) 1 "outward" f_outward := (D_outward.at_ (ps := ["plots", "plot"]) X G fun _ _ _ _ _ _ us hl => match us, hl with | [_, _], _ => rfl).cal fun F => ok_outward F T TC
  have C_Store_begun : MetC l.prog w K mg base (clsL [C0, C1, C2, C3, C4, C5, C6, C7]) 2 4 "begun" [true, false] f_Store_begun := MetAt.metC (cm := (clsL [C0, C1, C2, C3, C4, C5, C6, C7])) (n := 4) (D_Store_begun.at_ (ps := ["self", "plot"]) fun _ _ _ _ _ _ us hl => match us, hl with | [_, _], _ => rfl) zC4.cls fun F => ok_Store_begun F T TC C_Store_number_of C_outward
  have C_Store_lack : MetP l.prog w K mg base (clsL [C0, C1, C2, C3, C4, C5, C6, C7]) 1 4 "lack" f_Store_lack := MetAt.met (cm := (clsL [C0, C1, C2, C3, C4, C5, C6, C7])) (n := 4) (D_Store_lack.at_ (ps := ["self", "name"]) fun _ _ _ _ _ _ us hl => match us, hl with | [_, _], _ => rfl) zC4.cls fun F => ok_Store_lack F T TC
  have C_Store_worth_of : MetP l.prog w K mg base (clsL [C0, C1, C2, C3, C4, C5, C6, C7]) 1 4 "worth_of" f_Store_worth_of := MetAt.met (cm := (clsL [C0, C1, C2, C3, C4, C5, C6, C7])) (n := 4) (D_Store_worth_of.at_ (ps := ["self", "name"]) fun _ _ _ _ _ _ us hl => match us, hl with | [_, _], _ => rfl) zC4.cls fun F => ok_Store_worth_of F T TC
  have C_Store_copied : MetC l.prog w K mg base (clsL [C0, C1, C2, C3, C4, C5, C6, C7]) 3 4 "copied" [true, false, false, false] f_Store_copied := MetAt.metC (cm := (clsL [C0, C1, C2, C3, C4, C5, C6, C7])) (n := 4) (D_Store_copied.at_ (ps := ["self", "name", "other", "plot"]) fun _ _ _ _ _ _ us hl => match us, hl with | [_, _, _, _], _ => rfl) zC4.cls fun F => ok_Store_copied F T TC C_Store_lack C_Store_laid C_Store_worth_of
  have C_Store_shared : MetC l.prog w K mg base (clsL [C0, C1, C2, C3, C4, C5, C6, C7]) 1 4 "shared" [true, false, false] f_Store_shared := MetAt.metC (cm := (clsL [C0, C1, C2, C3, C4, C5, C6, C7])) (n := 4) (D_Store_shared.at_ (ps := ["self", "name", "other"]) fun _ _ _ _ _ _ us hl => match us, hl with | [_, _, _], _ => rfl) zC4.cls fun F => ok_Store_shared F T TC
  have C_Store_grown : MetC l.prog w K mg base (clsL [C0, C1, C2, C3, C4, C5, C6, C7]) 2 4 "grown" [true, false, false] f_Store_grown := MetAt.metC (cm := (clsL [C0, C1, C2, C3, C4, C5, C6, C7])) (n := 4) (D_Store_grown.at_ (ps := ["self", "name", "other"]) fun _ _ _ _ _ _ us hl => match us, hl with | [_, _, _], _ => rfl) zC4.cls fun F => ok_Store_grown F T TC C_Store_lack C_Store_worth_of
  have C_Store_said : MetC l.prog w K mg base (clsL [C0, C1, C2, C3, C4, C5, C6, C7]) 2 4 "said" [true, false] f_Store_said := MetAt.metC (cm := (clsL [C0, C1, C2, C3, C4, C5, C6, C7])) (n := 4) (D_Store_said.at_ (ps := ["self", "name"]) fun _ _ _ _ _ _ us hl => match us, hl with | [_, _], _ => rfl) zC4.cls fun F => ok_Store_said F T TC C_Store_lack C_Store_worth_of
  have C_Store_gone : MetC l.prog w K mg base (clsL [C0, C1, C2, C3, C4, C5, C6, C7]) 2 4 "gone" [true, false] f_Store_gone := MetAt.metC (cm := (clsL [C0, C1, C2, C3, C4, C5, C6, C7])) (n := 4) (D_Store_gone.at_ (ps := ["self", "plot"]) fun _ _ _ _ _ _ us hl => match us, hl with | [_, _], _ => rfl) zC4.cls fun F => ok_Store_gone F T TC C_Store_number_of C_outward
  have C_Store_do : MetC l.prog w K mg base (clsL [C0, C1, C2, C3, C4, C5, C6, C7]) 4 4 "do" [true, false] f_Store_do := MetAt.metC (cm := (clsL [C0, C1, C2, C3, C4, C5, C6, C7])) (n := 4) (D_Store_do.at_ (ps := ["self", "row"]) fun _ _ _ _ _ _ us hl => match us, hl with | [_, _], _ => rfl) zC4.cls fun F => ok_Store_do F T TC C_Store_begun C_Store_laid C_Store_copied C_Store_shared C_Store_grown C_Store_said C_Store_gone
  have C_Outcome___init__ : MakI l.prog w K mg base (clsL [C0, C1, C2, C3, C4, C5, C6, C7]) 1 5 "Outcome" f_Outcome___init__ := MetAt.makI (cm := (clsL [C0, C1, C2, C3, C4, C5, C6, C7])) (n := 5) (D_Outcome___init__.at_ (ps := ["self", "end", "row", "steps", "store"]) fun _ _ _ _ _ _ us hl => match us, hl with | [_, _, _, _, _], _ => rfl) zC5 (PySem.W.mg_of X G aC5) fun F => ok_Outcome___init__ F T TC
  have C_run : CalX l.prog w K mg base (clsL [C0, C1, C2, C3, C4, C5, C6, C7]) 5 "run" f_run := (D_run.at_ (ps := ["plots", "rows", "inputs", "steps"]) X G fun _ _ _ _ _ _ us hl => match us, hl with | [_, _, _, _], _ => rfl).calX fun F => ok_run F T TC C_need C_need_run C_Store___init__ C_row_at C_Store_do C_Outcome___init__
  have C_Field___init__ : MakC l.prog w K mg base (clsL [C0, C1, C2, C3, C4, C5, C6, C7]) 2 6 "Field" [true, false] f_Field___init__ := MetAt.mak (cm := (clsL [C0, C1, C2, C3, C4, C5, C6, C7])) (n := 6) (D_Field___init__.at_ (ps := ["self", "plots"]) fun _ _ _ _ _ _ us hl => match us, hl with | [_, _], _ => rfl) zC6 (PySem.W.mg_of X G aC6) fun F => ok_Field___init__ F T TC C_outward
  have C_Field_lay : MetC l.prog w K mg base (clsL [C0, C1, C2, C3, C4, C5, C6, C7]) 1 6 "lay" [true, false, false, false] f_Field_lay := MetAt.metC (cm := (clsL [C0, C1, C2, C3, C4, C5, C6, C7])) (n := 6) (D_Field_lay.at_ (ps := ["self", "name", "plot", "worth"]) fun _ _ _ _ _ _ us hl => match us, hl with | [_, _, _, _], _ => rfl) zC6.cls fun F => ok_Field_lay F T TC
  have C_Field_give : MetC l.prog w K mg base (clsL [C0, C1, C2, C3, C4, C5, C6, C7]) 1 6 "give" [true, false] f_Field_give := MetAt.metC (cm := (clsL [C0, C1, C2, C3, C4, C5, C6, C7])) (n := 6) (D_Field_give.at_ (ps := ["self", "plot"]) fun _ _ _ _ _ _ us hl => match us, hl with | [_, _], _ => rfl) zC6.cls fun F => ok_Field_give F T TC
  have C_Field_do : MetC l.prog w K mg base (clsL [C0, C1, C2, C3, C4, C5, C6, C7]) 2 6 "do" [true, false, true] f_Field_do := MetAt.metC (cm := (clsL [C0, C1, C2, C3, C4, C5, C6, C7])) (n := 6) (D_Field_do.at_ (ps := ["self", "row", "told"]) fun _ _ _ _ _ _ us hl => match us, hl with | [_, _, _], _ => rfl) zC6.cls fun F => ok_Field_do F T TC C_Field_lay C_Field_give
  have C_bare : CalX l.prog w K mg base (clsL [C0, C1, C2, C3, C4, C5, C6, C7]) 5 "bare" f_bare := (D_bare.at_ (ps := ["plots", "rows", "inputs", "steps"]) X G fun _ _ _ _ _ _ us hl => match us, hl with | [_, _, _, _], _ => rfl).calX fun F => ok_bare F T TC C_need C_need_run C_Field___init__ C_row_at C_Field_do
  have C_Wrong___init__ : MakI l.prog w K mg base (clsL [C0, C1, C2, C3, C4, C5, C6, C7]) 1 7 "Wrong" f_Wrong___init__ := MetAt.makI (cm := (clsL [C0, C1, C2, C3, C4, C5, C6, C7])) (n := 7) (D_Wrong___init__.at_ (ps := ["self", "choices", "outcome"]) fun _ _ _ _ _ _ us hl => match us, hl with | [_, _, _], _ => rfl) zC7 (PySem.W.mg_of X G aC7) fun F => ok_Wrong___init__ F T TC
  have C_at_first : CalP l.prog w K mg base (clsL [C0, C1, C2, C3, C4, C5, C6, C7]) 1 "at_first" f_at_first := (D_at_first.at_ (ps := ["plots", "rows"]) X G fun _ _ _ _ _ _ us hl => match us, hl with | [_, _], _ => rfl).cal fun F => ok_at_first F T k_NAMED TC
  have C_wrong_by_plot : CalP l.prog w K mg base (clsL [C0, C1, C2, C3, C4, C5, C6, C7]) 2 "wrong_by_plot" f_wrong_by_plot := (D_wrong_by_plot.at_ (ps := ["plots", "row", "plot", "is_open"]) X G fun _ _ _ _ _ _ us hl => match us, hl with | [_, _, _, _], _ => rfl).cal fun F => ok_wrong_by_plot F T TC C_outward
  have C_wrong_by : CalP l.prog w K mg base (clsL [C0, C1, C2, C3, C4, C5, C6, C7]) 3 "wrong_by" f_wrong_by := (D_wrong_by.at_ (ps := ["plots", "row", "fact"]) X G fun _ _ _ _ _ _ us hl => match us, hl with | [_, _, _], _ => rfl).cal fun F => ok_wrong_by F T TC C_wrong_by_plot
  have C_behind_plot : CalP l.prog w K mg base (clsL [C0, C1, C2, C3, C4, C5, C6, C7]) 2 "behind_plot" f_behind_plot := (D_behind_plot.at_ (ps := ["plots", "row", "plot", "is_open"]) X G fun _ _ _ _ _ _ us hl => match us, hl with | [_, _, _, _], _ => rfl).cal fun F => ok_behind_plot F T TC C_outward
  have C_behind : CalP l.prog w K mg base (clsL [C0, C1, C2, C3, C4, C5, C6, C7]) 3 "behind" f_behind := (D_behind.at_ (ps := ["plots", "row", "fact"]) X G fun _ _ _ _ _ _ us hl => match us, hl with | [_, _, _], _ => rfl).cal fun F => ok_behind F T TC C_behind_plot C_outward
  have C_ways_on : CalP l.prog w K mg base (clsL [C0, C1, C2, C3, C4, C5, C6, C7]) 2 "ways_on" f_ways_on := (D_ways_on.at_ (ps := ["rows", "place"]) X G fun _ _ _ _ _ _ us hl => match us, hl with | [_, _], _ => rfl).cal fun F => ok_ways_on F T TC C_row_at
  have C_way_to : CalP l.prog w K mg base (clsL [C0, C1, C2, C3, C4, C5, C6, C7]) 1 "way_to" f_way_to := (D_way_to.at_ (ps := ["came", "node"]) X G fun _ _ _ _ _ _ us hl => match us, hl with | [_, _], _ => rfl).cal fun F => ok_way_to F T TC
  have C_first_wrong : CalP l.prog w K mg base (clsL [C0, C1, C2, C3, C4, C5, C6, C7]) 4 "first_wrong" f_first_wrong := (D_first_wrong.at_ (ps := ["plots", "rows"]) X G fun _ _ _ _ _ _ us hl => match us, hl with | [_, _], _ => rfl).cal fun F => ok_first_wrong F T TC C_at_first C_row_at C_wrong_by C_way_to C_behind C_ways_on
  have C_look : CalX l.prog w K mg base (clsL [C0, C1, C2, C3, C4, C5, C6, C7]) 6 "look" f_look := (D_look.at_ (ps := ["plots", "rows"]) X G fun _ _ _ _ _ _ us hl => match us, hl with | [_, _], _ => rfl).calX fun F => ok_look F T TC C_need C_first_wrong C_Wrong___init__ C_run
  have C__law_called : CalX l.prog w K mg base (clsL [C0, C1, C2, C3, C4, C5, C6, C7]) 7 "_law_called" f__law_called := (D__law_called.at_ (ps := ["_law_kind", "_law_plots", "_law_rows", "_law_inputs", "_law_steps"]) X G fun _ _ _ _ _ _ us hl => match us, hl with | [_, _, _, _, _], _ => rfl).calX fun F => ok__law_called F T TC C_run C_bare C_look
  have C__law_refused : CalP l.prog w K mg base (clsL [C0, C1, C2, C3, C4, C5, C6, C7]) 8 "_law_refused" f__law_refused := (D__law_refused.at_ (ps := ["_law_kind", "_law_plots", "_law_rows", "_law_inputs", "_law_steps"]) X G fun _ _ _ _ _ _ us hl => match us, hl with | [_, _, _, _, _], _ => rfl).cal fun F => ok__law_refused F T M_PlotError M_BadPlots M_BadRows M_BadRun N_ValueError TS_PlotError KO_ValueError KO_BadRun KO_BadRows KO_BadPlots XI TC C__law_called
  exact ok_law (fun_mk (st := s_law) lk cc kk) T TC C__law_at C__law_refused
theorem walk {l : PySem.W.OpenLaw} {q : Program} {loose : List Str} {XP : (Str → Option Value) → Heap → Prop} {YP : World → Heap → Prop} {d : DefRec} {K : Params → PySem.W.Frag} (hn : l.most = some 63) (hdf : d.params.defaults = [])
    (hY : ∀ (w : World) (h : Heap), YP w h → (K w.params).In h)
    (F : ∀ (w : World) (mg : Str → Option Value) (fa : Addr) (h : Heap), (K w.params).In h → h.Ns mainGlobals mg → mg d.name = some (.ref fa) →
      ∃ (cm : Nat → Addr) (fd : FuncData), (∀ (s : Shared) (u : Value), BindsTo s fd ⟨[u], []⟩ [("_law_script", u)]) ∧ ∀ base : Heap, (K w.params).In base → base.Ns mainGlobals mg → FnOk l.prog w (K w.params) mg base CX0 9 fa fd ["_law_script"] (spP (K w.params) cm w f_law)) :
    PySem.W.WalkO q loose XP YP l.row.toRowW d [] (fun f vs => PySem.call f vs) :=
  L2.walk_of (n := 63) (k := 9) (x := "_law_script") (CX := fun _ => CX0) (sp := fun w => spAny (K w.params) w f_law) hn (by decide) hdf ⟨rfl, by decide, by decide⟩ hY (fun w mg fa h a b c => by
    obtain ⟨cm, fd, h1, h2⟩ := F w mg fa h a b c
    exact ⟨fd, h1, fun base i1 i2 => (h2 base i1 i2).imp fun vs H Q E z => z cm⟩) (fun w H a ns hl _ hS cm => law_sp (law_true ns hl) hS) fun _ _ _ _ _ z => z
end K02
open PySem PySem.W PyProof.Rows in
set_option maxRecDepth 100000 in
set_option maxHeartbeats 0 in
theorem PySem.Challenge.cw_plotfree_k02_what_runs_refuse_holds : PySem.Challenge.rw_plotfree_k02_what_runs_refuse.Holds := by
  w_on; o_law; k_head; (case hw => w_witness2)
  k_fill
  refine K02.walk (l := PySem.Challenge.rw_plotfree_k02_what_runs_refuse) rfl rfl (fun w h Y => PySem.W.kIn_of Y) ?F
  case F =>
    intro w mg fa h KX G hmg
    refine' K02.all_mk KX G hmg ?q0 ?q1 ?q2 ?q3 ?q4 ?q5 ?q6 ?q7 ?q8 ?q9 ?q10 ?q11 ?q12 ?q13 ?q14 ?q15 ?q16 ?q17 ?q18 ?q19 ?q20 ?q21 ?q22 ?q23 ?q24 ?q25 ?q26 ?q27 ?q28 ?q29 ?q30 ?q31 ?q32 ?q33 ?q34 ?q35 ?q36 ?q37 ?q38 ?q39 ?q40 ?q41 ?q42 ?q43 ?q44 ?q45 ?q46 ?q47 ?q48 ?q49 ?q50 ?q51 ?q52 ?q53 ?q54 ?q55 ?q56 ?q57 ?q58 ?q59 ?q60 ?q61 ?q62 ?q63 ?q64 ?q65 ?q66 ?q67 ?q68 ?q69 ?q70 ?q71 ?q72 ?q73 ?q74 ?q75 ?q76 ?q77 ?q78 ?q79 ?q80 ?q81 ?q82 ?q83 ?q84 ?q85 ?q86 ?q87 ?q88 ?q89 ?q90 ?q91 ?q92 ?q93 ?q94 ?q95 ?q96 ?q97 ?q98 ?q99 ?q100 ?q101 ?q102 ?q103 ?q104 ?q105 ?q106 ?q107 ?q108 ?q109 ?a ?l ?c ?k
    (case q0 => exact ⟨by k_is, by k_is, by k_is, by k_is, by k_is, by k_is, by k_is, by k_is, by k_is, by k_is, by k_is, by k_is, by k_is⟩)
    (case q1 => k_is)
    (case q2 => exact ⟨by k_is, by k_is, by k_is, by k_is, by k_is, by k_is⟩)
    (case q3 => k_is)
    (case q4 => k_is)
    (case q5 => k_is)
    (case q6 => k_is)
    (case q7 => k_is)
    (case q8 => k_is)
    (case q9 => k_is)
    (case q10 => k_is)
    (case q11 => exact ⟨by k_is, by k_is, by k_is, by k_is, by k_is, by k_is⟩)
    (case q12 => k_is)
    (case q13 => k_is)
    (case q14 => k_is)
    (case q15 => k_is)
    (case q16 => k_is)
    (case q17 => k_is)
    (case q18 => k_is)
    (case q19 => exact ⟨by k_is, by k_is, by k_is, by k_is, by k_is, by k_is⟩)
    (case q20 => k_is)
    (case q21 => k_is)
    (case q22 => k_is)
    (case q23 => k_is)
    (case q24 => k_is)
    (case q25 => k_is)
    (case q26 => exact ⟨by k_is, by k_is, by k_is, by k_is, by k_is, by k_is⟩)
    (case q27 => k_is)
    (case q28 => k_is)
    (case q29 => k_is)
    (case q30 => k_is)
    (case q31 => k_is)
    (case q32 => k_is)
    (case q33 => k_is)
    (case q34 => k_is)
    (case q35 => refine' DL.factX_mk ?x0 ?x1 ?x2 ?x3 ?x4 ?x5 ?x6 ?x7 ?x8 ?x9 ?x10 ?x11; (case x0 => k_is); (case x1 => rfl); (case x2 => k_is); (case x3 => k_is); (case x4 => k_is); (case x5 => k_is); (case x6 => k_is); (case x7 => k_is); (case x8 => k_is); (case x9 => k_is); (case x10 => k_is); (case x11 => k_is))
    (case q36 => refine' DL.factX_mk ?x0 ?x1 ?x2 ?x3 ?x4 ?x5 ?x6 ?x7 ?x8 ?x9 ?x10 ?x11; (case x0 => k_is); (case x1 => rfl); (case x2 => k_is); (case x3 => k_is); (case x4 => k_is); (case x5 => k_is); (case x6 => k_is); (case x7 => k_is); (case x8 => k_is); (case x9 => k_is); (case x10 => k_is); (case x11 => k_is))
    (case q37 => refine' DL.factX_mk ?x0 ?x1 ?x2 ?x3 ?x4 ?x5 ?x6 ?x7 ?x8 ?x9 ?x10 ?x11; (case x0 => k_is); (case x1 => rfl); (case x2 => k_is); (case x3 => k_is); (case x4 => k_is); (case x5 => k_is); (case x6 => k_is); (case x7 => k_is); (case x8 => k_is); (case x9 => k_is); (case x10 => k_is); (case x11 => k_is))
    (case q38 => refine' DL.pinC_mk (mc := .type "type") ?y0 ?y1 ?y2; (case y0 => k_is); (case y1 => k_is); (case y2 => k_is))
    (case q39 => k_exc)
    (case q40 => k_is)
    (case q41 => refine' ⟨?y0, ?y1, ?y2⟩; (case y0 => k_is); (case y1 => k_is); (case y2 => k_is))
    (case q42 => k_is)
    (case q43 => k_is)
    (case q44 => k_is)
    (case q45 => kit_is)
    (case q46 => kit_is)
    (case q47 => kit_is)
    (case q48 => kit_is)
    (case q49 => kit_is)
    (case q50 => kit_is)
    (case q51 => kit_is)
    (case q52 => kit_is)
    (case q53 => kit_is)
    (case q54 => kit_is)
    (case q55 => kit_is)
    (case q56 => kit_is)
    (case q57 => k_is)
    (case q58 => k_is)
    (case q59 => exact DL.factD_mk (by k_is) (by k_is) (by k_is) (by k_is))
    (case q60 => exact DL.factM_mk (by k_is) (by k_is) (by k_is) (by k_is) (by k_is))
    (case q61 => exact DL.factM_mk (by k_is) (by k_is) (by k_is) (by k_is) (by k_is))
    (case q62 => exact DL.factD_mk (by k_is) (by k_is) (by k_is) (by k_is))
    (case q63 => exact DL.factD_mk (by k_is) (by k_is) (by k_is) (by k_is))
    (case q64 => exact DL.factD_mk (by k_is) (by k_is) (by k_is) (by k_is))
    (case q65 => exact DL.factD_mk (by k_is) (by k_is) (by k_is) (by k_is))
    (case q66 => exact DL.factD_mk (by k_is) (by k_is) (by k_is) (by k_is))
    (case q67 => exact DL.factD_mk (by k_is) (by k_is) (by k_is) (by k_is))
    (case q68 => exact DL.factD_mk (by k_is) (by k_is) (by k_is) (by k_is))
    (case q69 => exact DL.factD_mk (by k_is) (by k_is) (by k_is) (by k_is))
    (case q70 => exact DL.factD_mk (by k_is) (by k_is) (by k_is) (by k_is))
    (case q71 => exact DL.factM_mk (by k_is) (by k_is) (by k_is) (by k_is) (by k_is))
    (case q72 => exact DL.factM_mk (by k_is) (by k_is) (by k_is) (by k_is) (by k_is))
    (case q73 => exact DL.factM_mk (by k_is) (by k_is) (by k_is) (by k_is) (by k_is))
    (case q74 => exact DL.factD_mk (by k_is) (by k_is) (by k_is) (by k_is))
    (case q75 => exact DL.factM_mk (by k_is) (by k_is) (by k_is) (by k_is) (by k_is))
    (case q76 => exact DL.factM_mk (by k_is) (by k_is) (by k_is) (by k_is) (by k_is))
    (case q77 => exact DL.factM_mk (by k_is) (by k_is) (by k_is) (by k_is) (by k_is))
    (case q78 => exact DL.factM_mk (by k_is) (by k_is) (by k_is) (by k_is) (by k_is))
    (case q79 => exact DL.factM_mk (by k_is) (by k_is) (by k_is) (by k_is) (by k_is))
    (case q80 => exact DL.factM_mk (by k_is) (by k_is) (by k_is) (by k_is) (by k_is))
    (case q81 => exact DL.factM_mk (by k_is) (by k_is) (by k_is) (by k_is) (by k_is))
    (case q82 => exact DL.factM_mk (by k_is) (by k_is) (by k_is) (by k_is) (by k_is))
    (case q83 => exact DL.factM_mk (by k_is) (by k_is) (by k_is) (by k_is) (by k_is))
    (case q84 => exact DL.factM_mk (by k_is) (by k_is) (by k_is) (by k_is) (by k_is))
    (case q85 => exact DL.factD_mk (by k_is) (by k_is) (by k_is) (by k_is))
    (case q86 => exact DL.factM_mk (by k_is) (by k_is) (by k_is) (by k_is) (by k_is))
    (case q87 => exact DL.factM_mk (by k_is) (by k_is) (by k_is) (by k_is) (by k_is))
    (case q88 => exact DL.factM_mk (by k_is) (by k_is) (by k_is) (by k_is) (by k_is))
    (case q89 => exact DL.factM_mk (by k_is) (by k_is) (by k_is) (by k_is) (by k_is))
    (case q90 => exact DL.factD_mk (by k_is) (by k_is) (by k_is) (by k_is))
    (case q91 => exact DL.factM_mk (by k_is) (by k_is) (by k_is) (by k_is) (by k_is))
    (case q92 => exact DL.factD_mk (by k_is) (by k_is) (by k_is) (by k_is))
    (case q93 => exact DL.factD_mk (by k_is) (by k_is) (by k_is) (by k_is))
    (case q94 => exact DL.factD_mk (by k_is) (by k_is) (by k_is) (by k_is))
    (case q95 => exact DL.factD_mk (by k_is) (by k_is) (by k_is) (by k_is))
    (case q96 => exact DL.factD_mk (by k_is) (by k_is) (by k_is) (by k_is))
    (case q97 => exact DL.factD_mk (by k_is) (by k_is) (by k_is) (by k_is))
    (case q98 => exact DL.factD_mk (by k_is) (by k_is) (by k_is) (by k_is))
    (case q99 => exact DL.factD_mk (by k_is) (by k_is) (by k_is) (by k_is))
    (case q100 => exact DL.factD_mk (by k_is) (by k_is) (by k_is) (by k_is))
    (case q101 => exact DL.factD_mk (by k_is) (by k_is) (by k_is) (by k_is))
    (case q102 => exact DL.factD_mk (by k_is) (by k_is) (by k_is) (by k_is))
    (case q103 => exact ⟨_, by k_is⟩)
    (case q104 => exact ⟨_, by k_is⟩)
    (case q105 => exact ⟨_, by k_is⟩)
    (case q106 => exact ⟨_, by k_is⟩)
    (case q107 => exact ⟨_, by k_is⟩)
    (case q108 => refine' DL.ktab_mk ?ze ?zl ?zk ?zo ?zt; (case ze => k_is); (case zl => k_is); (case zk => k_keys); (case zo => decide); (case zt => exact (DL.kents_cons (DL.kent_some (by k_is)) (DL.kents_cons (DL.kent_some (by k_is)) (DL.kents_cons (DL.kent_some (by k_is)) (DL.kents_cons (DL.kent_some (by k_is)) (DL.kents_cons (DL.kent_some (by k_is)) (DL.kents_cons (DL.kent_none (by k_is)) (DL.kents_cons (DL.kent_none (by k_is)) (DL.kents_cons (DL.kent_none (by k_is)) (DL.kents_cons (DL.kent_none (by k_is)) (DL.kents_cons (DL.kent_none (by k_is)) DL.kents_nil))))))))))))
    (case q109 => refine' DL.ktabT_mk ?ze ?zl ?zk ?zo ?zt; (case ze => k_is); (case zl => k_is); (case zk => k_keys); (case zo => decide); (case zt => exact (DL.kentTs_cons (DL.kentT_some (by k_is) (DL.wtup_mk (by k_is) ⟨by decide, by rfl⟩)) (DL.kentTs_cons (DL.kentT_some (by k_is) (DL.wtup_mk (by k_is) ⟨by decide, by rfl⟩)) (DL.kentTs_cons (DL.kentT_some (by k_is) (DL.wtup_mk (by k_is) ⟨by decide, by rfl⟩)) (DL.kentTs_cons (DL.kentT_some (by k_is) (DL.wtup_mk (by k_is) ⟨by decide, by rfl⟩)) (DL.kentTs_cons (DL.kentT_some (by k_is) (DL.wtup_mk (by k_is) ⟨by decide, by rfl⟩)) (DL.kentTs_cons (DL.kentT_some (by k_is) (DL.wtup_mk (by k_is) ⟨by decide, by rfl⟩)) (DL.kentTs_cons (DL.kentT_some (by k_is) (DL.wtup_mk (by k_is) ⟨by decide, by rfl⟩)) (DL.kentTs_cons (DL.kentT_some (by k_is) (DL.wtup_mk (by k_is) ⟨by decide, by rfl⟩)) (DL.kentTs_cons (DL.kentT_some (by k_is) (DL.wtup_mk (by k_is) ⟨by decide, by rfl⟩)) (DL.kentTs_cons (DL.kentT_some (by k_is) (DL.wtup_mk (by k_is) ⟨by decide, by rfl⟩)) (DL.kentTs_cons (DL.kentT_none (by k_is)) DL.kentTs_nil)))))))))))))
    (case a => k_is)
    (case l => k_is)
    (case c => k_is)
    (case k => k_is)
